/- THE LAW DumpLines: for every input it returns true and its arguments read as before (condition: the listed variables are laid as the text of the program lays them, which the card ties). -/
import Derived.Test.YtnnadieejpaknaaGreatDoorDumpD
import Derived.Test.YtnnadieejpaknaaGreatDoorDumpE
import Derived.Test.YtnnadieejpaknaaGreatDoorDenC
import Derived.Test.YtnnadieejpaknaaGreatDoorTie
import Derived.Test.YtnnadieejpaknaaGreatDoorCards
import Derived.ProofKit
import Derived.Lay
import Derived.LaidMore
import Derived.MakeChecks
import Derived.ChangeShapes
import Derived.SevenTiedAt
import Derived.OpenShut
import Derived.Stop.Joined
set_option linter.unusedVariables false
set_option linter.unusedSimpArgs false
set_option linter.unusedSectionVars false
set_option linter.deprecated false

/- The document's Lines and Key; the law. -/
namespace Go.Proofs.YtnnadieejpaknaaGreatDoor
open Go Go.Den
set_option maxRecDepth 10000
set_option maxHeartbeats 1000000

theorem take_succ_getD {l : List UInt8} {k : Nat} (h : k < l.length) : l.take (k + 1) = l.take k ++ [l.getD k 0] := by
  rw [List.take_succ_eq_append_getElem h, List.getD_eq_getElem?_getD, List.getElem?_eq_getElem h]; rfl

theorem st_succ {l : List UInt8} {k : Nat} (h : k < l.length) : stL (l.take (k + 1)) = stepL (stL (l.take k)) (l.getD k 0) := by
  rw [take_succ_getD h, st_snoc]

theorem st_len : ∀ (l : List UInt8), (stL l).1.length + (stL l).2.length ≤ l.length := by
  intro l
  have key : ∀ (l : List UInt8) (p : List (List UInt8) × List UInt8), (l.foldl stepL p).1.length + (l.foldl stepL p).2.length ≤ l.length + (p.1.length + p.2.length) := by
    intro l
    induction l with
    | nil => intro p; simp
    | cons b bs ih =>
      intro p
      rw [List.foldl_cons]
      have := ih (stepL p b)
      unfold stepL at this
      split at this <;> simp at this ⊢ <;> (unfold stepL; simp [*]; omega)
  have := key l ([], [])
  simpa [stL] using this

theorem refLines_D (l : List UInt8) (hl : l.length < 2^30) (H : List AObj) (lo : Option Nat) : ∃ r, D X (.fn (.func fn_ref30_Lines) [] []) [S l] ⟨H, lo⟩ = some (.ret r ⟨H, lo⟩) ∧ Rv r 1 (ls (linesR l)) := by
  suffices h : ∃ cr, D X (.fn (.func fn_ref30_Lines) [] []) [S l] ⟨H, lo⟩ = some cr ∧ (fun cr => ∃ r, cr = CRes.ret r ⟨H, lo⟩ ∧ Rv r 1 (ls (linesR l))) cr by
    obtain ⟨cr, h1, r, rfl, h2⟩ := h
    exact ⟨r, h1, h2⟩
  refine D_fn_ex pf_ref30_Lines rfl rfl rfl fun N hN => ?_
  simp (maxSteps := 2000000) (disch := omega) only [F1, ↓Int.cast_ofNat_Int, ↓R1, R2, C1, P1, N1, O1, V1, V2, V3, reduceCtorEq, Nat.reduceEqDiff, Nat.reduceBEq, Nat.reduceAdd, Nat.reduceSub, Nat.reduceMul, Nat.reduceLeDiff, Nat.reduceLT, Int.reduceEq, Int.reduceAdd, Int.reduceSub, Int.reduceMul, Int.reduceLT, Int.reduceLE, Int.reduceNeg, Int.reduceToNat, wrap_i64, wrap_u64, wrap_u8, wrap_u16, wrap_u32, wrap_i32, base_get0, base_get, base_set0, base_set, base_take, take_self, take_app1, pf_ref30_Lines, hN]
  refine wp_loopN l.length (fun k e H' => H <+: H' ∧ e 0 = S l ∧ Own N H' (e 3) 1 ty_string (ls (stL (l.take k)).1) ∧ e 4 = S (stL (l.take k)).2 ∧ e 5 = .int .i64 k) 0 (by omega) ?_ ?_
  · simp (maxSteps := 2000000) (disch := omega) only [F1, ↓Int.cast_ofNat_Int, ↓R1, R2, C1, P1, N1, O1, V1, V2, V3, reduceCtorEq, Nat.reduceEqDiff, Nat.reduceBEq, Nat.reduceAdd, Nat.reduceSub, Nat.reduceMul, Nat.reduceLeDiff, Nat.reduceLT, Int.reduceEq, Int.reduceAdd, Int.reduceSub, Int.reduceMul, Int.reduceLT, Int.reduceLE, Int.reduceNeg, Int.reduceToNat, wrap_i64, wrap_u64, wrap_u8, wrap_u16, wrap_u32, wrap_i32, base_get0, base_get, base_set0, base_set, base_take, take_self, take_app1]
    exact ⟨List.prefix_rfl, Own.nils, rfl⟩
  rintro k hk e H' ⟨hp, h0, h3, h4, h5⟩ n hn
  have hlen := st_len (l.take k)
  rw [List.length_take, Nat.min_eq_left hk] at hlen
  simp (maxSteps := 2000000) (disch := omega) only [condK_dec, ↓Int.cast_ofNat_Int, ↓R1, R2, C1, P1, N1, O1, V1, V2, V3, reduceCtorEq, Nat.reduceEqDiff, Nat.reduceBEq, Nat.reduceAdd, Nat.reduceSub, Nat.reduceMul, Nat.reduceLeDiff, Nat.reduceLT, Int.reduceEq, Int.reduceAdd, Int.reduceSub, Int.reduceMul, Int.reduceLT, Int.reduceLE, Int.reduceNeg, Int.reduceToNat, wrap_i64, wrap_u64, wrap_u8, wrap_u16, wrap_u32, wrap_i32, base_get0, base_get, base_set0, base_set, base_take, take_self, take_app1, l1_ref30_Lines, h0, h4, h5]
  refine ⟨fun h => ?_, fun h => ?_⟩
  · have hk' : k < l.length := by omega
    have hs := st_succ hk'
    have hls : ∀ el ∈ [[S (stL (l.take k)).2]], el.length = 1 := by simp
    have hlr : refsLL [[S (stL (l.take k)).2]] = 0 := by simp [refsLL, refsL, refs_S]
    refine ⟨h, fun h10 => ?_, fun h10 => ?_⟩
    · have hb : l.getD k 0 = 10 := UInt8.toNat_inj.1 (by have : (10 : UInt8).toNat = 10 := rfl; omega)
      have e1 : stL (l.take (k + 1)) = ((stL (l.take k)).1 ++ [(stL (l.take k)).2], []) := by rw [hs]; exact if_pos hb
      refine okP_append h3 hp hN (by decide) hls hlr (by simp [ls, room]; omega) fun v' H1 hown hp1 => ?_
      simp (maxSteps := 2000000) (disch := omega) only [F1, ↓Int.cast_ofNat_Int, ↓R1, R2, C1, P1, N1, O1, V1, V2, V3, reduceCtorEq, Nat.reduceEqDiff, Nat.reduceBEq, Nat.reduceAdd, Nat.reduceSub, Nat.reduceMul, Nat.reduceLeDiff, Nat.reduceLT, Int.reduceEq, Int.reduceAdd, Int.reduceSub, Int.reduceMul, Int.reduceLT, Int.reduceLE, Int.reduceNeg, Int.reduceToNat, wrap_i64, wrap_u64, wrap_u8, wrap_u16, wrap_u32, wrap_i32, base_get0, base_get, base_set0, base_set, base_take, take_self, take_app1, h0, h4, h5, e1]
      refine ⟨hk', hp1, ?_⟩
      simpa [ls] using hown
    · have hb : ¬ l.getD k 0 = 10 := fun e => h10 (by rw [e]; rfl)
      have e1 : stL (l.take (k + 1)) = ((stL (l.take k)).1, (stL (l.take k)).2 ++ [l.getD k 0]) := by rw [hs]; exact if_neg hb
      have e2 : List.drop k (List.take (k + 1) l) = [l.getD k 0] := by
        rw [take_succ_getD hk', List.drop_append]
        simp [Nat.min_eq_left (Nat.le_of_lt hk')]
      have e3 : ((k : Int) + 1).toNat = k + 1 := by omega
      simp (maxSteps := 2000000) (disch := omega) only [F1, ↓Int.cast_ofNat_Int, ↓R1, R2, C1, P1, N1, O1, V1, V2, V3, reduceCtorEq, Nat.reduceEqDiff, Nat.reduceBEq, Nat.reduceAdd, Nat.reduceSub, Nat.reduceMul, Nat.reduceLeDiff, Nat.reduceLT, Int.reduceEq, Int.reduceAdd, Int.reduceSub, Int.reduceMul, Int.reduceLT, Int.reduceLE, Int.reduceNeg, Int.reduceToNat, wrap_i64, wrap_u64, wrap_u8, wrap_u16, wrap_u32, wrap_i32, base_get0, base_get, base_set0, base_set, base_take, take_self, take_app1, h0, h4, h5, e1, e2, e3]
      refine ⟨⟨by omega, by omega⟩, ?_, hk', hp, h3⟩
      first | (unfold strRoom; omega) | (simp only [List.length_cons, List.length_nil]; unfold strRoom; omega)
  · have hkl : k = l.length := by omega
    subst hkl
    rw [List.take_length] at h3 h4 hlen
    rw [List.take_length]
    refine ⟨fun hc => ?_, fun hc => ?_⟩
    · have hls : ∀ el ∈ [[S (stL l).2]], el.length = 1 := by simp
      have hlr : refsLL [[S (stL l).2]] = 0 := by simp [refsLL, refsL, refs_S]
      refine okP_append h3 hp hN (by decide) hls hlr (by simp [ls, room]; omega) fun v' H1 hown hp1 => ?_
      simp (maxSteps := 2000000) (disch := omega) only [↓Int.cast_ofNat_Int, ↓R1, R2, C1, P1, N1, O1, V1, V2, V3, reduceCtorEq, Nat.reduceEqDiff, Nat.reduceBEq, Nat.reduceAdd, Nat.reduceSub, Nat.reduceMul, Nat.reduceLeDiff, Nat.reduceLT, Int.reduceEq, Int.reduceAdd, Int.reduceSub, Int.reduceMul, Int.reduceLT, Int.reduceLE, Int.reduceNeg, Int.reduceToNat, wrap_i64, wrap_u64, wrap_u8, wrap_u16, wrap_u32, wrap_i32, base_get0, base_get, base_set0, base_set, base_take, take_self, take_app1, h4]
      have hr0 : refsLL (ls (stL l).1 ++ [[S (stL l).2]]) ≤ N := by
        have : ls (stL l).1 ++ [[S (stL l).2]] = ls ((stL l).1 ++ [(stL l).2]) := by simp [ls]
        rw [this, show refsLL (ls ((stL l).1 ++ [(stL l).2])) = 0 from refsLL_map (fun x => by simp [refsL, refs_S]) _]; exact Nat.zero_le _
      rw [hown.finish1 hr0]
      refine ⟨_, ret_eq rfl (take_pre hN hp1), ?_⟩
      have : ls (linesR l) = ls (stL l).1 ++ [[S (stL l).2]] := by unfold linesR; rw [if_neg hc]; simp [ls]
      rw [this]; exact hown.frz_rv
    · have hc := Classical.not_not.1 hc
      have hr0 : refsLL (ls (stL l).1) ≤ N := by
        rw [show refsLL (ls (stL l).1) = 0 from refsLL_map (fun x => by simp [refsL, refs_S]) _]; exact Nat.zero_le _
      rw [h3.finish1 hr0]
      refine ⟨_, ret_eq rfl (take_pre hN hp), ?_⟩
      unfold linesR; rw [if_pos hc]; exact h3.frz_rv

/-- How many blanks. -/
def blanks (l : List UInt8) : Nat := (l.filter fun b => b = 32).length

theorem blanks_succ {l : List UInt8} {k : Nat} (h : k < l.length) : blanks (l.take (k + 1)) = if l.getD k 0 = 32 then blanks (l.take k) + 1 else blanks (l.take k) := by
  rw [take_succ_getD h]
  unfold blanks
  rw [List.filter_append, List.length_append]
  generalize l.getD k 0 = b
  by_cases hb : b = 32 <;> simp [hb]

theorem drop_getD {l : List UInt8} {k : Nat} (h : k < l.length) : l.drop k = l.getD k 0 :: l.drop (k + 1) := by
  rw [List.drop_eq_getElem_cons h, List.getD_eq_getElem?_getD, List.getElem?_eq_getElem h]; rfl

theorem refKey_D (l : List UInt8) (hl : l.length < 2^30) (H : List AObj) (lo : Option Nat) : D X (.fn (.func fn_ref30_Key) [] []) [S l] ⟨H, lo⟩ = some (.ret (S (keyR 0 l)) ⟨H, lo⟩) := by
  refine D_fn pf_ref30_Key rfl rfl rfl fun N hN => ?_
  simp (maxSteps := 2000000) (disch := omega) only [F1, ↓Int.cast_ofNat_Int, ↓R1, R2, C1, P1, N1, O1, V1, V2, V3, reduceCtorEq, Nat.reduceEqDiff, Nat.reduceBEq, Nat.reduceAdd, Nat.reduceSub, Nat.reduceMul, Nat.reduceLeDiff, Nat.reduceLT, Int.reduceEq, Int.reduceAdd, Int.reduceSub, Int.reduceMul, Int.reduceLT, Int.reduceLE, Int.reduceNeg, Int.reduceToNat, wrap_i64, wrap_u64, wrap_u8, wrap_u16, wrap_u32, wrap_i32, base_get0, base_get, base_set0, base_set, base_take, take_self, take_app1, pf_ref30_Key, hN]
  refine wp_loopN l.length (fun k e H' => H' = H ∧ e 0 = S l ∧ e 3 = .int .i64 (blanks (l.take k)) ∧ e 4 = .int .i64 k ∧ blanks (l.take k) ≤ 1 ∧ keyR 0 l = l.take k ++ keyR (blanks (l.take k)) (l.drop k)) 0 (by omega) ?_ ?_
  · simp (maxSteps := 2000000) (disch := omega) only [F1, ↓Int.cast_ofNat_Int, ↓R1, R2, C1, P1, N1, O1, V1, V2, V3, reduceCtorEq, Nat.reduceEqDiff, Nat.reduceBEq, Nat.reduceAdd, Nat.reduceSub, Nat.reduceMul, Nat.reduceLeDiff, Nat.reduceLT, Int.reduceEq, Int.reduceAdd, Int.reduceSub, Int.reduceMul, Int.reduceLT, Int.reduceLE, Int.reduceNeg, Int.reduceToNat, wrap_i64, wrap_u64, wrap_u8, wrap_u16, wrap_u32, wrap_i32, base_get0, base_get, base_set0, base_set, base_take, take_self, take_app1]
    exact ⟨rfl, by simp [blanks], by simp [blanks]⟩
  rintro k hk e H' ⟨rfl, h0, h3, h4, hle, hkey⟩ n hn
  simp (maxSteps := 2000000) (disch := omega) only [condK_dec, F1, ↓Int.cast_ofNat_Int, ↓R1, R2, C1, P1, N1, O1, V1, V2, V3, reduceCtorEq, Nat.reduceEqDiff, Nat.reduceBEq, Nat.reduceAdd, Nat.reduceSub, Nat.reduceMul, Nat.reduceLeDiff, Nat.reduceLT, Int.reduceEq, Int.reduceAdd, Int.reduceSub, Int.reduceMul, Int.reduceLT, Int.reduceLE, Int.reduceNeg, Int.reduceToNat, wrap_i64, wrap_u64, wrap_u8, wrap_u16, wrap_u32, wrap_i32, base_get0, base_get, base_set0, base_set, base_take, take_self, take_app1, l1_ref30_Key, h0, h3, h4]
  refine ⟨fun h => ?_, fun h => ?_⟩
  · have hk' : k < l.length := by omega
    have hs := blanks_succ hk'
    rw [drop_getD hk'] at hkey
    generalize hbe : l.getD k 0 = b at hs hkey
    generalize blanks (l.take k) = m at hs hkey hle
    have ht := take_succ_getD hk'
    rw [hbe] at ht
    refine ⟨h, fun h32 => ?_, fun h32 => ?_⟩
    · have hb : b = 32 := UInt8.toNat_inj.1 (by have : (32 : UInt8).toNat = 32 := rfl; omega)
      rw [if_pos hb] at hs
      simp only [keyR, if_pos hb] at hkey
      refine ⟨fun h2 => ⟨by omega, ret_eq (congrArg S ?_) rfl⟩, fun h2 => ⟨hk', congrArg (AV.int .i64) (by omega), by omega, ?_⟩⟩
      · rw [if_pos (by omega)] at hkey
        rw [hkey]; simp
      · rw [if_neg (by omega)] at hkey
        rw [hkey, hs, ht, hb]; simp
    · have hb : ¬ b = 32 := fun e => h32 (by rw [e]; rfl)
      rw [if_neg hb] at hs
      simp only [keyR, if_neg hb] at hkey
      refine ⟨fun h2 => by omega, fun h2 => ⟨hk', congrArg (AV.int .i64) (by omega), by omega, ?_⟩⟩
      rw [hkey, hs, ht]; simp
  · have hkl : k = l.length := by omega
    subst hkl
    refine ret_eq (congrArg S ?_) rfl
    rw [hkey]; simp [keyR]

theorem ls_get {xs : List (List UInt8)} {j : Nat} : (ls xs).getD j [] = if j < xs.length then [S (xs.getD j [])] else [] := by
  unfold ls
  by_cases h : j < xs.length
  · rw [if_pos h, List.getD_eq_getElem?_getD, List.getElem?_map, List.getElem?_eq_getElem h, List.getD_eq_getElem?_getD, List.getElem?_eq_getElem h]; rfl
  · rw [if_neg h, List.getD_eq_getElem?_getD, List.getElem?_eq_none (by simpa using h)]; rfl

/-- The context of the law: its own check is known. -/
def XU : Ctx := { X with prim := fun f => if f = fn_law30_wakes then some (closedP true) else primT.lookup f }
theorem extU : Ext X XU where
  glob := rfl
  gmap := rfl
  code := rfl
  prim := fun f => by
    by_cases h : f = fn_law30_wakes
    · right; subst h; exact ⟨rfl, rfl⟩
    · left; simp only [XU, X, if_neg h]
theorem wakes_X (H : List AObj) (lo : Option Nat) : D XU (.fn (.func fn_law30_wakes) [] []) [] ⟨H, lo⟩ = some (.ret (.bool true) ⟨H, lo⟩) := D_prim (p := closedP true) rfl rfl
theorem key_U (l : List UInt8) (hl : l.length < 2^30) (H : List AObj) (lo : Option Nat) : D XU (.fn (.func fn_dump_Key) [] []) [S l] ⟨H, lo⟩ = some (.ret (S (keyP l)) ⟨H, lo⟩) := D_ext extU _ _ _ _ (Key_D l hl H lo)
theorem refKey_U (l : List UInt8) (hl : l.length < 2^30) (H : List AObj) (lo : Option Nat) : D XU (.fn (.func fn_ref30_Key) [] []) [S l] ⟨H, lo⟩ = some (.ret (S (keyR 0 l)) ⟨H, lo⟩) := D_ext extU _ _ _ _ (refKey_D l hl H lo)

theorem DumpLines_D (s t : List UInt8) (H : List AObj) (lo : Option Nat) : D XU (.fn (.func fn_law30_DumpLines) [] []) [S s, S t] ⟨H, lo⟩ = some (.ret (.bool true) ⟨H, lo⟩) := by
  refine D_fn pf_law30_DumpLines rfl rfl rfl fun N hN => ?_
  simp (maxSteps := 2000000) (disch := omega) only [F1, ↓Int.cast_ofNat_Int, ↓R1, R2, C1, P1, N1, O1, V1, V2, V3, reduceCtorEq, Nat.reduceEqDiff, Nat.reduceBEq, Nat.reduceAdd, Nat.reduceSub, Nat.reduceMul, Nat.reduceLeDiff, Nat.reduceLT, Int.reduceEq, Int.reduceAdd, Int.reduceSub, Int.reduceMul, Int.reduceLT, Int.reduceLE, Int.reduceNeg, Int.reduceToNat, wrap_i64, wrap_u64, wrap_u8, wrap_u16, wrap_u32, wrap_i32, base_get0, base_get, base_set0, base_set, base_take, take_self, take_app1, pf_law30_DumpLines, hN]
  refine gK_keep 15 (.bool (decide (2000 < s.length ∨ 2000 < t.length))) [0, 1] rfl rfl ?_ fun e0 => ?_
  · simp (maxSteps := 2000000) (disch := omega) only [R4, F1, ↓Int.cast_ofNat_Int, ↓R1, R2, C1, P1, N1, O1, V1, V2, V3, reduceCtorEq, Nat.reduceEqDiff, Nat.reduceBEq, Nat.reduceAdd, Nat.reduceSub, Nat.reduceMul, Nat.reduceLeDiff, Nat.reduceLT, Int.reduceEq, Int.reduceAdd, Int.reduceSub, Int.reduceMul, Int.reduceLT, Int.reduceLE, Int.reduceNeg, Int.reduceToNat, wrap_i64, wrap_u64, wrap_u8, wrap_u16, wrap_u32, wrap_i32, base_get0, base_get, base_set0, base_set, base_take, take_self, take_app1, hN]
    (repeat' (first | apply And.intro | intro _))
    all_goals (refine congrArg AV.bool (Bool.eq_iff_iff.2 ?_); simp; omega)
  simp (maxSteps := 2000000) (disch := omega) only [condK_dec, F1, ↓Int.cast_ofNat_Int, ↓R1, R2, C1, P1, N1, O1, V1, V2, V3, reduceCtorEq, Nat.reduceEqDiff, Nat.reduceBEq, Nat.reduceAdd, Nat.reduceSub, Nat.reduceMul, Nat.reduceLeDiff, Nat.reduceLT, Int.reduceEq, Int.reduceAdd, Int.reduceSub, Int.reduceMul, Int.reduceLT, Int.reduceLE, Int.reduceNeg, Int.reduceToNat, wrap_i64, wrap_u64, wrap_u8, wrap_u16, wrap_u32, wrap_i32, base_get0, base_get, base_set0, base_set, base_take, take_self, take_app1, wakes_X, hN]
  refine ⟨fun h => ?_, fun h => ?_⟩
  · first | trivial | simp (maxSteps := 2000000) (disch := omega) only [F1, ↓Int.cast_ofNat_Int, ↓R1, R2, C1, P1, N1, O1, V1, V2, V3, reduceCtorEq, Nat.reduceEqDiff, Nat.reduceBEq, Nat.reduceAdd, Nat.reduceSub, Nat.reduceMul, Nat.reduceLeDiff, Nat.reduceLT, Int.reduceEq, Int.reduceAdd, Int.reduceSub, Int.reduceMul, Int.reduceLT, Int.reduceLE, Int.reduceNeg, Int.reduceToNat, wrap_i64, wrap_u64, wrap_u8, wrap_u16, wrap_u32, wrap_i32, base_get0, base_get, base_set0, base_set, base_take, take_self, take_app1, wakes_X, hN, take_self hN]
  · have h1 : s.length ≤ 2000 := by omega
    have h2 : t.length ≤ 2000 := by omega
    obtain ⟨a, ea, ha⟩ := Lines_D s (by omega) H none
    replace ea := D_ext extU _ _ _ _ ea
    obtain ⟨b, eb, hb⟩ := refLines_D s (by omega) H none
    replace eb := D_ext extU _ _ _ _ eb
    rw [lines_eq] at ha
    have hlr : (linesR s).length ≤ 2001 := by
      have := st_len s
      unfold linesR; split
      · omega
      · rw [List.length_append, List.length_singleton]; omega
    have ha' : Rv a 1 ((linesR s).map fun x => [S x]) := ha
    have hb' : Rv b 1 ((linesR s).map fun x => [S x]) := hb
    simp (maxSteps := 2000000) (disch := omega) only [F1, ↓Int.cast_ofNat_Int, ↓R1, R2, C1, P1, N1, O1, V1, V2, V3, reduceCtorEq, Nat.reduceEqDiff, Nat.reduceBEq, Nat.reduceAdd, Nat.reduceSub, Nat.reduceMul, Nat.reduceLeDiff, Nat.reduceLT, Int.reduceEq, Int.reduceAdd, Int.reduceSub, Int.reduceMul, Int.reduceLT, Int.reduceLE, Int.reduceNeg, Int.reduceToNat, wrap_i64, wrap_u64, wrap_u8, wrap_u16, wrap_u32, wrap_i32, base_get0, base_get, base_set0, base_set, base_take, take_self, take_app1, ea, eb, ha'.lenM, hb'.lenM, hN]
    refine wp_loopN (linesR s).length (fun k e H' => H' = H ∧ e 1 = S t ∧ e 5 = a ∧ e 6 = b ∧ e 7 = .int .i64 k) 0 (by omega) ?_ ?_
    · simp (maxSteps := 2000000) (disch := omega) only [F1, ↓Int.cast_ofNat_Int, ↓R1, R2, C1, P1, N1, O1, V1, V2, V3, reduceCtorEq, Nat.reduceEqDiff, Nat.reduceBEq, Nat.reduceAdd, Nat.reduceSub, Nat.reduceMul, Nat.reduceLeDiff, Nat.reduceLT, Int.reduceEq, Int.reduceAdd, Int.reduceSub, Int.reduceMul, Int.reduceLT, Int.reduceLE, Int.reduceNeg, Int.reduceToNat, wrap_i64, wrap_u64, wrap_u8, wrap_u16, wrap_u32, wrap_i32, base_get0, base_get, base_set0, base_set, base_take, take_self, take_app1]
    rintro k hk e H' ⟨rfl, q1, q5, q6, q7⟩ n hn
    simp (maxSteps := 2000000) (disch := omega) only [condK_dec, F1, ↓Int.cast_ofNat_Int, ↓R1, R2, C1, P1, N1, O1, V1, V2, V3, reduceCtorEq, Nat.reduceEqDiff, Nat.reduceBEq, Nat.reduceAdd, Nat.reduceSub, Nat.reduceMul, Nat.reduceLeDiff, Nat.reduceLT, Int.reduceEq, Int.reduceAdd, Int.reduceSub, Int.reduceMul, Int.reduceLT, Int.reduceLE, Int.reduceNeg, Int.reduceToNat, wrap_i64, wrap_u64, wrap_u8, wrap_u16, wrap_u32, wrap_i32, base_get0, base_get, base_set0, base_set, base_take, take_self, take_app1, l1_law30_DumpLines, q1, q5, q6, q7, ha'.lenM]
    refine ⟨fun hlt => ?_, fun hge => ?_⟩
    · have hk' : k < (linesR s).length := by omega
      simp (maxSteps := 2000000) (disch := omega) only [F1, ↓Int.cast_ofNat_Int, ↓R1, R2, C1, P1, N1, O1, V1, V2, V3, reduceCtorEq, Nat.reduceEqDiff, Nat.reduceBEq, Nat.reduceAdd, Nat.reduceSub, Nat.reduceMul, Nat.reduceLeDiff, Nat.reduceLT, Int.reduceEq, Int.reduceAdd, Int.reduceSub, Int.reduceMul, Int.reduceLT, Int.reduceLE, Int.reduceNeg, Int.reduceToNat, wrap_i64, wrap_u64, wrap_u8, wrap_u16, wrap_u32, wrap_i32, base_get0, base_get, base_set0, base_set, base_take, take_self, take_app1, ha'.addrM, hb'.addrM, ha'.loadM, hb'.loadM, ha'.fpLM, hb'.fpLM, hlt, q1, q5, q6, q7]
      exact hk'
    · simp (maxSteps := 2000000) (disch := omega) only [F1, ↓Int.cast_ofNat_Int, ↓R1, R2, C1, P1, N1, O1, V1, V2, V3, reduceCtorEq, Nat.reduceEqDiff, Nat.reduceBEq, Nat.reduceAdd, Nat.reduceSub, Nat.reduceMul, Nat.reduceLeDiff, Nat.reduceLT, Int.reduceEq, Int.reduceAdd, Int.reduceSub, Int.reduceMul, Int.reduceLT, Int.reduceLE, Int.reduceNeg, Int.reduceToNat, wrap_i64, wrap_u64, wrap_u8, wrap_u16, wrap_u32, wrap_i32, base_get0, base_get, base_set0, base_set, base_take, take_self, take_app1, key_U t (by omega), refKey_U t (by omega), key_eq, wakes_X, q1, take_self hN]

end Go.Proofs.YtnnadieejpaknaaGreatDoor

/- What the row of this law needs: the listed variables, the primitives, the call, the arguments. -/
namespace Go.Proofs.YtnnadieejpaknaaGreatDoor
open Go Go.Den Go.RowKit Go.ChangeShapes Go.WideShapes Go.ChangeAt
set_option maxRecDepth 100000

theorem own : ownKnob Tryz.prog.godebug = none := by kernel_rfl
abbrev Laid (W : World) : Prop := laidMetH Tryz.prog Rows.dumpLinesRow.laid W

/-- A listed variable. -/
theorem laid_get {P : Program} {w : World} {n : String} {d : DataW Unit} : ∀ {laid : List (String × DataW Unit)} {ps : List MemPlace}, DataW.LaidVars P w laid ps → (n, d) ∈ laid →
    ∃ g t cs fuel p, P.globalNamed n = some g ∧ (P.globals[g]?).map (·.type) = some t ∧ w.var? P n = some cs ∧ DataW.trod (fun _ => ()) P w 0 (fun _ => true) false fuel t cs.toList = some (d, p) ∧ ∀ x ∈ MemPlace.row ⟨g, 0, none⟩ cs.size ++ p, x ∈ ps
  | [], _, _, hm => by cases hm
  | (n', d') :: r, ps, h, hm => by
    obtain ⟨g, t, cs, fuel, p, q, h1, h2, h3, h4, h5, rfl⟩ := h
    rcases List.mem_cons.1 hm with e | hm
    · cases e
      exact ⟨g, t, cs, fuel, p, h1, h2, h3, h4, fun x hx => List.mem_append_left _ hx⟩
    · obtain ⟨g', t', cs', fuel', p', a1, a2, a3, a4, a5⟩ := laid_get h5 hm
      exact ⟨g', t', cs', fuel', p', a1, a2, a3, a4, fun x hx => List.mem_append_right _ (a5 x hx)⟩

theorem var_lt {P : Program} {w : World} {n : String} {g : Nat} {cs : Array Value} (hg : P.globalNamed n = some g) (h : w.var? P n = some cs) : g < w.heap.size := by
  simp only [World.var?, hg, Option.bind_some] at h
  cases hh : w.heap[g]? with
  | none => rw [hh] at h; cases h
  | some o => exact (Array.getElem?_eq_some_iff.1 hh).1

/-- What is asked of one listed variable. -/
def GlobAt (w : World) (g : Nat) (cs : List AV) : Prop := g < w.heap.size ∧ ∃ vs : List Value, (∀ (j : Nat) v, vs[j]? = some v → w.cell? ⟨g, j, none⟩ = some v) ∧ Den.Leaves vs ∧ LRel (Gh.start w) cs vs

theorem glob_plain {P : Program} {w : World} {laid : List (String × DataW Unit)} {ps : List MemPlace} (h : DataW.LaidVars P w laid ps) {n : String} {d : DataW Unit} (hm : (n, d) ∈ laid) {g : Nat} {t : TypeId} (hg : P.globalNamed n = some g) (ht : (P.globals[g]?).map (·.type) = some t)
    (hr : rdb P false 8 t = true) {cs : List AV} (hd : ∀ xs, AtOk P 8 t d xs → xs = cs) : GlobAt w g cs := by
  obtain ⟨g', t', c, fuel, p, h1, h2, h3, h4, _⟩ := laid_get h hm
  obtain rfl : g' = g := Option.some.inj (h1.symm.trans hg)
  obtain rfl : t' = t := Option.some.inj (h2.symm.trans ht)
  obtain ⟨xs, a1, a2, a3, _⟩ := trod_at (nest := false) (fun e => by cases e) 8 t' fuel c.toList d p hr (fun e => by cases e) h4
  obtain rfl := hd xs a1
  refine ⟨var_lt h1 h3, c.toList, fun j v hj => ?_, a3, a2⟩
  rw [World.var?_cell h1 h3]
  simpa using hj

theorem flat_map {α : Type} {F : α → AV} : ∀ {L : List α} {els : List (List AV)}, els.length = L.length → (∀ (i : Nat) (x : α) (b : List AV), L[i]? = some x → els[i]? = some b → b = [F x]) → els.flatten = L.map F
  | [], [], _, _ => rfl
  | [], _ :: _, h, _ => by simp at h
  | _ :: _, [], h, _ => by simp at h
  | x :: L, b :: els, h, hi => by
    have h0 := hi 0 x b rfl rfl
    have ih := flat_map (L := L) (els := els) (by simpa using h) (fun i x b hx hb => hi (i + 1) x b (by simpa using hx) (by simpa using hb))
    simp [h0, ih]

theorem powG_at {w : World} {laid : List (String × DataW Unit)} {ps : List MemPlace} (h : DataW.LaidVars Tryz.prog w laid ps) (hm : ("internal/strconv.uint64pow10", Rows.laid_internal_strconv_uint64pow10) ∈ laid) : GlobAt w g_istrconv_uint64pow10 (pow10L.map fun (n : Nat) => AV.int .u64 n) := by
  refine glob_plain h hm (t := 234) (by kernel_rfl) (by kernel_rfl) (by kernel_rfl) fun xs hx => ?_
  unfold AtOk at hx
  rw [Tryz.underlying234] at hx
  obtain ⟨ds, els, hd, rfl, h1, h2, h3⟩ := hx
  have e : (Rows.laid_internal_strconv_uint64pow10 : DataW Unit) = .agg (pow10L.map fun (n : Nat) => .lit (.int .u64 n)) := rfl
  rw [e] at hd
  cases hd
  refine flat_map (by rw [h2]; rfl) fun i x b hx hb => ?_
  have := h3 i _ b (by rw [List.getElem?_map, hx]; rfl) hb
  unfold AtOk at this
  rw [Tryz.underlying60] at this
  obtain ⟨n, hs, rfl, _⟩ := this
  simp only [DataW.lit.injEq, Lit.int.injEq, true_and] at hs
  subst hs
  rfl


theorem glob_at {W : World} (h : Laid W) : GlobAt W g_istrconv_uint64pow10 (pow10L.map fun (n : Nat) => AV.int .u64 n) := by
  unfold Laid at h
  rw [MakeChecks.laidMetH_plain _ _ _ (by kernel_rfl)] at h
  obtain ⟨ps, hl, _, _⟩ := h
  unfold Rows.dumpLinesRow at hl
  simp only at hl
  exact powG_at hl (by simp)

theorem glob_ok0 {W : World} (h : Laid W) : GlobOk X0 W.heap.size W := by
  refine ⟨fun g cs hg => ?_, fun g es hg => by cases hg⟩
  have hg' : (if g = g_istrconv_uint64pow10 then some (pow10L.map fun (n : Nat) => AV.int .u64 n) else none) = some cs := hg
  split at hg'
  · rename_i e; subst e; cases hg'; exact glob_at h
  · cases hg'

theorem glob_okX {B : Nat} {w : World} : GlobOk X B w := by
  refine ⟨fun _ _ h => ?_, fun _ _ h => ?_⟩
  · cases h
  · cases h

theorem code_okX : CodeOk Tryz.prog X := fun f pf h => by
  have h' : (if f = fn_law30_wakes then none else codeT.lookup f) = some pf := h
  split at h'
  · cases h'
  · exact codeT_ok _ (lookup_mem h')

theorem prim_okX {B : Nat} {w : World} : ∀ f p, X.prim f = some p → PrimOk Tryz.prog B w f p := by
  intro f p h
  have hm := lookup_mem (show primT.lookup f = some p from h)
  simp only [primT, List.mem_cons, Prod.mk.injEq, List.mem_nil_iff, or_false] at hm
  rcases hm with ⟨rfl, rfl⟩ | ⟨rfl, rfl⟩
  · exact count_ok
  · exact index_ok

theorem prim_ok1 {B : Nat} {w : World} (hg : GlobOk X0 B w) : ∀ f p, X1.prim f = some p → PrimOk Tryz.prog B w f p := by
  intro f p h
  have h' : (if f = fn_Pdump_dumper_regions then some regP else if f = fn_Pdump_dumper_tokens then some tokP else X0.prim f) = some p := h
  split at h'
  · rename_i e; subst e; cases h'; exact PrimOk.lit (X := X0) code_ok0 prim_ok0 hg regions_D
  · split at h'
    · rename_i e; subst e; cases h'; exact PrimOk.lit (X := X0) code_ok0 prim_ok0 hg tokens_D
    · exact prim_ok0 f p h'

theorem prim_ok2 {B : Nat} {w : World} (hg : GlobOk X0 B w) : ∀ f p, X2.prim f = some p → PrimOk Tryz.prog B w f p := by
  intro f p h
  have h' : (if f = fn_Pdump_dumper_state then some staP else X0.prim f) = some p := h
  split at h'
  · rename_i e; subst e; cases h'; exact PrimOk.lit (X := X1) code_ok0 (prim_ok1 hg) hg state_D
  · exact prim_ok0 f p h'

theorem prim_ok3 {c : Bool} (hc : D X (.fn (.func fn_dump_Lines) [] []) [S bytes3] ⟨[], none⟩ = some (.ret (linesV c) ⟨[], none⟩)) {B : Nat} {w : World} (hg : GlobOk X0 B w) : ∀ f p, (X3 c).prim f = some p → PrimOk Tryz.prog B w f p := by
  intro f p h
  have h' : (if f = fn_dump_State then some stP else if f = fn_dump_Lines then some (liP c) else X0.prim f) = some p := h
  split at h'
  · rename_i e; subst e; cases h'; exact PrimOk.lit (X := X2) code_ok0 (prim_ok2 hg) hg State_D
  · split at h'
    · rename_i e; subst e; cases h'; exact PrimOk.lit (X := X) code_okX prim_okX glob_okX hc
    · exact prim_ok0 f p h'

theorem prim_okU {B : Nat} {w : World} (hg : GlobOk X0 B w) : ∀ f p, XU.prim f = some p → PrimOk Tryz.prog B w f p := by
  intro f p h
  have h' : (if f = fn_law30_wakes then some (closedP true) else primT.lookup f) = some p := h
  split at h'
  · rename_i e; subst e; cases h'
    obtain ⟨c, hc⟩ := lines_D
    obtain ⟨σ, hσ⟩ := wakes_D c
    exact PrimOk.closed (X := X3 c) code_ok0 (fun B w hg => prim_ok3 hc hg) hσ hg
  · exact prim_okX f p h'

/-- The call. -/
theorem law_calls {W : World} (hL : Laid W) {f : FuncId} {fn : Func} (hfn : Tryz.prog.funcs[f]? = some fn) (hb : fn.body.isSome = true) (hname : (fn.name == "runtime.NumGoroutine") = false)
    {args : List AV} {args' : Array Value} (hl : LRel (Gh.start W) args args'.toList) {σ : AS} (h : D XU (.fn (.func f) [] []) args ⟨[], none⟩ = some (.ret (.bool true) σ)) :
    Calls Tryz.prog f args' W fun e w' => e = .returned (.bool true) ∧ Below W.heap.size W w' := by
  refine (D_calls (X := XU) glob_okX code_okX (prim_okU (glob_ok0 hL)) hfn hb hname hl h).mono ?_
  rintro e w' ⟨G, v', rfl, hv, hbl⟩
  obtain rfl : v' = .bool true := hv
  exact ⟨rfl, hbl⟩

section
variable {H : Type} {enc : TypeId × Value → H} {W : World} {sp : Nat → Bool} {held : Bool} {base : Nat} {v : Value} {d : DataW H} {ps : List MemPlace}
/-- An argument that is a text. -/
theorem open_text (hok : Value.okWide Tryz.prog W .any base 9 v) (h : DataW.Trod enc Tryz.prog W 0 sp held 9 v d ps) : ∃ l : List UInt8, VRel (Gh.start W) (S l) v ∧ l.length ≤ maxLen := by
  obtain ⟨s, rfl⟩ := okWide_string Tryz.underlying9 hok
  obtain ⟨n, h⟩ := h
  obtain ⟨s', e, _, hs⟩ := DataW.trod_string Tryz.underlying9 h
  simp only [Value.cells, List.cons.injEq, Value.string.injEq, and_true] at e
  subst e
  exact ⟨s.data.toList, rfl, hs⟩
end

end Go.Proofs.YtnnadieejpaknaaGreatDoor

/- THE LAW DumpLines: the row's statement and the card. -/
namespace Go.Proofs.YtnnadieejpaknaaGreatDoor
open Go Go.Den Go.RowKit Go.ChangeShapes Go.WideShapes Go.ChangeAt
set_option maxRecDepth 100000

theorem dumpLines_lifted (os : Os) (started : os.Started) (H : Type) (enc : TypeId × Value → H) :
    ReturnsInHanded {} Tryz.checked os 3 .any (fun w args => (Rows.dumpLinesSpec.pre enc Tryz.prog Tryz.f3 [] false w args ∧ laidMetH Tryz.prog Rows.dumpLinesRow.laid w) ∧ sizedMet enc Tryz.prog Tryz.f3 (OpenSpec.ofChange Rows.dumpLinesSpec) false w args)
      (Rows.dumpLinesSpec.post enc Tryz.prog Tryz.f3 false true false false) := by
  refine returnsInHanded_of_change_and (C := Tryz.checked) (X := fun w _ => laidMetH Tryz.prog Rows.dumpLinesRow.laid w) (fun _ _ _ hh h => h.of_heap hh) own started (by kernel_rfl) Tryz.func3
    (ChangeSpec.witness_shaped (enc := enc) (C := Tryz.checked) (os := os) (X := fun w _ => laidMetH Tryz.prog Rows.dumpLinesRow.laid w) false (World.laidAll Tryz.prog os Rows.dumpLinesRow.laid) #[.string ⟨#[]⟩, .string ⟨#[]⟩] 8 (World.laidAll_os _ _ _)
      (World.shaped_of_ZipB (by kernel_rfl) (by kernel_rfl)) (by kernel_rfl) (by kernel_rfl) (by kernel_rfl)
      (by rw [MakeChecks.laidMetH_plain _ _ _ (by kernel_rfl)]; exact laidMet_laidAll _ (by kernel_rfl) (by kernel_rfl))) ?_
  intro W base args ds gs before hval0 hW _ _ hL _
  have hval : ∀ (j : Nat) t v, Tryz.f3.params[j]? = some t → args[j]? = some v → Value.okWide Tryz.prog W .any base t v := hval0
  have hW' := hW
  obtain ⟨p, q, hA0, hV, rfl, _, _⟩ := hW
  have hA : DataW.TrodAll enc Tryz.prog W 0 (fun _ => true) true Tryz.f3.params.toList args.toList ds p := hA0
  have hlt := hW'.lt
  rw [Tryz.params3] at hA hval
  obtain ⟨v0, v1, d0, d1, p0, p1, rfl, rfl, rfl, h0, h1⟩ := trodAll_two hA
  obtain ⟨rfl, rfl⟩ := trodVars_none hV
  obtain ⟨l0, hx0, _⟩ := open_text (hval 0 9 v0 rfl rfl) h0
  obtain ⟨l1, hx1, _⟩ := open_text (hval 1 9 v1 rfl rfl) h1
  refine (law_calls hL (f := 3) Tryz.func3 (by kernel_rfl) (by kernel_rfl) (args := [S l0, S l1]) ⟨_, _, rfl, hx0, _, _, rfl, hx1, rfl⟩
    (DumpLines_D l0 l1 [] none)).mono fun e W' ⟨he, hb⟩ => ?_
  subst he
  exact ⟨_, rfl, _, _, _, [], _, [], hW', trodAll_mk1 (shut_bool Tryz.underlying4 _), below_all (by kernel_rfl) hb (by kernel_rfl) hA (fun y hy => hlt y (List.mem_append_left _ hy)), rfl, hb.frame _, fun h => by cases h⟩

theorem fact1 : (Rows.dumpLinesRow.inPlace == Tryz.pinned.checked.prog.inPlace 3) = true := by kernel_rfl
theorem fact2 : (Rows.dumpLinesRow.unfollowed == Tryz.pinned.checked.prog.unfollowed 3) = true := by kernel_rfl
theorem fact3 : (Rows.dumpLinesRow.recurses == Tryz.pinned.checked.prog.recurses 3) = true := by kernel_rfl
theorem fact4 : (Rows.dumpLinesRow.named == Tryz.pinned.checked.prog.varsNamed 3) = true := by kernel_rfl
theorem fact5 : joinedFacts Tryz.pinned.checked.prog 3 Tryz.f3 Rows.dumpLinesSpec Rows.dumpLinesRow = true := by
  unfold joinedFacts
  rw [fact1, fact2, fact3, fact4]
  kernel_rfl
theorem fact6 : Tryz.pinned.checked.prog.funcNamed Rows.dumpLinesRow.func = some 3 := by kernel_rfl
theorem fact7 : Func.isInstance Tryz.pinned.checked.prog Tryz.f3 Rows.dumpLinesRow.origin Rows.dumpLinesRow.targs := of_decide_eq_true (by kernel_rfl)
theorem fact8 : Func.isWrapper Tryz.pinned.checked.prog Tryz.f3 Rows.dumpLinesRow.wrapper Rows.dumpLinesRow.mainSum := by
  unfold Func.isWrapper; first | (rw [if_pos (by decide +kernel)]; kernel_rfl) | (rw [if_neg (by decide +kernel)]; exact ⟨rfl, rfl⟩)

theorem dumpLines_holds : Rows.DumpLinesSaid :=
  OpenClaim.holds_of_wide 3 Tryz.f3 rfl rfl rfl rfl rfl rfl rfl ⟨rfl, rfl, rfl, rfl, rfl⟩ rfl rfl rfl rfl rfl fact6 Tryz.func3 fact5 fact7 fact8
    (fun os started H enc _ => dumpLines_lifted os started H enc)

theorem dumpLines_card : Rows.DumpLinesCardSaid :=
  Claim7.holds_tied_plain_at .later [] [.data, .data, .data, .data, .pinned] true (true, "24d28bcba2e0d2271f5ebc248504a62704fb6198f264a029696c5dad6c3ad3a1") true dumpLines_holds (fun _ h => by cases h) (by kernel_rfl) (fun _ h => by cases h) dumpLines_row_tie rfl ⟨rfl, rfl⟩ (by kernel_rfl) rfl
    (fun f fn hf hfn => by
      obtain rfl : f = 3 := Option.some.inj ((show Tryz.prog.funcNamed "bailiwick/bailiwicklaw30.DumpLines" = some 3 by kernel_rfl).symm.trans hf) |>.symm
      obtain rfl : fn = Tryz.f3 := (Option.some.inj (Tryz.func3.symm.trans hfn)).symm
      exact ⟨by kernel_rfl, fun j t ht => by
        rw [Tryz.params3] at ht
        have hm : t ∈ [9, 9] := by simpa using Array.mem_of_getElem? ht
        have hall : ([9, 9].all fun u => !Tryz.prog.wantsStandIn u) = true := by kernel_rfl
        exact (show Tryz.prog.wantsStandIn t = false by simpa using List.all_eq_true.1 hall t hm)⟩)
    (by kernel_rfl)
#print axioms dumpLines_card

end Go.Proofs.YtnnadieejpaknaaGreatDoor
