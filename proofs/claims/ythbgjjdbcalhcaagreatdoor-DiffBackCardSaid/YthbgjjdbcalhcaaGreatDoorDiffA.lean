/- Plain laws on changes between texts; maps of strings (no conditions). -/
import Derived.Test.YthbgjjdbcalhcaaGreatDoorDenE
set_option linter.unusedVariables false
set_option linter.unusedSimpArgs false
set_option linter.unusedSectionVars false
set_option linter.deprecated false

/- Changes between texts: plain law. -/
namespace Go.Proofs.DfDev
open List

abbrev Bs := List UInt8
abbrev Ch := Bs × Bs × Bs

def putL (k v : Bs) : List (Bs × Bs) → List (Bs × Bs)
  | [] => [(k, v)]
  | (k', v') :: es => if k' = k then (k, v) :: es else (k', v') :: putL k v es
def lookL (k : Bs) : List (Bs × Bs) → Option Bs
  | [] => none
  | (k', v') :: es => if k' = k then some v' else lookL k es

theorem look_put (k k' v : Bs) : ∀ es, lookL k (putL k' v es) = if k' = k then some v else lookL k es
  | [] => by simp [putL, lookL]
  | (a, b) :: es => by
    have ih := look_put k k' v es
    unfold putL
    by_cases h : a = k'
    · subst h
      simp only [if_pos, lookL]
      split <;> rfl
    · simp only [if_neg h, lookL, ih]
      by_cases h2 : k' = k
      · subst h2; simp [h]
      · simp [h2]

theorem keys_put (k v : Bs) : ∀ es, (putL k v es).map Prod.fst = if k ∈ es.map Prod.fst then es.map Prod.fst else es.map Prod.fst ++ [k]
  | [] => by simp [putL]
  | (a, b) :: es => by
    have ih := keys_put k v es
    unfold putL
    by_cases h : a = k
    · subst h; simp
    · rw [if_neg h, map_cons, map_cons, ih]
      have e : (k ∈ a :: es.map Prod.fst) = (k ∈ es.map Prod.fst) := by
        simp only [mem_cons, eq_iff_iff]
        exact ⟨fun x => x.elim (fun y => absurd y.symm h) id, .inr⟩
      simp only [e]
      split <;> rfl

theorem look_some (k : Bs) : ∀ es, (lookL k es).isSome = decide (k ∈ es.map Prod.fst)
  | [] => by simp [lookL]
  | (a, b) :: es => by
    have ih := look_some k es
    unfold lookL
    by_cases h : a = k
    · subst h; simp
    · rw [if_neg h, ih]
      have h' : ¬ k = a := fun e => h e.symm
      simp only [map_cons, mem_cons, h', false_or]

def ddK (acc : List Bs) (k : Bs) : List Bs := if k ∈ acc then acc else acc ++ [k]
/-- Each once. -/
def dd (l : List Bs) : List Bs := l.foldl ddK []
theorem dd_snoc (l : List Bs) (k : Bs) : dd (l ++ [k]) = ddK (dd l) k := by simp [dd]
theorem snocInd {α : Type} {P : List α → Prop} (h0 : P []) (h1 : ∀ l x, P l → P (l ++ [x])) (l : List α) : P l := by
  rw [← l.reverse_reverse]
  induction l.reverse with
  | nil => exact h0
  | cons a m ih => rw [reverse_cons]; exact h1 _ _ ih
theorem mem_ddK {acc : List Bs} {k x : Bs} : x ∈ ddK acc k ↔ x ∈ acc ∨ x = k := by
  unfold ddK
  split
  · rename_i h
    exact ⟨.inl, fun e => e.elim id (fun e => e ▸ h)⟩
  · simp
theorem mem_dd (x : Bs) (l : List Bs) : x ∈ dd l ↔ x ∈ l := by
  induction l using snocInd with
  | h0 => simp [dd]
  | h1 l k ih => rw [dd_snoc, mem_ddK, ih]; simp
theorem dd_nodup (l : List Bs) : (dd l).Nodup := by
  induction l using snocInd with
  | h0 => simp [dd]
  | h1 l k ih =>
    rw [dd_snoc]; unfold ddK
    split
    · exact ih
    · rename_i h
      rw [nodup_append]
      refine ⟨ih, by simp, fun a ha b hb e => ?_⟩
      rw [mem_singleton] at hb
      exact h (hb ▸ e ▸ ha)
theorem dd_app (a b : List Bs) : dd (a ++ b) = dd a ++ (dd b).filter fun k => decide (k ∉ a) := by
  induction b using snocInd with
  | h0 => simp [dd]
  | h1 b k ih =>
    rw [← append_assoc, dd_snoc, dd_snoc, ih]
    unfold ddK
    simp only [mem_append, mem_dd, mem_filter, decide_eq_true_eq]
    by_cases h1 : k ∈ a
    · rw [if_pos (.inl h1)]
      split
      · rfl
      · rw [filter_append]; simp [h1]
    · by_cases h2 : k ∈ b
      · rw [if_pos (.inr ⟨h2, h1⟩), if_pos h2]
      · rw [if_neg (by simp [h1, h2]), if_neg h2, filter_append, append_assoc]; simp [h1]

variable (key : Bs → Bs)

def stepM (es : List (Bs × Bs)) (x : Bs) : List (Bs × Bs) := putL (key x) x es
def mapL (l : List Bs) : List (Bs × Bs) := l.foldl (stepM key) []
theorem mapL_snoc (l : List Bs) (x : Bs) : mapL key (l ++ [x]) = putL (key x) x (mapL key l) := by simp [mapL, stepM]
def lastL (l : List Bs) (k : Bs) : Option Bs := l.reverse.find? fun x => decide (key x = k)
theorem look_map (l : List Bs) (k : Bs) : lookL k (mapL key l) = lastL key l k := by
  induction l using snocInd with
  | h0 => rfl
  | h1 l x ih =>
    rw [mapL_snoc, look_put, ih]
    unfold lastL
    rw [reverse_append]
    simp only [reverse_cons, reverse_nil, nil_append, cons_append, find?_cons]
    by_cases h : key x = k <;> simp [h]
theorem keys_map (l : List Bs) : (mapL key l).map Prod.fst = dd (l.map key) := by
  induction l using snocInd with
  | h0 => rfl
  | h1 l x ih => rw [mapL_snoc, keys_put, ih, map_append, map_cons, map_nil, dd_snoc]; rfl

/-- The change of a key. -/
def chg (f g : Bs → Option Bs) (k : Bs) : Option Ch := if (f k).isSome ≠ (g k).isSome ∨ (f k).getD [] ≠ (g k).getD [] then some (k, (f k).getD [], (g k).getD []) else none

def diffP (x y : List Bs) : List Ch := ((mapL key x).map Prod.fst ++ ((mapL key y).map Prod.fst).filter fun k => decide ((lookL k (mapL key x)).isSome = false)).filterMap (chg (fun k => lookL k (mapL key x)) (fun k => lookL k (mapL key y)))

/-- The document's changes, of the first i lines. -/
def diffR (x y : List Bs) (i : Nat) : List Ch := (dd (((x ++ y).take i).map key)).filterMap (chg (lastL key x) (lastL key y))

theorem diffP_dd (x y : List Bs) : diffP key x y = (dd ((x ++ y).map key)).filterMap (chg (lastL key x) (lastL key y)) := by
  unfold diffP
  have e : (fun k => lookL k (mapL key x)) = lastL key x := funext fun k => look_map key x k
  have e2 : (fun k => lookL k (mapL key y)) = lastL key y := funext fun k => look_map key y k
  rw [e, e2, map_append, dd_app, keys_map, keys_map]
  congr 2
  refine filter_congr fun k _ => ?_
  rw [look_some, keys_map]
  simp [mem_dd]

theorem diff_eq (x y : List Bs) : diffP key x y = diffR key x y (x ++ y).length := by
  rw [diffP_dd]; unfold diffR; rw [take_length]

theorem diffR_step (x y : List Bs) (i : Nat) (h : i < (x ++ y).length) : diffR key x y (i + 1) = diffR key x y i ++ (if key ((x ++ y)[i]) ∈ ((x ++ y).take i).map key then [] else (chg (lastL key x) (lastL key y) (key ((x ++ y)[i]))).toList) := by
  unfold diffR
  rw [take_succ_eq_append_getElem h, map_append, map_cons, map_nil, dd_snoc]
  unfold ddK
  simp only [mem_dd]
  split
  · simp
  · rw [filterMap_append]
    congr 1

theorem diffR_0 (x y : List Bs) : diffR key x y 0 = [] := rfl

/-- No key of a row is in the other one. -/
def apartL (a b : List Ch) : Bool := !(b.any fun d => a.any fun c => decide (c.1 = d.1))

theorem chg_self (f : Bs → Option Bs) (k : Bs) : chg f f k = none := by simp [chg]
theorem diff_self (x : List Bs) : diffP key x x = [] := by
  rw [diffP_dd]
  induction dd ((x ++ x).map key) with
  | nil => rfl
  | cons a l ih => rw [filterMap_cons, chg_self]; exact ih

theorem chg_swap {f g : Bs → Option Bs} {k a p q : Bs} (h : chg f g k = some (a, p, q)) : chg g f k = some (a, q, p) := by
  unfold chg at h ⊢
  split at h
  · rename_i hc
    cases h
    rw [if_pos (hc.imp Ne.symm Ne.symm)]
  · cases h
theorem chg_none {f g : Bs → Option Bs} {k : Bs} : (chg f g k).isSome = (chg g f k).isSome := by
  cases h : chg f g k with
  | some c => obtain ⟨a, p, q⟩ := c; rw [chg_swap h]; rfl
  | none => cases h2 : chg g f k with
    | none => rfl
    | some c => obtain ⟨a, p, q⟩ := c; rw [chg_swap h2] at h; cases h

theorem nd_le {l m : List Bs} (hl : l.Nodup) (h : ∀ x ∈ l, x ∈ m) : l.length ≤ m.length := by
  induction l generalizing m with
  | nil => exact Nat.zero_le _
  | cons a l ih =>
    rw [nodup_cons] at hl
    have ha := h a mem_cons_self
    have h2 := ih (m := m.erase a) hl.2 fun x hx => by
      rw [mem_erase_of_ne]
      · exact h x (mem_cons_of_mem _ hx)
      · rintro rfl; exact hl.1 hx
    have h3 := length_pos_of_mem ha
    rw [length_erase_of_mem ha] at h2
    rw [length_cons]; omega

theorem diff_len (x y : List Bs) : (diffP key x y).length = (diffP key y x).length := by
  rw [diffP_dd, diffP_dd, length_filterMap_eq_countP, length_filterMap_eq_countP, countP_eq_length_filter, countP_eq_length_filter]
  have hm : ∀ k, k ∈ (dd ((x ++ y).map key)).filter (fun a => (chg (lastL key x) (lastL key y) a).isSome) ↔ k ∈ (dd ((y ++ x).map key)).filter (fun a => (chg (lastL key y) (lastL key x) a).isSome) := fun k => by
    simp only [mem_filter, mem_dd, map_append, mem_append]
    rw [chg_none]
    exact and_congr_left' Or.comm
  exact Nat.le_antisymm (nd_le ((dd_nodup _).filter _) fun k h => (hm k).1 h) (nd_le ((dd_nodup _).filter _) fun k h => (hm k).2 h)

theorem diff_swap {x y : List Bs} {k p q : Bs} (h : (k, p, q) ∈ diffP key x y) : (k, q, p) ∈ diffP key y x := by
  rw [diffP_dd, mem_filterMap] at h ⊢
  obtain ⟨a, h1, h2⟩ := h
  refine ⟨a, ?_, chg_swap h2⟩
  simp only [mem_dd, map_append, mem_append] at h1 ⊢
  exact h1.symm

theorem diff_ne {x y : List Bs} (hx : ∀ l ∈ x, l ≠ []) (hy : ∀ l ∈ y, l ≠ []) {k p q : Bs} (h : (k, p, q) ∈ diffP key x y) : p ≠ q := by
  rw [diffP_dd, mem_filterMap] at h
  obtain ⟨a, h1, h2⟩ := h
  have nx : ∀ {z : List Bs} (hz : ∀ l ∈ z, l ≠ []) {r}, lastL key z a = some r → r ≠ [] := fun hz r hr => by
    have := mem_of_find?_eq_some hr
    exact hz _ (mem_reverse.1 this)
  unfold chg at h2
  split at h2
  · rename_i hc
    cases h2
    rcases hc with hc | hc
    · cases hp : lastL key x k with
      | none => cases hq : lastL key y k with
        | none => simp [hp, hq] at hc
        | some r => exact (nx hy hq).symm
      | some s => cases hq : lastL key y k with
        | none => exact nx hx hp
        | some r => simp [hp, hq] at hc
    · exact hc
  · cases h2
end Go.Proofs.DfDev

/- Maps of strings. -/
namespace Go.Proofs.DfDev
open Go Go.Den

theorem keyEq_S (a b : List UInt8) : keyEq (S a) (S b) = some (decide (a = b)) := by
  have h : keyEq (S a) (S b) = some (a.toArray == b.toArray) := rfl
  rw [h]
  congr 1
  rw [Bool.eq_iff_iff]; simp

def ent (q : Bs × Bs) : AV × AV := (S q.1, S q.2)
def entB (k : Bs) : AV × AV := (S k, .bool true)

theorem find_ent (k : Bs) : ∀ es : List (Bs × Bs), findKeyA (S k) (es.map ent) = some ((lookL k es).map S)
  | [] => rfl
  | (a, b) :: es => by
    simp only [List.map_cons, ent, findKeyA, keyEq_S, lookL]
    by_cases h : k = a
    · subst h; simp
    · have h' : ¬ a = k := fun e => h e.symm
      simp only [h, h', decide_false, if_false]
      exact find_ent k es

theorem put_ent (k v : Bs) : ∀ es : List (Bs × Bs), putKeyA (S k) (S v) (es.map ent) = some ((putL k v es).map ent)
  | [] => rfl
  | (a, b) :: es => by
    simp only [List.map_cons, ent, putKeyA, keyEq_S, putL]
    by_cases h : k = a
    · subst h; simp [ent]
    · have h' : ¬ a = k := fun e => h e.symm
      simp only [h, h', decide_false, if_false]
      rw [put_ent k v es]; rfl

theorem find_entB (k : Bs) : ∀ ks : List Bs, findKeyA (S k) (ks.map entB) = some (if k ∈ ks then some (.bool true) else none)
  | [] => rfl
  | a :: ks => by
    simp only [List.map_cons, entB, findKeyA, keyEq_S]
    by_cases h : k = a
    · subst h; simp
    · simp only [h, decide_false, List.mem_cons, false_or]
      exact find_entB k ks

theorem put_entB (k : Bs) : ∀ ks : List Bs, putKeyA (S k) (.bool true) (ks.map entB) = some ((ddK ks k).map entB)
  | [] => rfl
  | a :: ks => by
    simp only [List.map_cons, entB, putKeyA, keyEq_S]
    unfold ddK
    by_cases h : k = a
    · subst h; simp [entB]
    · simp only [h, decide_false, List.mem_cons, false_or]
      rw [put_entB k ks]
      unfold ddK
      split <;> rfl

/-- The evaluator's lookup in a map of strings. -/
theorem lookup_ent {gm : Nat → Option (List (AV × AV))} {σ : AS} {id : Nat} {es : List (Bs × Bs)} (h : σ.heap[id]? = some (.map (es.map ent))) (z : AV) (k : Bs) (ok : Bool) : lookupA gm σ .str z (.mp id) (S k) ok = some (match lookL k es with
    | some v => if ok then .tup [S v, .bool true] else S v
    | none => if ok then .tup [z, .bool false] else z) := by
  unfold lookupA
  rw [if_pos (show isKeyOf .str (S k) = true from rfl)]
  simp only [mapOf, h, find_ent]
  cases lookL k es <;> rfl

theorem lookup_ent1 {gm : Nat → Option (List (AV × AV))} {H : List AObj} {lo : Option Nat} {id : Nat} {es : List (Bs × Bs)} (h : H[id]? = some (.map (es.map ent))) (k : Bs) : lookupA gm ⟨H, lo⟩ .str (S []) (.mp id) (S k) false = some (S ((lookL k es).getD [])) := by
  rw [lookup_ent h]; cases lookL k es <;> rfl
theorem lookup_ent2 {gm : Nat → Option (List (AV × AV))} {H : List AObj} {lo : Option Nat} {id : Nat} {es : List (Bs × Bs)} (h : H[id]? = some (.map (es.map ent))) (k : Bs) : lookupA gm ⟨H, lo⟩ .str (S []) (.mp id) (S k) true = some (.tup [S ((lookL k es).getD []), .bool (lookL k es).isSome]) := by
  rw [lookup_ent h]; cases lookL k es <;> rfl

theorem mput_ent {H : List AObj} {lo : Option Nat} {id : Nat} {es : List (Bs × Bs)} (h : H[id]? = some (.map (es.map ent))) (k v : Bs) : mputA ⟨H, lo⟩ .str (.mp id) (S k) (S v) = some ((⟨H, lo⟩ : AS).set id (.map ((putL k v es).map ent)) 0) := by
  unfold mputA
  rw [if_pos (show isKeyOf .str (S k) = true from rfl)]
  simp only [h, put_ent]
  rfl

theorem lookup_entB {gm : Nat → Option (List (AV × AV))} {H : List AObj} {lo : Option Nat} {id : Nat} {ks : List Bs} (h : H[id]? = some (.map (ks.map entB))) (k : Bs) : lookupA gm ⟨H, lo⟩ .str (.bool false) (.mp id) (S k) false = some (.bool (decide (k ∈ ks))) := by
  unfold lookupA
  rw [if_pos (show isKeyOf .str (S k) = true from rfl)]
  simp only [mapOf, h, find_entB]
  by_cases h2 : k ∈ ks <;> simp [h2]
theorem mput_entB {H : List AObj} {lo : Option Nat} {id : Nat} {ks : List Bs} (h : H[id]? = some (.map (ks.map entB))) (k : Bs) : mputA ⟨H, lo⟩ .str (.mp id) (S k) (.bool true) = some ((⟨H, lo⟩ : AS).set id (.map ((ddK ks k).map entB)) 0) := by
  unfold mputA
  rw [if_pos (show isKeyOf .str (S k) = true from rfl)]
  simp only [h, put_entB]
  rfl
end Go.Proofs.DfDev
