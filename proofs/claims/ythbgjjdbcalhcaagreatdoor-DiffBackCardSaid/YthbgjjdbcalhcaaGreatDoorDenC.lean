/- Den, third part: the evaluator without fuel, functions that defer and recover as primitives, what arguments of a call hold, closed calls as primitives, more primitives come to no less (no conditions beyond those of the parts before). -/
import Derived.Test.YthbgjjdbcalhcaaGreatDoorDenB
import Derived.RecoverIn
import Derived.Carry
import Derived.ChangeArms
import Derived.OpenShut
import Derived.LaidHandle
import Derived.LaidMore
import Derived.WideShapes
set_option linter.unusedVariables false
set_option linter.unusedSimpArgs false
set_option linter.unusedSectionVars false
set_option linter.deprecated false

/- Den: the limit of the evaluators: no fuel. -/
namespace Go.Den
open Go Go.RowKit

variable {P : Program} {X : Ctx} {B : Nat} {w₀ : World}

def Caller.le (C C' : Caller) : Prop := ∀ f args σ r, C f args σ = some r → C' f args σ = some r
def bodyLe (b b' : Fr → AS → Res) : Prop := ∀ fr σ r, b fr σ = some r → b' fr σ = some r
def Loops.le (L L' : Loops) : Prop := ∀ b b', bodyLe b b' → bodyLe (L b) (L' b')

theorem exec_mono {C C' : Caller} (hC : Caller.le C C') (i : I) (e : Env) (σ : AS) (r : Out) (h : exec X C i e σ = some r) : exec X C' i e σ = some r := by
  cases i with
  | call f args =>
    simp only [exec] at h ⊢
    split at h
    · rename_i hc; rw [hC _ _ _ _ hc]; exact h
    · rename_i hc; rw [hC _ _ _ _ hc]; exact h
    · cases h
  | _ => simpa only [exec] using h

theorem runOps_mono {C C' : Caller} (hC : Caller.le C C') : ∀ (os : List Ins), bodyLe (runOps X C os) (runOps X C' os)
  | [], _, _, _, h => by simpa only [runOps] using h
  | o :: os, fr, σ, r, h => by
    simp only [runOps] at h ⊢
    split at h
    · rename_i hw
      rw [if_pos hw]
      split at h
      · rename_i hx; rw [exec_mono hC _ _ _ _ hx]; exact runOps_mono hC os _ _ _ h
      · rename_i hx; rw [exec_mono hC _ _ _ _ hx]; exact h
      · cases h
    · rename_i hw
      rw [if_neg hw]; exact runOps_mono hC os _ _ _ h

theorem runOpsD_mono {C C' : Caller} (hC : Caller.le C C') : ∀ (os : List (Ins × List Nat)) (fps : List FP), bodyLe (runOpsD X C fps os) (runOpsD X C' fps os)
  | [], _, _, _, _, h => by simpa only [runOpsD] using h
  | o :: os, fps, fr, σ, r, h => by
    simp only [runOpsD] at h ⊢
    split at h
    · rename_i hw
      rw [if_pos hw]
      split at h
      · rename_i hx
        rw [exec_mono hC _ _ _ _ hx]
        simp only
        split at h
        · rename_i ha; rw [if_pos ha]; exact runOpsD_mono hC os _ _ _ _ h
        · cases h
      · rename_i hx
        rw [exec_mono hC _ _ _ _ hx]
        exact h
      · cases h
    · rename_i hw
      rw [if_neg hw]; exact runOpsD_mono hC os _ _ _ _ h

theorem runCode_mono {C C' : Caller} {L L' : Loops} (hC : Caller.le C C') (hL : Loops.le L L') (fid : FuncId) (rd : Bool) : ∀ pc, bodyLe (runCode X C L fid rd pc) (runCode X C' L' fid rd pc)
  | .skip, _, _, _, h => by simpa only [runCode] using h
  | .seq a b, fr, σ, r, h => by
    simp only [runCode] at h ⊢
    split at h
    · rename_i hx; rw [runCode_mono hC hL fid rd a _ _ _ hx]; exact runCode_mono hC hL fid rd b _ _ _ h
    · rename_i hx
      cases hr : runCode X C L fid rd a fr σ with
      | none => rw [hr] at h; cases h
      | some q =>
        rw [hr] at h; cases h
        rw [runCode_mono hC hL fid rd a _ _ _ hr]
        obtain ⟨ex, fr', σ'⟩ := r
        cases ex with
        | normal => exact absurd hr (hx _ _)
        | _ => rfl
  | .cond c a b, fr, σ, r, h => by
    simp only [runCode] at h ⊢
    split at h
    · rename_i t hc
      split at h
      · rename_i ht; rw [if_pos ht]; exact runCode_mono hC hL fid rd a _ _ _ h
      · rename_i ht; rw [if_neg ht]; exact runCode_mono hC hL fid rd b _ _ _ h
    · cases h
  | .block id body, fr, σ, r, h => by
    simp only [runCode] at h ⊢
    cases hr : runCode X C L fid rd body fr σ with
    | none => rw [hr] at h; cases h
    | some q => rw [runCode_mono hC hL fid rd body _ _ _ hr]; rw [hr] at h; exact h
  | .loop body, fr, σ, r, h => by
    simp only [runCode] at h ⊢
    exact hL _ _ (runCode_mono hC hL fid rd body) _ _ _ h
  | .exit id, _, _, _, h => by simpa only [runCode] using h
  | .ret, _, _, _, h => by simpa only [runCode] using h
  | .reg ops, fr, σ, r, h => by
    simp only [runCode] at h ⊢
    exact runOps_mono hC ops _ _ _ h
  | .dreg ops, fr, σ, r, h => by
    simp only [runCode] at h ⊢
    exact runOpsD_mono hC _ _ _ _ _ h
  | .rfun g ps as bd, fr, σ, r, h => by
    simp only [runCode] at h ⊢
    split at h
    · cases h
    · rename_i hrd
      rw [if_neg hrd]
      split at h
      · rename_i hi
        rw [if_pos hi]
        split at h
        · rename_i hx; rw [hC _ _ _ _ hx]; exact h
        · rename_i hx; rw [hC _ _ _ _ hx]; exact h
        · cases h
      · cases h

theorem runRound_mono {C C' : Caller} {L L' : Loops} (hC : Caller.le C C') (hL : Loops.le L L') (l : Nat) (args : List AV) (σ : AS) (r : CRes) (h : runRound X C L l args σ = some r) : runRound X C' L' l args σ = some r := by
  simp only [runRound] at h ⊢
  split at h
  · rename_i st pend f env ps as bd hl
    split at h
    · rename_i hlen
      simp only [hlen, if_true]
      split at h
      · rename_i fr σ₁ hx
        rw [runCode_mono hC hL _ _ _ _ _ _ hx]
        simp only
        split at h
        · rename_i pend' f' env' ps' as' bd' hl'
          cases hq : runCode X C L f true bd fr (σ₁.set l (.loop .busy pend' f' env' ps' as' bd') 0) with
          | none => rw [hq] at h; simp only [endRound] at h; cases h
          | some q => rw [runCode_mono hC hL _ _ _ _ _ _ hq]; rw [hq] at h; exact h
        · cases h
      · cases h
    · cases h
  · cases h

theorem step_mono {C C' : Caller} {L L' : Loops} (hC : Caller.le C C') (hL : Loops.le L L') : Caller.le (step X C L) (step X C' L') := by
  intro v args σ r h
  unfold step at h ⊢
  split at h
  · rename_i f first cap
    split at h
    · rename_i hp; exact h
    · rename_i hp
      split at h
      · rename_i pf hc
        split at h
        · rename_i hlen
          rw [if_pos hlen]
          cases hq : runCode X C L f false pf.body { env := envOf (first ++ args ++ cap), marks := [] } { σ with lo := none } with
          | none => rw [hq] at h; simp only [leave] at h; cases h
          | some q => rw [runCode_mono hC hL _ _ _ _ _ _ hq]; rw [hq] at h; exact h
        · cases h
      · cases h
  · exact runRound_mono hC hL _ _ _ _ h
  · cases h

theorem iter_le : ∀ n, Loops.le (iter n) (iter (n + 1))
  | 0, b, b', hb, fr, σ, r, h => by simp only [iter] at h; cases h
  | n + 1, b, b', hb, fr, σ, r, h => by
    rw [iter] at h ⊢
    split at h
    · rename_i hx; rw [hb _ _ _ hx]; exact iter_le n b b' hb _ _ _ h
    · rename_i hx
      rw [hb _ _ _ h]
      obtain ⟨ex, fr', σ'⟩ := r
      cases ex with
      | normal => exact absurd h (hx _ _)
      | _ => rfl

theorem callV_le : ∀ n, Caller.le (callV X n) (callV X (n + 1))
  | 0 => fun f args σ r h => by simp [callV] at h
  | n + 1 => by
    rw [callV, callV]
    exact step_mono (callV_le n) (iter_le n)

theorem Caller.le_trans {A B C : Caller} (h : Caller.le A B) (k : Caller.le B C) : Caller.le A C := fun f a s r e => k f a s r (h f a s r e)

theorem callV_mono {n m : Nat} (h : n ≤ m) : Caller.le (callV X n) (callV X m) := by
  induction h with
  | refl => exact fun f a s r e => e
  | step _ ih => exact Caller.le_trans ih (callV_le _)

theorem iter_same {n m : Nat} (h : n ≤ m) (b : Fr → AS → Res) : bodyLe (iter n b) (iter m b) := by
  induction h with
  | refl => exact fun fr s r e => e
  | step _ ih => exact fun fr s r e => iter_le _ b b (fun _ _ _ h => h) _ _ _ (ih fr s r e)

theorem iter_body : ∀ n (b b' : Fr → AS → Res), bodyLe b b' → bodyLe (iter n b) (iter n b')
  | 0, _, _, _ => fun fr σ r h => by simp only [iter] at h; cases h
  | n + 1, b, b', hb => fun fr σ r h => by
    rw [iter] at h ⊢
    split at h
    · rename_i hx; rw [hb _ _ _ hx]; exact iter_body n b b' hb _ _ _ h
    · rename_i hx
      rw [hb _ _ _ h]
      obtain ⟨ex, fr', σ'⟩ := r
      cases ex with
      | normal => exact absurd h (hx _ _)
      | _ => rfl

theorem iter_mono {n m : Nat} (h : n ≤ m) : Loops.le (iter n) (iter m) := by
  intro b b' hb fr s r e
  exact iter_same h b' _ _ _ (iter_body n b b' hb _ _ _ e)

/-- The limit. -/
noncomputable def D (X : Ctx) : Caller := fun f args σ =>
  open Classical in if h : ∃ r, ∃ n, callV X n f args σ = some r then some h.choose else none

noncomputable def Lw : Loops := fun b fr σ =>
  open Classical in if h : ∃ r, ∃ n, iter n b fr σ = some r then some h.choose else none

theorem D_of {n : Nat} : Caller.le (callV X n) (D X) := by
  intro f args σ r h
  have h' : ∃ r, ∃ n, callV X n f args σ = some r := ⟨r, n, h⟩
  unfold D
  rw [dif_pos h']
  obtain ⟨m, hm⟩ := h'.choose_spec
  have h1 := callV_mono (Nat.le_max_left n m) _ _ _ _ h
  have h2 := callV_mono (Nat.le_max_right n m) _ _ _ _ hm
  rw [h1] at h2
  exact h2.symm

theorem D_fuel {f : AV} {args : List AV} {σ : AS} {r : CRes} (h : D X f args σ = some r) : ∃ n, callV X n f args σ = some r := by
  unfold D at h
  split at h
  · rename_i hx
    obtain ⟨m, hm⟩ := hx.choose_spec
    exact ⟨m, by rw [hm]; exact h⟩
  · cases h

theorem Lw_of {n : Nat} {b : Fr → AS → Res} : bodyLe (iter n b) (Lw b) := by
  intro fr σ r h
  have h' : ∃ r, ∃ n, iter n b fr σ = some r := ⟨r, n, h⟩
  unfold Lw
  rw [dif_pos h']
  obtain ⟨m, hm⟩ := h'.choose_spec
  have h1 := iter_same (Nat.le_max_left n m) b _ _ _ h
  have h2 := iter_same (Nat.le_max_right n m) b _ _ _ hm
  rw [h1] at h2
  exact h2.symm

theorem Lw_fuel {b : Fr → AS → Res} {fr : Fr} {σ : AS} {r : Ex × Fr × AS} (h : Lw b fr σ = some r) : ∃ n, iter n b fr σ = some r := by
  unfold Lw at h
  split at h
  · rename_i hx
    obtain ⟨m, hm⟩ := hx.choose_spec
    exact ⟨m, by rw [hm]; exact h⟩
  · cases h

theorem Lw_eq (b : Fr → AS → Res) (fr : Fr) (σ : AS) : Lw b fr σ = match b fr σ with
    | some (.normal, fr', σ') => Lw b fr' σ'
    | r => r := by
  split
  · rename_i fr' σ' hb
    cases hq : Lw b fr' σ' with
    | none =>
      cases hr : Lw b fr σ with
      | none => rfl
      | some r =>
        obtain ⟨n, hn⟩ := Lw_fuel hr
        cases n with
        | zero => simp [iter] at hn
        | succ n => rw [iter, hb] at hn; rw [Lw_of _ _ _ hn] at hq; cases hq
    | some r =>
      obtain ⟨n, hn⟩ := Lw_fuel hq
      exact Lw_of (n := n + 1) _ _ _ (by rw [iter, hb]; exact hn)
  · rename_i r hx
    cases hb : b fr σ with
    | none =>
      cases hr : Lw b fr σ with
      | none => rfl
      | some r =>
        obtain ⟨n, hn⟩ := Lw_fuel hr
        cases n with
        | zero => simp [iter] at hn
        | succ n => rw [iter, hb] at hn; cases hn
    | some q =>
      refine Lw_of (n := 1) _ _ _ ?_
      rw [iter, hb]
      obtain ⟨ex, fr', σ'⟩ := q
      cases ex with
      | normal => exact absurd hb (hx _ _)
      | _ => rfl

/-! Continuity. -/

theorem exec_cont {i : I} {e : Env} {σ : AS} {r : Out} (h : exec X (D X) i e σ = some r) : ∃ n, exec X (callV X n) i e σ = some r := by
  cases i with
  | call f args =>
    simp only [exec] at h ⊢
    split at h
    · rename_i hc; obtain ⟨n, hn⟩ := D_fuel hc; exact ⟨n, by rw [hn]; exact h⟩
    · rename_i hc; obtain ⟨n, hn⟩ := D_fuel hc; exact ⟨n, by rw [hn]; exact h⟩
    · cases h
  | _ => exact ⟨0, by simpa only [exec] using h⟩

theorem runOps_cont : ∀ (os : List Ins) (fr : Fr) (σ : AS) (r : Ex × Fr × AS), runOps X (D X) os fr σ = some r → ∃ n, runOps X (callV X n) os fr σ = some r
  | [], _, _, _, h => ⟨0, by simpa only [runOps] using h⟩
  | o :: os, fr, σ, r, h => by
    simp only [runOps] at h ⊢
    split at h
    · rename_i hw
      simp only [hw, if_true]
      split at h
      · rename_i hx
        obtain ⟨n, hn⟩ := exec_cont hx
        obtain ⟨m, hm⟩ := runOps_cont os _ _ _ h
        refine ⟨max n m, ?_⟩
        rw [exec_mono (callV_mono (Nat.le_max_left n m)) _ _ _ _ hn]
        exact runOps_mono (callV_mono (Nat.le_max_right n m)) _ _ _ _ hm
      · rename_i hx
        obtain ⟨n, hn⟩ := exec_cont hx
        exact ⟨n, by rw [hn]; exact h⟩
      · cases h
    · rename_i hw
      obtain ⟨m, hm⟩ := runOps_cont os _ _ _ h
      exact ⟨m, by rw [if_neg hw]; exact hm⟩

theorem runOpsD_cont : ∀ (os : List (Ins × List Nat)) (fps : List FP) (fr : Fr) (σ : AS) (r : Ex × Fr × AS), runOpsD X (D X) fps os fr σ = some r → ∃ n, runOpsD X (callV X n) fps os fr σ = some r
  | [], _, _, _, _, h => ⟨0, by simpa only [runOpsD] using h⟩
  | o :: os, fps, fr, σ, r, h => by
    simp only [runOpsD] at h ⊢
    split at h
    · rename_i hw
      simp only [hw, if_true]
      split at h
      · rename_i hx
        obtain ⟨n, hn⟩ := exec_cont hx
        split at h
        · rename_i ha
          obtain ⟨m, hm⟩ := runOpsD_cont os _ _ _ _ h
          refine ⟨max n m, ?_⟩
          rw [exec_mono (callV_mono (Nat.le_max_left n m)) _ _ _ _ hn]
          simp only
          rw [if_pos ha]
          exact runOpsD_mono (callV_mono (Nat.le_max_right n m)) _ _ _ _ _ hm
        · cases h
      · rename_i hx
        obtain ⟨n, hn⟩ := exec_cont hx
        refine ⟨n, ?_⟩
        rw [hn]
        exact h
      · cases h
    · rename_i hw
      obtain ⟨m, hm⟩ := runOpsD_cont os _ _ _ _ h
      exact ⟨m, by rw [if_neg hw]; exact hm⟩

theorem RC_mono {n m : Nat} (h : n ≤ m) (fid : FuncId) (rd : Bool) (pc : PC) : bodyLe (runCode X (callV X n) (iter n) fid rd pc) (runCode X (callV X m) (iter m) fid rd pc) :=
  runCode_mono (callV_mono h) (iter_mono h) fid rd pc

theorem runCode_cont (fid : FuncId) (rd : Bool) : ∀ (pc : PC) (fr : Fr) (σ : AS) (r : Ex × Fr × AS), runCode X (D X) Lw fid rd pc fr σ = some r → ∃ n, runCode X (callV X n) (iter n) fid rd pc fr σ = some r
  | .skip, _, _, _, h => ⟨0, by simpa only [runCode] using h⟩
  | .seq a b, fr, σ, r, h => by
    simp only [runCode] at h
    split at h
    · rename_i hx
      obtain ⟨n, hn⟩ := runCode_cont fid rd a _ _ _ hx
      obtain ⟨m, hm⟩ := runCode_cont fid rd b _ _ _ h
      refine ⟨max n m, ?_⟩
      simp only [runCode]
      rw [RC_mono (Nat.le_max_left n m) _ _ _ _ _ _ hn]
      exact RC_mono (Nat.le_max_right n m) _ _ _ _ _ _ hm
    · rename_i hx
      obtain ⟨n, hn⟩ := runCode_cont fid rd a _ _ _ h
      refine ⟨n, ?_⟩
      simp only [runCode]
      rw [hn]
      obtain ⟨ex, fr', σ'⟩ := r
      cases ex with
      | normal => exact absurd h (hx _ _)
      | _ => rfl
  | .cond c a b, fr, σ, r, h => by
    simp only [runCode] at h
    split at h
    · rename_i t hc
      split at h
      · rename_i ht
        obtain ⟨n, hn⟩ := runCode_cont fid rd a _ _ _ h
        exact ⟨n, by simp only [runCode, hc, ht, if_true]; exact hn⟩
      · rename_i ht
        obtain ⟨n, hn⟩ := runCode_cont fid rd b _ _ _ h
        exact ⟨n, by simp only [runCode, hc, if_neg ht]; exact hn⟩
    · cases h
  | .block id body, fr, σ, r, h => by
    simp only [runCode] at h
    cases hr : runCode X (D X) Lw fid rd body fr σ with
    | none => rw [hr] at h; cases h
    | some q =>
      obtain ⟨n, hn⟩ := runCode_cont fid rd body _ _ _ hr
      refine ⟨n, ?_⟩
      simp only [runCode]
      rw [hn]; rw [hr] at h; exact h
  | .loop body, fr, σ, r, h => by
    simp only [runCode] at h
    obtain ⟨k, hk⟩ := Lw_fuel h
    have key : ∀ k fr, ∀ σ, iter k (runCode X (D X) Lw fid rd body) fr σ = some r → ∃ n, iter n (runCode X (callV X n) (iter n) fid rd body) fr σ = some r := by
      intro k
      induction k with
      | zero => intro fr σ h; simp [iter] at h
      | succ k ih =>
        intro fr σ h
        rw [iter] at h
        split at h
        · rename_i hx
          obtain ⟨n, hn⟩ := runCode_cont fid rd body _ _ _ hx
          obtain ⟨m, hm⟩ := ih _ _ h
          refine ⟨max n m + 1, ?_⟩
          rw [iter]
          rw [RC_mono (show n ≤ max n m + 1 by omega) _ _ _ _ _ _ hn]
          exact iter_mono (show m ≤ max n m by omega) _ _ (RC_mono (show m ≤ max n m + 1 by omega) _ _ _) _ _ _ hm
        · rename_i hx
          obtain ⟨n, hn⟩ := runCode_cont fid rd body _ _ _ h
          refine ⟨n + 1, ?_⟩
          rw [iter, RC_mono (Nat.le_succ n) _ _ _ _ _ _ hn]
          obtain ⟨ex, fr', σ'⟩ := r
          cases ex with
          | normal => exact absurd h (hx _ _)
          | _ => rfl
    obtain ⟨n, hn⟩ := key k fr σ hk
    exact ⟨n, by simp only [runCode]; exact hn⟩
  | .exit id, _, _, _, h => ⟨0, by simpa only [runCode] using h⟩
  | .ret, _, _, _, h => ⟨0, by simpa only [runCode] using h⟩
  | .reg ops, fr, σ, r, h => by
    simp only [runCode] at h
    obtain ⟨n, hn⟩ := runOps_cont _ _ _ _ h
    exact ⟨n, by simp only [runCode]; exact hn⟩
  | .dreg ops, fr, σ, r, h => by
    simp only [runCode] at h
    obtain ⟨n, hn⟩ := runOpsD_cont _ _ _ _ _ h
    exact ⟨n, by simp only [runCode]; exact hn⟩
  | .rfun g ps as bd, fr, σ, r, h => by
    simp only [runCode] at h
    split at h
    · cases h
    · rename_i hrd
      split at h
      · rename_i hi
        split at h
        · rename_i hx
          obtain ⟨n, hn⟩ := D_fuel hx
          exact ⟨n, by simp only [runCode]; rw [if_neg hrd, if_pos hi, hn]; exact h⟩
        · rename_i hx
          obtain ⟨n, hn⟩ := D_fuel hx
          exact ⟨n, by simp only [runCode]; rw [if_neg hrd, if_pos hi, hn]; exact h⟩
        · cases h
      · cases h

theorem runRound_cont {l : Nat} {args : List AV} {σ : AS} {r : CRes} (h : runRound X (D X) Lw l args σ = some r) : ∃ n, runRound X (callV X n) (iter n) l args σ = some r := by
  simp only [runRound] at h ⊢
  split at h
  · rename_i st pend f env ps as bd hl
    split at h
    · rename_i hlen
      simp only [hlen, if_true]
      split at h
      · rename_i fr σ₁ hx
        obtain ⟨n, hn⟩ := runCode_cont _ _ _ _ _ _ hx
        split at h
        · rename_i pend' f' env' ps' as' bd' hl'
          cases hq : runCode X (D X) Lw f true bd fr (σ₁.set l (.loop .busy pend' f' env' ps' as' bd') 0) with
          | none => rw [hq] at h; simp only [endRound] at h; cases h
          | some q =>
            obtain ⟨m, hm⟩ := runCode_cont _ _ _ _ _ _ hq
            refine ⟨max n m, ?_⟩
            have e1 := RC_mono (Nat.le_max_left n m) _ _ _ _ _ _ hn
            have e2 := RC_mono (Nat.le_max_right n m) _ _ _ _ _ _ hm
            rw [e1]
            simp only [hl']
            rw [e2]; rw [hq] at h; exact h
        · cases h
      · cases h
    · cases h
  · cases h

theorem D_step {v : AV} {args : List AV} {σ : AS} {r : CRes} (h : step X (D X) Lw v args σ = some r) : D X v args σ = some r := by
  have key : ∃ n, step X (callV X n) (iter n) v args σ = some r := by
    unfold step at h ⊢
    split at h
    · rename_i f first cap
      split at h
      · rename_i hp; exact ⟨0, h⟩
      · rename_i hp
        split at h
        · rename_i pf hc
          split at h
          · rename_i hlen
            cases hq : runCode X (D X) Lw f false pf.body { env := envOf (first ++ args ++ cap), marks := [] } { σ with lo := none } with
            | none => rw [hq] at h; simp only [leave] at h; cases h
            | some q =>
              obtain ⟨n, hn⟩ := runCode_cont _ _ _ _ _ _ hq
              refine ⟨n, ?_⟩
              rw [if_pos hlen, hn]; rw [hq] at h; exact h
          · cases h
        · cases h
    · exact runRound_cont h
    · cases h
  obtain ⟨n, hn⟩ := key
  exact D_of (n := n + 1) _ _ _ _ (by rw [callV]; exact hn)

/-- The limit is sound. -/
theorem D_sound (hg : GlobOk X B w₀) (hX : CodeOk P X) (hP : ∀ f p, X.prim f = some p → PrimOk P B w₀ f p) : CallOk P B w₀ (D X) := by
  intro fv args σ cr h
  obtain ⟨n, hn⟩ := D_fuel h
  exact callV_sound hg hX hP n fv args σ cr hn

end Go.Den

/- Den: what is still to come of a run, as a proposition: rules for rewriting. -/
namespace Go.Den
open Go

abbrev Post := Ex → Fr → AS → Prop

variable (X : Ctx)

def wp (f : FuncId) (rd : Bool) (pc : PC) (fr : Fr) (σ : AS) (Q : Post) : Prop :=
  ∃ ex fr' σ', runCode X (D X) Lw f rd pc fr σ = some (ex, fr', σ') ∧ Q ex fr' σ'

def wpO (os : List Ins) (fr : Fr) (σ : AS) (Q : Post) : Prop :=
  ∃ ex fr' σ', runOps X (D X) os fr σ = some (ex, fr', σ') ∧ Q ex fr' σ'

def wpD (fps : List FP) (os : List (Ins × List Nat)) (fr : Fr) (σ : AS) (Q : Post) : Prop :=
  ∃ ex fr' σ', runOpsD X (D X) fps os fr σ = some (ex, fr', σ') ∧ Q ex fr' σ'

def outK (K Kp : AV → AS → Prop) : Option Out → Prop
  | some (.ok v σ) => K v σ
  | some (.panic v σ) => Kp v σ
  | none => False

def wpI (i : I) (e : Env) (σ : AS) (K Kp : AV → AS → Prop) : Prop := outK K Kp (exec X (D X) i e σ)

def seqK (f : FuncId) (rd : Bool) (b : PC) (Q : Post) : Post
  | .normal, fr, σ => wp X f rd b fr σ Q
  | ex, fr, σ => Q ex fr σ

def blkK (id : Nat) (Q : Post) : Post
  | .exit i, fr, σ => if i = id then Q .normal fr σ else Q (.exit i) fr σ
  | ex, fr, σ => Q ex fr σ

def callK (K Kp : AV → AS → Prop) : Option CRes → Prop
  | some (.ret v σ) => K v σ
  | some (.panic v σ) => Kp v σ
  | none => False

def retK (n : Nat) (lo : Option Nat) (res : List RV) (R : CRes → Prop) : Post
  | .normal, fr, σ | .ret, fr, σ => ∃ σ₁ v, killMarks σ fr.marks = some σ₁ ∧ resultsA X σ₁ fr.env res = some v ∧ R (.ret (finish n lo v σ₁).1 (finish n lo v σ₁).2)
  | .panic v, fr, σ => ∃ σ₁, killMarks σ fr.marks = some σ₁ ∧ R (.panic (finish n lo v σ₁).1 (finish n lo v σ₁).2)
  | .exit _, _, _ => False

def guardK (c : AV) (b : Bool) (A B : Prop) : Prop :=
  match c with
  | .bool t => (t = b → A) ∧ (t = (!b) → B)
  | _ => False

variable {X} {f : FuncId} {rd : Bool} {fr : Fr} {σ : AS} {Q : Post} {e : Env} {ms : List Nat} {K Kp : AV → AS → Prop}

theorem ex_some {a : Ex} {b : Fr} {c : AS} : (∃ ex fr' σ', (some (a, b, c) : Res) = some (ex, fr', σ') ∧ Q ex fr' σ') ↔ Q a b c :=
  ⟨fun ⟨_, _, _, h, q⟩ => by cases h; exact q, fun q => ⟨_, _, _, rfl, q⟩⟩

def guardO (c : AV) (b : Bool) (A B C : Prop) : Prop :=
  match c with
  | .bool t => (t = b → A) ∧ (t = (!b) → B)
  | _ => C

/-! Code. -/

theorem wp_skip : wp X f rd .skip fr σ Q = Q .normal fr σ := propext (by simp only [wp, runCode]; exact ex_some)
theorem wp_exit {id : Nat} : wp X f rd (.exit id) fr σ Q = Q (.exit id) fr σ := propext (by simp only [wp, runCode]; exact ex_some)
theorem wp_ret : wp X f rd .ret fr σ Q = Q .ret fr σ := propext (by simp only [wp, runCode]; exact ex_some)
theorem wp_seq {a b : PC} : wp X f rd (.seq a b) fr σ Q = wp X f rd a fr σ (seqK X f rd b Q) := by
  apply propext
  simp only [wp, runCode]
  constructor
  · rintro ⟨ex, fr', σ', h, hq⟩
    split at h
    · rename_i fr₁ σ₁ hx
      exact ⟨_, _, _, hx, ex, fr', σ', h, hq⟩
    · rename_i hx
      refine ⟨_, _, _, h, ?_⟩
      cases ex with
      | normal => exact absurd h (hx _ _)
      | _ => exact hq
  · rintro ⟨ex, fr', σ', h, hq⟩
    rw [h]
    cases ex with
    | normal => exact hq
    | exit _ => exact ⟨_, _, _, rfl, hq⟩
    | ret => exact ⟨_, _, _, rfl, hq⟩
    | panic _ => exact ⟨_, _, _, rfl, hq⟩
theorem wp_block {id : Nat} {b : PC} : wp X f rd (.block id b) fr σ Q = wp X f rd b fr σ (blkK id Q) := by
  apply propext
  simp only [wp, runCode]
  constructor
  · rintro ⟨ex, fr', σ', h, hq⟩
    split at h
    · rename_i id' fr₁ σ₁ hx
      refine ⟨_, _, _, hx, ?_⟩
      simp only [blkK]
      split at h <;> rename_i hi <;> simp only [Option.some.injEq, Prod.mk.injEq] at h <;> obtain ⟨rfl, rfl, rfl⟩ := h
      · rw [if_pos hi]; exact hq
      · rw [if_neg hi]; exact hq
    · rename_i hx
      refine ⟨_, _, _, h, ?_⟩
      cases ex with
      | exit i => exact absurd h (hx _ _ _)
      | _ => exact hq
  · rintro ⟨ex, fr', σ', h, hq⟩
    rw [h]
    cases ex with
    | normal => exact ⟨_, _, _, rfl, hq⟩
    | exit i =>
      simp only [blkK] at hq
      by_cases hi : i = id
      · rw [if_pos hi] at hq; exact ⟨_, _, _, by simp only [hi, if_true], hq⟩
      · rw [if_neg hi] at hq; exact ⟨_, _, _, by simp only [if_neg hi], hq⟩
    | ret => exact ⟨_, _, _, rfl, hq⟩
    | panic _ => exact ⟨_, _, _, rfl, hq⟩
theorem wp_cond {c : Opd} {a b : PC} : wp X f rd (.cond c a b) fr σ Q = guardK (c.get fr.env) true (wp X f rd a fr σ Q) (wp X f rd b fr σ Q) := by
  apply propext
  simp only [wp, runCode, guardK]
  constructor
  · rintro ⟨ex, fr', σ', h, hq⟩
    split at h
    · rename_i t ht
      rw [ht]
      refine ⟨fun h' => ?_, fun h' => ?_⟩ <;> subst h' <;> simp at h <;> exact ⟨_, _, _, h, hq⟩
    · cases h
  · intro h
    cases hc : c.get fr.env <;> rw [hc] at h <;> simp only at h <;> try exact h.elim
    rename_i t
    cases t
    · simpa using h.2 rfl
    · simpa using h.1 rfl
theorem wp_reg {os : List Ins} : wp X f rd (.reg os) fr σ Q = wpO X os fr σ Q := by simp only [wp, wpO, runCode]
theorem wp_dreg {os : List (Ins × List Nat)} : wp X f rd (.dreg os) fr σ Q = wpD X [] (slotOps σ.heap.length os) fr (σ.pushL (slotZs os)) Q := by simp only [wp, wpD, runCode]

/-- A loop: an invariant with a measure. -/
theorem wp_loop {S : Type} (I : S → Fr → AS → Prop) (μ : S → Nat) (s : S) {b : PC} (h0 : I s fr σ)
    (hb : ∀ s fr σ, I s fr σ → wp X f rd b fr σ (fun ex fr' σ' => match ex with | .normal => ∃ s', μ s' < μ s ∧ I s' fr' σ' | ex => Q ex fr' σ')) : wp X f rd (.loop b) fr σ Q := by
  have key : ∀ n s fr σ, μ s < n → I s fr σ → ∃ ex fr' σ', Lw (runCode X (D X) Lw f rd b) fr σ = some (ex, fr', σ') ∧ Q ex fr' σ' := by
    intro n
    induction n with
    | zero => intro s fr σ hn; omega
    | succ n ih =>
      intro s fr σ hn hi
      obtain ⟨ex, fr', σ', hr, hq⟩ := hb s fr σ hi
      rw [Lw_eq, hr]
      cases ex with
      | normal =>
        obtain ⟨s', hs, hi'⟩ := hq
        exact ih s' fr' σ' (by omega) hi'
      | exit _ => exact ⟨_, _, _, rfl, hq⟩
      | ret => exact ⟨_, _, _, rfl, hq⟩
      | panic _ => exact ⟨_, _, _, rfl, hq⟩
  obtain ⟨ex, fr', σ', hr, hq⟩ := key _ s fr σ (Nat.lt_succ_self _) h0
  exact ⟨ex, fr', σ', by simp only [runCode]; exact hr, hq⟩

theorem wp_mono {pc : PC} {Q' : Post} (h : wp X f rd pc fr σ Q) (hq : ∀ ex fr σ, Q ex fr σ → Q' ex fr σ) : wp X f rd pc fr σ Q' := by
  obtain ⟨ex, fr', σ', hr, hq'⟩ := h
  exact ⟨ex, fr', σ', hr, hq _ _ _ hq'⟩

theorem wpO_mono {os : List Ins} {Q' : Post} (h : wpO X os fr σ Q) (hq : ∀ ex fr σ, Q ex fr σ → Q' ex fr σ) : wpO X os fr σ Q' := by
  obtain ⟨ex, fr', σ', hr, hq'⟩ := h
  exact ⟨ex, fr', σ', hr, hq _ _ _ hq'⟩

theorem seqK_normal {b : PC} : seqK X f rd b Q .normal fr σ = wp X f rd b fr σ Q := rfl
theorem seqK_exit {b : PC} {i : Nat} : seqK X f rd b Q (.exit i) fr σ = Q (.exit i) fr σ := rfl
theorem seqK_ret {b : PC} : seqK X f rd b Q .ret fr σ = Q .ret fr σ := rfl
theorem seqK_panic {b : PC} {v : AV} : seqK X f rd b Q (.panic v) fr σ = Q (.panic v) fr σ := rfl
theorem blkK_normal {id : Nat} : blkK id Q .normal fr σ = Q .normal fr σ := rfl
theorem blkK_exit {id i : Nat} : blkK id Q (.exit i) fr σ = if i = id then Q .normal fr σ else Q (.exit i) fr σ := rfl
theorem blkK_ret {id : Nat} : blkK id Q .ret fr σ = Q .ret fr σ := rfl
theorem blkK_panic {id : Nat} {v : AV} : blkK id Q (.panic v) fr σ = Q (.panic v) fr σ := rfl
theorem retK_normal {n : Nat} {lo : Option Nat} {res : List RV} {R : CRes → Prop} : retK X n lo res R .normal fr σ = ∃ σ₁ v, killMarks σ fr.marks = some σ₁ ∧ resultsA X σ₁ fr.env res = some v ∧ R (.ret (finish n lo v σ₁).1 (finish n lo v σ₁).2) := rfl
theorem retK_ret {n : Nat} {lo : Option Nat} {res : List RV} {R : CRes → Prop} : retK X n lo res R .ret fr σ = ∃ σ₁ v, killMarks σ fr.marks = some σ₁ ∧ resultsA X σ₁ fr.env res = some v ∧ R (.ret (finish n lo v σ₁).1 (finish n lo v σ₁).2) := rfl
theorem guardK_bool {t b : Bool} {A B : Prop} : guardK (.bool t) b A B = ((t = b → A) ∧ (t = (!b) → B)) := rfl
theorem callK_ret {v : AV} : callK K Kp (some (.ret v σ)) = K v σ := rfl
theorem callK_panic {v : AV} : callK K Kp (some (.panic v σ)) = Kp v σ := rfl

/-! Operations. -/

theorem wpO_nil : wpO X [] fr σ Q = Q .normal fr σ := propext (by simp only [wpO, runOps]; exact ex_some)

theorem Fr.put_some {d : Nat} {v : AV} : Fr.put ⟨e, ms⟩ (some d) v = ⟨e.set d v, ms⟩ := rfl
theorem Fr.put_none {v : AV} : Fr.put ⟨e, ms⟩ none v = ⟨e, ms⟩ := rfl

theorem wpO_cons {d : Option Nat} {i : I} {os : List Ins} : wpO X (⟨none, d, i⟩ :: os) fr σ Q = wpI X i fr.env σ (fun v σ' => wpO X os (fr.put d v) σ' Q) (fun v σ' => Q (.panic v) fr σ') := by
  apply propext
  simp only [wpO, wpI, runOps, wantedA, if_true]
  cases hx : exec X (D X) i fr.env σ with
  | none => simp [outK]
  | some o =>
    cases o with
    | ok v σ' => simp only [outK]
    | panic v σ' => simp only [outK]; exact ex_some

theorem Env.set_self {e : Env} {t : Nat} : e.set t (e t) = e := by
  funext x; unfold Env.set; split <;> simp_all

theorem wpO_guard {t : Nat} {b : Bool} {d : Option Nat} {i : I} {os : List Ins} : wpO X (⟨some (t, b), d, i⟩ :: os) ⟨e, ms⟩ σ Q =
    guardO (e t) b (wpI X i (e.set t (.bool b)) σ (fun v σ' => wpO X os (Fr.put ⟨e.set t (.bool b), ms⟩ d v) σ' Q) (fun v σ' => Q (.panic v) ⟨e.set t (.bool b), ms⟩ σ'))
      (wpO X os (Fr.put ⟨e.set t (.bool (!b)), ms⟩ d .undef) σ Q) (wpO X os (Fr.put ⟨e, ms⟩ d .undef) σ Q) := by
  cases hc : e t with
  | bool c =>
    have h1 : c = b → wpO X (⟨some (t, b), d, i⟩ :: os) ⟨e, ms⟩ σ Q = wpO X (⟨none, d, i⟩ :: os) ⟨e, ms⟩ σ Q := by
      intro h; subst h
      simp only [wpO, runOps, wantedA, hc, beq_self_eq_true, if_true]
    have h2 : c = (!b) → wpO X (⟨some (t, b), d, i⟩ :: os) ⟨e, ms⟩ σ Q = wpO X os (Fr.put ⟨e, ms⟩ d .undef) σ Q := by
      intro h; subst h
      have : ((!b) == b) = false := by cases b <;> rfl
      simp only [wpO, runOps, wantedA, hc, this, Bool.false_eq_true, if_false]
    have h3 : e.set t (.bool c) = e := by rw [← hc]; exact Env.set_self
    apply propext
    simp only [guardO]
    by_cases hb : c = b
    · have hn : ¬ c = (!b) := by subst hb; cases c <;> simp
      rw [h1 hb, wpO_cons]
      subst hb
      rw [h3]
      exact ⟨fun h => ⟨fun _ => h, fun h' => absurd h' hn⟩, fun h => h.1 rfl⟩
    · have hb' : c = (!b) := by cases c <;> cases b <;> simp_all
      rw [h2 hb', ← hb', h3]
      exact ⟨fun h => ⟨fun h' => absurd h' hb, fun _ => h⟩, fun h => h.2 rfl⟩
  | _ => simp only [wpO, runOps, wantedA, hc, guardO, Bool.false_eq_true, if_false]

/-! A function. -/

theorem D_code {f : FuncId} {pf : PF} {first cap args : List AV} {H : List AObj} {lo : Option Nat} {R : CRes → Prop} (hp : X.prim f = none) (hc : X.code f = some pf) (hl : (first ++ args ++ cap).length ≤ pf.ntmps)
    (h : wp X f false pf.body ⟨envOf (first ++ args ++ cap), []⟩ ⟨H, none⟩ (retK X H.length lo pf.results R)) : ∃ cr, D X (.fn (.func f) first cap) args ⟨H, lo⟩ = some cr ∧ R cr := by
  obtain ⟨ex, fr, σ, hr, hq⟩ := h
  have key : ∀ cr, leave X H.length lo pf (some (ex, fr, σ)) = some cr → D X (.fn (.func f) first cap) args ⟨H, lo⟩ = some cr := by
    intro cr hcr
    refine D_step ?_
    simp only [step, hp, hc]
    rw [if_pos hl, hr, hcr]
  cases ex with
  | normal => obtain ⟨σ₁, v, h1, h2, h3⟩ := hq; exact ⟨_, key _ (by simp only [leave, leaveRet, h1, h2]), h3⟩
  | ret => obtain ⟨σ₁, v, h1, h2, h3⟩ := hq; exact ⟨_, key _ (by simp only [leave, leaveRet, h1, h2]), h3⟩
  | panic v => obtain ⟨σ₁, h1, h3⟩ := hq; exact ⟨_, key _ (by simp only [leave, h1]), h3⟩
  | exit _ => exact hq.elim

/-- A function that answers, and what it leaves. -/
theorem D_ret {f : FuncId} {pf : PF} {first cap args : List AV} {H : List AObj} {lo : Option Nat} {cr : CRes} (hp : X.prim f = none) (hc : X.code f = some pf) (hl : (first ++ args ++ cap).length ≤ pf.ntmps)
    (h : wp X f false pf.body ⟨envOf (first ++ args ++ cap), []⟩ ⟨H, none⟩ (retK X H.length lo pf.results (· = cr))) : D X (.fn (.func f) first cap) args ⟨H, lo⟩ = some cr := by
  obtain ⟨_, h1, rfl⟩ := D_code hp hc hl h
  exact h1

end Go.Den

/- Den: the rules as bundles for rewriting. -/
namespace Go.Den
open Go

section
variable {X : Ctx} {f : FuncId} {rd : Bool} {fr : Fr} {σ : AS} {Q : Post} {e : Env} {ms : List Nat} {K Kp : AV → AS → Prop}

def okK {α : Type} (r : Option α) (K : α → Prop) : Prop :=
  match r with
  | some a => K a
  | none => False

theorem okK_some {α : Type} {a : α} {K : α → Prop} : okK (some a) K = K a := rfl
theorem okK_ite {α : Type} {c : Prop} [Decidable c] {v : Option α} {K : α → Prop} : okK (if c then v else none) K = (c ∧ okK v K) := by
  split <;> simp [*, okK]
theorem okK_ite2 {α : Type} {c : Prop} [Decidable c] {v v' : Option α} {K : α → Prop} : okK (if c then v else v') K = ((c → okK v K) ∧ (¬ c → okK v' K)) := by
  split <;> simp [*, okK]

theorem wpI_call {g : Opd} {as : List Opd} : wpI X (.call g as) e σ K Kp = callK K Kp (D X (g.get e) (as.map (·.get e)) σ) := by
  simp only [wpI, exec]
  cases D X (g.get e) (as.map (·.get e)) σ with
  | none => rfl
  | some r => cases r <;> rfl


theorem outK_okv {r : Option AV} : outK K Kp (okv σ r) = okK r (fun v => K v σ) := by cases r <;> rfl

def shfA (op : BinOp) (x y : AV) : Option AV := match x, y with
  | .int k a, .int _ b => shiftA op k a b
  | _, _ => none
def usdA : AV → Option AV
  | .nils => some .nilp
  | .ref id ver sz off len _ => if 0 < len ∧ sz = 1 then some (.rptr id ver off 0) else none
  | _ => none
def ustrA (σ : AS) (ty : TypeId) (p n : AV) : Option (AV × AS) := match p, n with
  | .nilp, .int _ n => if n = 0 then some (.str .empty, σ) else none
  | .rptr id ver i 0, .int _ n => match σ.heap[id]? with
    | some (.row v 1 ty' els) =>
      if v = ver ∧ ty' = ty ∧ 0 < n ∧ i + n ≤ els.length ∧ n ≤ room then
        match stringA ((els.drop i).take n.toNat) with
        | some l => some (.str ⟨l.toArray⟩, σ.set id .dead 0)
        | none => none
      else none
    | _ => none
  | _, _ => none
def nxtA (σ : AS) (x : AV) : Option (AV × AS) := match x with
  | .ptr id 0 => match σ.heap[id]? with
    | some (.siter s pos) =>
      if pos < s.size then
        some (.tup [.bool true, .int .i64 pos, .int .i32 (Utf8.decode s pos).1], σ.set id (.siter s (pos + (Utf8.decode s pos).2)) 0)
      else some (.tup [.bool false], σ)
    | _ => none
  | _ => none

theorem wpI_mov {x : Opd} : wpI X (.mov x) e σ K Kp = (K (x.get e) σ) := by
  rfl
theorem wpI_pick {c : Opd} {a : Opd} {b : Opd} : wpI X (.pick c a b) e σ K Kp = (okK (match c.get e with | .bool t => some t | _ => none) fun t => K (if t then a.get e else b.get e) σ) := by
  simp only [wpI, exec]
  cases c.get e <;> rfl
theorem wpI_alloc {z : List AV} {tg : Option TypeId} : wpI X (.alloc z tg) e σ K Kp = (K (.ptr σ.heap.length 0) (σ.push (.box z tg))) := by
  rfl
theorem wpI_box {x : Opd} {tg : Option TypeId} : wpI X (.box x tg) e σ K Kp = (((x.get e).isTup = false ∧ K (.ptr σ.heap.length 0) (σ.push (.box (x.get e).cells tg)))) := by
  simp only [wpI, exec]
  cases h : (x.get e).isTup <;> simp [outK]
theorem wpI_build {z : List AV} {parts : List (Nat × Nat × Opd)} : wpI X (.build z parts) e σ K Kp = (okK (fillA z (parts.map fun p => (p.1, p.2.1, p.2.2.get e))) fun cs => K (.agg cs) σ) := by
  simp only [wpI, exec]
  cases fillA z (parts.map fun p => (p.1, p.2.1, p.2.2.get e)) <;> rfl
theorem wpI_bslice {z : List AV} {len : Nat} {parts : List (Nat × Nat × Opd)} : wpI X (.bslice z len parts) e σ K Kp = (okK (fillA (List.replicate len z).flatten (parts.map fun p => (p.1, p.2.1, p.2.2.get e))) fun cs => K (.sl (chunks z.length len cs) true) σ) := by
  simp only [wpI, exec]
  cases fillA (List.replicate len z).flatten (parts.map fun p => (p.1, p.2.1, p.2.2.get e)) <;> rfl
theorem wpI_brow {ty : TypeId} {z : List AV} {len : Nat} {parts : List (Nat × Nat × Opd)} : wpI X (.brow ty z len parts) e σ K Kp = (okK (fillA (List.replicate len z).flatten (parts.map fun p => (p.1, p.2.1, p.2.2.get e))) fun cs => K (.ref σ.heap.length 0 z.length 0 len false) (σ.push (.row 0 z.length ty (chunks z.length len cs)))) := by
  simp only [wpI, exec]
  cases fillA (List.replicate len z).flatten (parts.map fun p => (p.1, p.2.1, p.2.2.get e)) <;> rfl
theorem wpI_load {agg : Bool} {n : Nat} {a : Opd} : wpI X (.load agg n a) e σ K Kp = (okK (loadA X σ agg n (a.get e)) fun v => K v σ) := by
  simp only [wpI, exec, outK_okv]
theorem wpI_store {n : Nat} {a : Opd} {v : Opd} : wpI X (.store n a v) e σ K Kp = (okK (storeA σ n (a.get e) (v.get e)) fun σ' => K .undef σ') := by
  simp only [wpI, exec]
  cases storeA σ n (a.get e) (v.get e) <;> rfl
theorem wpI_nilck {x : Opd} : wpI X (.nilck x) e σ K Kp = (okK (nilckA (x.get e)) fun v => K v σ) := by
  simp only [wpI, exec, outK_okv]
theorem wpI_bin {op : BinOp} {x : Opd} {y : Opd} : wpI X (.bin op x y) e σ K Kp = (okK (binA op (x.get e) (y.get e)) fun v => K v σ) := by
  simp only [wpI, exec, outK_okv]
theorem wpI_shf {op : BinOp} {x : Opd} {y : Opd} : wpI X (.shf op x y) e σ K Kp = (okK (shfA op (x.get e) (y.get e)) fun v => K v σ) := by
  simp only [wpI, exec, shfA]
  cases x.get e <;> first | rfl | (cases y.get e <;> first | rfl | exact outK_okv)
theorem wpI_eq {k : EK} {x : Opd} {y : Opd} : wpI X (.eq k x y) e σ K Kp = (okK (eqA k (x.get e) (y.get e)) fun b => K (.bool b) σ) := by
  simp only [wpI, exec]
  cases eqA k (x.get e) (y.get e) <;> rfl
theorem wpI_ne {k : EK} {x : Opd} {y : Opd} : wpI X (.ne k x y) e σ K Kp = (okK (eqA k (x.get e) (y.get e)) fun b => K (.bool !b) σ) := by
  simp only [wpI, exec]
  cases eqA k (x.get e) (y.get e) <;> rfl
theorem wpI_un {op : UnOp} {x : Opd} : wpI X (.un op x) e σ K Kp = (okK (unA op (x.get e)) fun v => K v σ) := by
  simp only [wpI, exec, outK_okv]
theorem wpI_conv {k : IntKind} {x : Opd} : wpI X (.conv k x) e σ K Kp = (okK (intOf? (x.get e)) fun n => K (.int k (k.wrap n)) σ) := by
  simp only [wpI, exec]
  cases x.get e <;> rfl
theorem wpI_convs {x : Opd} : wpI X (.convs x) e σ K Kp = (okK (match x.get e with | .str s => some s | _ => none) fun s => K (.str s) σ) := by
  simp only [wpI, exec]
  cases x.get e <;> rfl
theorem wpI_s2b {x : Opd} : wpI X (.s2b x) e σ K Kp = (okK (match x.get e with | .str s => if s.size ≤ room then some s else none | _ => none) fun s => K (.sl (bytesA s) false) σ) := by
  simp only [wpI, exec]
  cases x.get e <;> first | rfl | (simp only []; split <;> rfl)
theorem wpI_b2s {x : Opd} : wpI X (.b2s x) e σ K Kp = (okK (elems σ 1 (x.get e)) fun els => okK (stringA els) fun l => K (.str ⟨l.toArray⟩) σ) := by
  simp only [wpI, exec]
  cases elems σ 1 (x.get e) with
  | none => rfl
  | some els => simp only [okK]; cases stringA els <;> rfl
theorem wpI_mki {t : TypeId} {x : Opd} : wpI X (.mki t x) e σ K Kp = (K (.ifc t (x.get e)) σ) := by
  rfl
theorem wpI_mkf {f : Fn} {first : List Opd} {cap : List Opd} : wpI X (.mkf f first cap) e σ K Kp = (K (.fn f (first.map (·.get e)) (cap.map (·.get e))) σ) := by
  rfl
theorem wpI_mkmap  : wpI X (.mkmap) e σ K Kp = (K (.mp σ.heap.length) (σ.push (.map []))) := by
  rfl
theorem wpI_mkslice {ty : TypeId} {z : List AV} {bytes : Nat} {l : Opd} {c : Opd} : wpI X (.mkslice ty z bytes l c) e σ K Kp = (okK (mksliceA σ ty z bytes (l.get e) (c.get e)) fun p => K p.1 p.2) := by
  simp only [wpI, exec]
  cases mksliceA σ ty z bytes (l.get e) (c.get e) <;> rfl
theorem wpI_slstr {x : Opd} {lo : Option Opd} {hi : Option Opd} : wpI X (.slstr x lo hi) e σ K Kp = (okK (slstrA (x.get e) (lo.map (·.get e)) (hi.map (·.get e))) fun v => K v σ) := by
  simp only [wpI, exec, outK_okv]
theorem wpI_slsl {n : Nat} {x : Opd} {lo : Option Opd} {hi : Option Opd} {mx : Option Opd} : wpI X (.slsl n x lo hi mx) e σ K Kp = (okK (slslA n (x.get e) (lo.map (·.get e)) (hi.map (·.get e)) (mx.map (·.get e))) fun v => K v σ) := by
  simp only [wpI, exec, outK_okv]
theorem wpI_slarr {n : Nat} {sz : Nat} {x : Opd} {lo : Option Opd} {hi : Option Opd} : wpI X (.slarr n sz x lo hi) e σ K Kp = (okK (slarrA X n sz (x.get e) (lo.map (·.get e)) (hi.map (·.get e))) fun v => K v σ) := by
  simp only [wpI, exec, outK_okv]
theorem wpI_faddr {n : Nat} {x : Opd} : wpI X (.faddr n x) e σ K Kp = (okK (faddrA X n (x.get e)) fun v => K v σ) := by
  simp only [wpI, exec, outK_okv]
theorem wpI_fld {agg : Bool} {n : Nat} {off : Nat} {x : Opd} : wpI X (.fld agg n off x) e σ K Kp = (okK (match x.get e with | .agg cs => part agg n cs off | _ => none) fun v => K v σ) := by
  simp only [wpI, exec]
  cases x.get e <;> first | rfl | exact outK_okv
theorem wpI_iaddra {n : Nat} {sz : Nat} {x : Opd} {i : Opd} : wpI X (.iaddra n sz x i) e σ K Kp = (okK (iaddraA X n sz (x.get e) (i.get e)) fun v => K v σ) := by
  simp only [wpI, exec, outK_okv]
theorem wpI_iaddrs {sz : Nat} {x : Opd} {i : Opd} : wpI X (.iaddrs sz x i) e σ K Kp = (okK (iaddrsA sz (x.get e) (i.get e)) fun v => K v σ) := by
  simp only [wpI, exec, outK_okv]
theorem wpI_idxa {agg : Bool} {n : Nat} {sz : Nat} {x : Opd} {i : Opd} : wpI X (.idxa agg n sz x i) e σ K Kp = (okK (idxaA agg n sz (x.get e) (i.get e)) fun v => K v σ) := by
  simp only [wpI, exec, outK_okv]
theorem wpI_idxs {x : Opd} {i : Opd} : wpI X (.idxs x i) e σ K Kp = (okK (idxsA (x.get e) (i.get e)) fun v => K v σ) := by
  simp only [wpI, exec, outK_okv]
theorem wpI_lookup {kk : EK} {z : AV} {m : Opd} {k : Opd} {ok : Bool} : wpI X (.lookup kk z m k ok) e σ K Kp = (okK (lookupA X.gmap σ kk z (m.get e) (k.get e) ok) fun v => K v σ) := by
  simp only [wpI, exec, outK_okv]
theorem wpI_mput {kk : EK} {m : Opd} {k : Opd} {v : Opd} : wpI X (.mput kk m k v) e σ K Kp = (okK (mputA σ kk (m.get e) (k.get e) (v.get e)) fun σ' => K .undef σ') := by
  simp only [wpI, exec]
  cases mputA σ kk (m.get e) (k.get e) (v.get e) <;> rfl
theorem wpI_tai {x : Opd} {ok : Bool} {yes : List TypeId} : wpI X (.tai x ok yes) e σ K Kp = (okK (taiA yes (x.get e) ok) fun v => K v σ) := by
  simp only [wpI, exec, outK_okv]
theorem wpI_ta {z : AV} {x : Opd} {t : TypeId} {ok : Bool} : wpI X (.ta z x t ok) e σ K Kp = (okK (taA z (x.get e) t ok) fun v => K v σ) := by
  simp only [wpI, exec, outK_okv]
theorem wpI_ext {x : Opd} {i : Nat} : wpI X (.ext x i) e σ K Kp = (okK (match x.get e with | .tup vs => vs[i]? | _ => none) fun v => K v σ) := by
  simp only [wpI, exec]
  cases x.get e <;> first | rfl | exact outK_okv
theorem wpI_len {k : EK} {x : Opd} : wpI X (.len k x) e σ K Kp = (okK (lenA σ k (x.get e)) fun v => K v σ) := by
  simp only [wpI, exec, outK_okv]
theorem wpI_lenarr {n : Nat} : wpI X (.lenarr n) e σ K Kp = (K (.int .i64 n) σ) := by
  rfl
theorem wpI_append {ty : TypeId} {sz : Nat} {bytes : Nat} {s : Opd} {x : Opd} : wpI X (.append ty sz bytes s x) e σ K Kp = (okK (elems σ sz (x.get e)) fun ys => okK (appendA σ ty sz bytes (s.get e) ys) fun p => K p.1 p.2) := by
  simp only [wpI, exec]
  cases elems σ sz (x.get e) with
  | none => rfl
  | some ys => simp only [okK]; cases appendA σ ty sz bytes (s.get e) ys <;> rfl
theorem wpI_appends {ty : TypeId} {s : Opd} {x : Opd} : wpI X (.appends ty s x) e σ K Kp = (okK (match x.get e with | .str b => some b | _ => none) fun b => okK (appendA σ ty 1 1 (s.get e) (bytesA b)) fun p => K p.1 p.2) := by
  simp only [wpI, exec]
  cases x.get e <;> first | rfl | (rename_i b; simp only [okK]; cases appendA σ ty 1 1 (s.get e) (bytesA b) <;> rfl)
theorem wpI_copy {sz : Nat} {d : Opd} {s : Opd} : wpI X (.copy sz d s) e σ K Kp = (okK (copyA σ sz (d.get e) (s.get e)) fun p => K p.1 p.2) := by
  simp only [wpI, exec]
  cases copyA σ sz (d.get e) (s.get e) <;> rfl
theorem wpI_clear {z : List AV} {x : Opd} : wpI X (.clear z x) e σ K Kp = (okK (clearA σ z (x.get e)) fun σ' => K .undef σ') := by
  simp only [wpI, exec]
  cases clearA σ z (x.get e) <;> rfl
theorem wpI_max {xs : List Opd} : wpI X (.max xs) e σ K Kp = (okK (foldA maxA (xs.map (·.get e))) fun v => K v σ) := by
  simp only [wpI, exec, outK_okv]
theorem wpI_min {xs : List Opd} : wpI X (.min xs) e σ K Kp = (okK (foldA minA (xs.map (·.get e))) fun v => K v σ) := by
  simp only [wpI, exec, outK_okv]
theorem wpI_usd {x : Opd} : wpI X (.usd x) e σ K Kp = (okK (usdA (x.get e)) fun v => K v σ) := by
  simp only [wpI, exec, usdA]
  cases x.get e <;> first | rfl | (simp only []; split <;> rfl)
theorem wpI_ustr {ty : TypeId} {p : Opd} {n : Opd} : wpI X (.ustr ty p n) e σ K Kp = (okK (ustrA σ ty (p.get e) (n.get e)) fun p => K p.1 p.2) := by
  simp only [wpI, exec, ustrA]
  cases p.get e with
  | nilp =>
    cases n.get e with
    | int k m => simp only []; split <;> rfl
    | _ => rfl
  | rptr id ver i off =>
    cases off with
    | zero =>
      cases n.get e with
      | int k m =>
        simp only []
        cases σ.heap[id]? with
        | none => rfl
        | some a =>
          cases a with
          | row v sz ty' els =>
            by_cases h1 : sz = 1
            · subst h1
              simp only []
              split
              · cases stringA (List.take m.toNat (List.drop i els)) <;> rfl
              · rfl
            · have : ∀ {α : Type} (A : Nat → TypeId → List (List AV) → α) (B : α), (match (some (AObj.row v sz ty' els) : Option AObj) with | some (.row v 1 ty' els) => A v ty' els | _ => B) = B := by
                intro α A B
                split
                · rename_i h; simp at h; exact absurd h.2.1 h1
                · rfl
              split
              · rename_i h; simp at h; exact absurd h.2.1 h1
              · split
                · rename_i h; simp at h; exact absurd h.2.1 h1
                · rfl
          | _ => rfl
      | _ => rfl
    | succ k => cases n.get e <;> rfl
  | _ => cases n.get e <;> rfl
theorem wpI_rng {x : Opd} : wpI X (.rng x) e σ K Kp = (okK (match x.get e with | .str s => some s | _ => none) fun s => K (.ptr σ.heap.length 0) (σ.push (.siter s 0))) := by
  simp only [wpI, exec]
  cases x.get e <;> rfl
theorem wpI_nxt {x : Opd} : wpI X (.nxt x) e σ K Kp = (okK (nxtA σ (x.get e)) fun p => K p.1 p.2) := by
  simp only [wpI, exec, nxtA]
  cases x.get e with
  | ptr id off =>
    cases off with
    | zero =>
      simp only []
      cases σ.heap[id]? with
      | none => rfl
      | some a =>
        cases a with
        | siter s pos => simp only []; split <;> rfl
        | _ => rfl
    | succ k => rfl
  | _ => rfl
theorem wpI_panic {x : Opd} : wpI X (.panic x) e σ K Kp = (okK (match x.get e with | .ifc t v => some (AV.ifc t v) | _ => none) fun v => Kp v σ) := by
  simp only [wpI, exec]
  cases x.get e <;> rfl
def selB (b : Bool) (v : AV) (e : Env) (t : Nat) : AV := match b with | true => v | false => e t
theorem selB_true {v : AV} {t : Nat} : selB true v e t = v := rfl
theorem selB_false {v : AV} {t : Nat} : selB false v e t = e t := rfl
theorem set_at {d t : Nat} {v : AV} : (e.set d v) t = selB (d == t) v e t := by
  unfold Env.set selB
  by_cases h : d = t
  · subst h; simp
  · have : (d == t) = false := by simpa using h
    rw [this, if_neg (fun e => h e.symm)]

theorem guardO_bool {t b : Bool} {A B C : Prop} : guardO (.bool t) b A B C = ((t = b → A) ∧ (t = (!b) → B)) := rfl
theorem guardO_undef {b : Bool} {A B C : Prop} : guardO (.tup []) b A B C = C := rfl



theorem dec_true {p : Prop} [Decidable p] : (decide p = true) = p := by simp
theorem dec_false {p : Prop} [Decidable p] : (decide p = false) = ¬ p := by simp

theorem push_mk {H : List AObj} {lo : Option Nat} {o : AObj} : AS.push ⟨H, lo⟩ o = ⟨H ++ [o], lo⟩ := rfl
theorem set_mk {H : List AObj} {lo : Option Nat} {id r : Nat} {o : AObj} : AS.set ⟨H, lo⟩ id o r = ⟨H.set id o, if r ≤ id + 1 then lo else minLo lo id⟩ := rfl

end

section
variable {H L : List AObj} {n k : Nat}
theorem base_get0 (h : H.length = n) : (H ++ L)[n]? = L[0]? := by subst h; simp [List.getElem?_append]
theorem base_get (h : H.length = n) : (H ++ L)[n + k]? = L[k]? := by subst h; rw [List.getElem?_append_right (Nat.le_add_right _ _)]; simp
theorem base_set0 {o : AObj} (h : H.length = n) : (H ++ L).set n o = H ++ L.set 0 o := by subst h; simp [List.set_append]
theorem base_set {o : AObj} (h : H.length = n) : (H ++ L).set (n + k) o = H ++ L.set k o := by subst h; rw [List.set_append_right _ _ (Nat.le_add_right _ _)]; simp
theorem base_take (h : H.length = n) : (H ++ L).take n = H := by subst h; simp
end

/-- How a call ends that leaves what was there as it was. -/
theorem finish_eq {n : Nat} {lo lo' : Option Nat} {v v' : AV} {H : List AObj} (hlo : (match lo' with | none => true | some j => decide (n ≤ j)) = true) (hf : freeze ⟨H, lo'⟩ n 12 v = some v') : finish n lo v ⟨H, lo'⟩ = (v', ⟨H.take n, lo⟩) := by
  cases lo' with
  | none => simp [finish, hf]
  | some j => simp only [decide_eq_true_eq] at hlo; simp [finish, hlo, hf]

theorem freeze_low {σ : AS} {n k : Nat} {v : AV} (h : v.refs ≤ n) : freeze σ n (k + 1) v = some v := by
  unfold freeze; rw [if_pos h]

theorem finish_low {n : Nat} {lo lo' : Option Nat} {v : AV} {H : List AObj} (hlo : (match lo' with | none => true | some j => decide (n ≤ j)) = true) (hf : v.refs ≤ n) : finish n lo v ⟨H, lo'⟩ = (v, ⟨H.take n, lo⟩) :=
  finish_eq hlo (freeze_low hf)

theorem wrap_i64 {n : Int} (h : -9223372036854775808 ≤ n) (h' : n ≤ 9223372036854775807) : IntKind.wrap .i64 n = n := by
  unfold IntKind.wrap IntKind.bits IntKind.signed; simp; omega
theorem wrap_u64 {n : Int} (h : 0 ≤ n) (h' : n ≤ 18446744073709551615) : IntKind.wrap .u64 n = n := by
  unfold IntKind.wrap IntKind.bits IntKind.signed; simp; omega
theorem wrap_u32 {n : Int} (h : 0 ≤ n) (h' : n ≤ 4294967295) : IntKind.wrap .u32 n = n := by
  unfold IntKind.wrap IntKind.bits IntKind.signed; simp; omega
theorem wrap_i32 {n : Int} (h : -2147483648 ≤ n) (h' : n ≤ 2147483647) : IntKind.wrap .i32 n = n := by
  unfold IntKind.wrap IntKind.bits IntKind.signed; simp; omega
theorem wrap_u16 {n : Int} (h : 0 ≤ n) (h' : n ≤ 65535) : IntKind.wrap .u16 n = n := by
  unfold IntKind.wrap IntKind.bits IntKind.signed; simp; omega
theorem wrap_u8 {n : Int} (h : 0 ≤ n) (h' : n ≤ 255) : IntKind.wrap .u8 n = n := by
  unfold IntKind.wrap IntKind.bits IntKind.signed; simp; omega

/-! Strings. -/

def S (l : List UInt8) : AV := .str ⟨l.toArray⟩

theorem S_of (s : ByteArray) : AV.str s = S s.data.toList := by cases s; simp [S]

theorem size_mk (l : List UInt8) : (⟨l.toArray⟩ : ByteArray).size = l.length := by simp [ByteArray.size]

theorem binA_S {op : BinOp} {a b : List UInt8} : binA op (S a) (S b) = match op with
    | .add => if a.length + b.length ≤ strRoom then some (S (a ++ b)) else none
    | .eql => some (.bool (a == b))
    | .neq => some (.bool !(a == b))
    | op => strA op ⟨a.toArray⟩ ⟨b.toArray⟩ := by
  cases op <;> simp only [binA, S, strA, ByteArray.toList_mk, size_mk]
  rfl

/-! Short words of the printed code. -/

def o (d : Nat) (i : I) : Ins := ⟨none, some d, i⟩
def u (i : I) : Ins := ⟨none, none, i⟩
def gt (t : Nat) (d : Option Nat) (i : I) : Ins := ⟨some (t, true), d, i⟩
def gf (t : Nat) (d : Option Nat) (i : I) : Ins := ⟨some (t, false), d, i⟩
def ci (n : Int) : Opd := .c (.int .i64 n)
def cf (f : Nat) : Opd := .c (.fn (.func f) [] [])

/-- Many cells alike. -/
def reps (n : Nat) (v : AV) : List AV := List.replicate n v

def OkF (P : Program) (f : Nat) (pf : PF) : Prop := ∃ rows fn, P.funcs[f]? = some fn ∧ prepF P rows fn = some pf

section
variable {X : Ctx} {f : FuncId} {rd : Bool} {fr : Fr} {σ : AS} {Q : Post} {e : Env} {ms : List Nat} {K Kp : AV → AS → Prop}

theorem wpO_o {d : Nat} {i : I} {os : List Ins} : wpO X (o d i :: os) ⟨e, ms⟩ σ Q = wpI X i e σ (fun v σ' => wpO X os ⟨e.set d v, ms⟩ σ' Q) (fun v σ' => Q (.panic v) ⟨e, ms⟩ σ') := wpO_cons
theorem wpO_u {i : I} {os : List Ins} : wpO X (u i :: os) ⟨e, ms⟩ σ Q = wpI X i e σ (fun v σ' => wpO X os ⟨e, ms⟩ σ' Q) (fun v σ' => Q (.panic v) ⟨e, ms⟩ σ') := wpO_cons
theorem wpO_gt {t : Nat} {d : Option Nat} {i : I} {os : List Ins} : wpO X (gt t d i :: os) ⟨e, ms⟩ σ Q =
    guardO (e t) true (wpI X i (e.set t (.bool true)) σ (fun v σ' => wpO X os (Fr.put ⟨e.set t (.bool true), ms⟩ d v) σ' Q) (fun v σ' => Q (.panic v) ⟨e.set t (.bool true), ms⟩ σ'))
      (wpO X os (Fr.put ⟨e.set t (.bool false), ms⟩ d .undef) σ Q) (wpO X os (Fr.put ⟨e, ms⟩ d .undef) σ Q) := wpO_guard
theorem wpO_gf {t : Nat} {d : Option Nat} {i : I} {os : List Ins} : wpO X (gf t d i :: os) ⟨e, ms⟩ σ Q =
    guardO (e t) false (wpI X i (e.set t (.bool false)) σ (fun v σ' => wpO X os (Fr.put ⟨e.set t (.bool false), ms⟩ d v) σ' Q) (fun v σ' => Q (.panic v) ⟨e.set t (.bool false), ms⟩ σ'))
      (wpO X os (Fr.put ⟨e.set t (.bool true), ms⟩ d .undef) σ Q) (wpO X os (Fr.put ⟨e, ms⟩ d .undef) σ Q) := wpO_guard
end

theorem get_t {e : Env} {i : Nat} : Opd.get e (.t i) = e i := rfl
theorem get_c {e : Env} {v : AV} : Opd.get e (.c v) = v := rfl
theorem get_ci {e : Env} {n : Int} : Opd.get e (ci n) = .int .i64 n := rfl
theorem get_cf {e : Env} {f : Nat} : Opd.get e (cf f) = .fn (.func f) [] [] := rfl

theorem D_fn {X : Ctx} {f : FuncId} (pf : PF) {args : List AV} {H : List AObj} {lo : Option Nat} {cr : CRes} (hp : X.prim f = none) (hc : X.code f = some pf) (hl : Nat.ble args.length pf.ntmps = true)
    (h : ∀ n, H.length = n → wp X f false pf.body ⟨envOf args, []⟩ ⟨H, none⟩ (retK X n lo pf.results (· = cr))) : D X (.fn (.func f) [] []) args ⟨H, lo⟩ = some cr := by
  have hl' := Nat.le_of_ble_eq_true hl
  refine D_ret hp hc (by simpa using hl') ?_
  simpa using h _ rfl

theorem D_fn_ex {X : Ctx} {f : FuncId} (pf : PF) {args : List AV} {H : List AObj} {lo : Option Nat} {R : CRes → Prop} (hp : X.prim f = none) (hc : X.code f = some pf) (hl : Nat.ble args.length pf.ntmps = true)
    (h : ∀ n, H.length = n → wp X f false pf.body ⟨envOf args, []⟩ ⟨H, none⟩ (retK X n lo pf.results R)) : ∃ cr, D X (.fn (.func f) [] []) args ⟨H, lo⟩ = some cr ∧ R cr := by
  have hl' := Nat.le_of_ble_eq_true hl
  refine D_code hp hc (by simpa using hl') ?_
  simpa using h _ rfl

theorem resultsA_one {X : Ctx} {σ : AS} {e : Env} {t : Nat} : resultsA X σ e [.t t] = some (e t) := rfl
theorem resultsA_two {X : Ctx} {σ : AS} {e : Env} {t u : Nat} : resultsA X σ e [.t t, .t u] = some (.tup [e t, e u]) := rfl
theorem resultsA_three {X : Ctx} {σ : AS} {e : Env} {t u v : Nat} : resultsA X σ e [.t t, .t u, .t v] = some (.tup [e t, e u, e v]) := rfl
theorem killMarks_nil {σ : AS} : killMarks σ [] = some σ := rfl



def extA (x : AV) (i : Nat) : Option AV := match x with | .tup vs => vs[i]? | _ => none
def fldA (agg : Bool) (n off : Nat) (x : AV) : Option AV := match x with | .agg cs => part agg n cs off | _ => none
def boxA (σ : AS) (x : AV) (tg : Option TypeId) : Option (AV × AS) := if x.isTup = false then some (.ptr σ.heap.length 0, σ.push (.box x.cells tg)) else none
def buildA (z : List AV) (ps : List (Nat × Nat × AV)) : Option AV := (fillA z ps).map .agg
def bsliceA (z : List AV) (len : Nat) (ps : List (Nat × Nat × AV)) : Option AV := (fillA (List.replicate len z).flatten ps).map fun cs => .sl (chunks z.length len cs) true
def browA (σ : AS) (ty : TypeId) (z : List AV) (len : Nat) (ps : List (Nat × Nat × AV)) : Option (AV × AS) :=
  (fillA (List.replicate len z).flatten ps).map fun cs => (.ref σ.heap.length 0 z.length 0 len false, σ.push (.row 0 z.length ty (chunks z.length len cs)))
def rngA (σ : AS) (x : AV) : Option (AV × AS) := match x with | .str s => some (.ptr σ.heap.length 0, σ.push (.siter s 0)) | _ => none
def panicA (x : AV) : Option AV := match x with | .ifc t v => some (.ifc t v) | _ => none
def b2sA (r : Option (List (List AV))) : Option AV := match r with | some els => (stringA els).map fun l => S l | none => none
def s2bA (x : AV) : Option AV := match x with | .str s => if s.size ≤ room then some (.sl (bytesA s) false) else none | _ => none
def convsA (x : AV) : Option AV := match x with | .str s => some (.str s) | _ => none

/-! Continuations as plain data, so that rewriting does not look into them ahead of time. -/

section
variable (X : Ctx)
def kV (os : List Ins) (d : Nat) (e : Env) (ms : List Nat) (Q : Post) : AV → AS → Prop := fun v σ => wpO X os ⟨e.set d v, ms⟩ σ Q
def kU (os : List Ins) (e : Env) (ms : List Nat) (Q : Post) : AV → AS → Prop := fun _ σ => wpO X os ⟨e, ms⟩ σ Q
def kP (e : Env) (ms : List Nat) (Q : Post) : AV → AS → Prop := fun v σ => Q (.panic v) ⟨e, ms⟩ σ
def okV (r : Option AV) (K : AV → AS → Prop) (σ : AS) : Prop := match r with | some v => K v σ | none => False
def okS (r : Option AS) (K : AV → AS → Prop) : Prop := match r with | some σ => K .undef σ | none => False
def okP (r : Option (AV × AS)) (K : AV → AS → Prop) : Prop := match r with | some p => K p.1 p.2 | none => False
def okB (r : Option Bool) (neg : Bool) (K : AV → AS → Prop) (σ : AS) : Prop := match r with | some b => K (.bool (if neg then !b else b)) σ | none => False
def okN (k : IntKind) (x : AV) (K : AV → AS → Prop) (σ : AS) : Prop := match x with | .int _ n => K (.int k (k.wrap n)) σ | _ => False
def pickK (c a b : AV) (K : AV → AS → Prop) (σ : AS) : Prop := match c with | .bool t => K (if t then a else b) σ | _ => False
def elsK (r : Option (List (List AV))) (ty : TypeId) (sz bytes : Nat) (s : AV) (K : AV → AS → Prop) (σ : AS) : Prop := match r with | some ys => okP (appendA σ ty sz bytes s ys) K | none => False
def strK (x : AV) (ty : TypeId) (s : AV) (K : AV → AS → Prop) (σ : AS) : Prop := match x with | .str b => okP (appendA σ ty 1 1 s (bytesA b)) K | _ => False
def condK (f : FuncId) (rd : Bool) (a b : PC) (fr : Fr) (σ : AS) (Q : Post) (c : AV) : Prop := guardK c true (wp X f rd a fr σ Q) (wp X f rd b fr σ Q)
def gK (t : Nat) (b : Bool) (d : Option Nat) (i : I) (os : List Ins) (e : Env) (ms : List Nat) (σ : AS) (Q : Post) (c : AV) : Prop :=
  guardO c b (wpI X i (e.set t (.bool b)) σ (match d with | some d => kV X os d (e.set t (.bool b)) ms Q | none => kU X os (e.set t (.bool b)) ms Q) (kP (e.set t (.bool b)) ms Q))
      (wpO X os (Fr.put ⟨e.set t (.bool (!b)), ms⟩ d .undef) σ Q) (wpO X os (Fr.put ⟨e, ms⟩ d .undef) σ Q)
end

section
variable {X : Ctx} {f : FuncId} {rd : Bool} {fr : Fr} {σ : AS} {Q : Post} {e : Env} {ms : List Nat} {K Kp : AV → AS → Prop} {t : Nat} {d : Option Nat} {i : I} {os : List Ins} {dd : Nat}

theorem okK_V {r : Option AV} : okK r (fun v => K v σ) = okV r K σ := by cases r <;> rfl
theorem okK_S {r : Option AS} : okK r (fun σ' => K .undef σ') = okS r K := by cases r <;> rfl
theorem okK_P {r : Option (AV × AS)} : okK r (fun p => K p.1 p.2) = okP r K := by cases r <;> rfl
theorem wO_o : wpO X (o dd i :: os) ⟨e, ms⟩ σ Q = wpI X i e σ (kV X os dd e ms Q) (kP e ms Q) := wpO_cons
theorem wO_u : wpO X (u i :: os) ⟨e, ms⟩ σ Q = wpI X i e σ (kU X os e ms Q) (kP e ms Q) := wpO_cons
theorem wO_gt : wpO X (gt t d i :: os) ⟨e, ms⟩ σ Q = gK X t true d i os e ms σ Q (e t) := by
  unfold gK; rw [wpO_gt]; cases d <;> rfl
theorem wO_gf : wpO X (gf t d i :: os) ⟨e, ms⟩ σ Q = gK X t false d i os e ms σ Q (e t) := by
  unfold gK; rw [wpO_gf]; cases d <;> rfl
theorem kV_at {v : AV} : kV X os dd e ms Q v σ = wpO X os ⟨e.set dd v, ms⟩ σ Q := rfl
theorem kU_at {v : AV} : kU X os e ms Q v σ = wpO X os ⟨e, ms⟩ σ Q := rfl
theorem kP_at {v : AV} : kP e ms Q v σ = Q (.panic v) ⟨e, ms⟩ σ := rfl
theorem okV_some {v : AV} : okV (some v) K σ = K v σ := rfl
theorem okV_ite {c : Prop} [Decidable c] {v : Option AV} : okV (if c then v else none) K σ = (c ∧ okV v K σ) := by split <;> simp [*, okV]
theorem okS_some : okS (some σ) K = K .undef σ := rfl
theorem okS_ite {c : Prop} [Decidable c] {v : Option AS} : okS (if c then v else none) K = (c ∧ okS v K) := by split <;> simp [*, okS]
theorem okP_some {v : AV} : okP (some (v, σ)) K = K v σ := rfl
theorem okP_ite {c : Prop} [Decidable c] {v : Option (AV × AS)} : okP (if c then v else none) K = (c ∧ okP v K) := by split <;> simp [*, okP]
theorem okB_eq {b : Bool} : okB (some b) false K σ = K (.bool b) σ := rfl
theorem okB_ne {b : Bool} : okB (some b) true K σ = K (.bool (!b)) σ := rfl
theorem okN_int {k k' : IntKind} {n : Int} : okN k (.int k' n) K σ = K (.int k (k.wrap n)) σ := rfl
theorem pickK_true {a b : AV} : pickK (.bool true) a b K σ = K a σ := rfl
theorem pickK_false {a b : AV} : pickK (.bool false) a b K σ = K b σ := rfl
theorem pickK_if {a b : AV} {c : Bool} : pickK (.bool c) a b K σ = K (if c then a else b) σ := rfl
theorem elsK_some {ys : List (List AV)} {ty : TypeId} {sz bytes : Nat} {s : AV} : elsK (some ys) ty sz bytes s K σ = okP (appendA σ ty sz bytes s ys) K := rfl
theorem strK_S {l : List UInt8} {ty : TypeId} {s : AV} : strK (S l) ty s K σ = okP (appendA σ ty 1 1 s (l.map fun b => [.int .u8 b.toNat])) K := by
  simp [strK, S, bytesA]
theorem wp_cond' {c : Opd} {a b : PC} : wp X f rd (.cond c a b) fr σ Q = condK X f rd a b fr σ Q (c.get fr.env) := wp_cond
theorem condK_true {a b : PC} : condK X f rd a b fr σ Q (.bool true) = wp X f rd a fr σ Q := by simp [condK, guardK_bool]
theorem condK_false {a b : PC} : condK X f rd a b fr σ Q (.bool false) = wp X f rd b fr σ Q := by simp [condK, guardK_bool]
theorem condK_dec {a b : PC} {p : Prop} [Decidable p] : condK X f rd a b fr σ Q (.bool (decide p)) = ((p → wp X f rd a fr σ Q) ∧ (¬ p → wp X f rd b fr σ Q)) := by simp [condK, guardK_bool]
theorem condK_not {a b : PC} {c : Bool} : condK X f rd a b fr σ Q (.bool (!c)) = condK X f rd b a fr σ Q (.bool c) := by cases c <;> simp [condK, guardK_bool]
theorem condK_any {a b : PC} {c : Bool} : condK X f rd a b fr σ Q (.bool c) = ((c = true → wp X f rd a fr σ Q) ∧ (c = false → wp X f rd b fr σ Q)) := by simp [condK, guardK_bool]
theorem gK_undef {b : Bool} {c : List AV} : gK X t b (some dd) i os e ms σ Q (.tup c) = wpO X os ⟨e.set dd .undef, ms⟩ σ Q := rfl
theorem gK_undef' {b : Bool} {c : List AV} : gK X t b none i os e ms σ Q (.tup c) = wpO X os ⟨e, ms⟩ σ Q := rfl
theorem gK_tt : gK X t true (some dd) i os e ms σ Q (.bool true) = wpI X i (e.set t (.bool true)) σ (kV X os dd (e.set t (.bool true)) ms Q) (kP (e.set t (.bool true)) ms Q) := by simp [gK, guardO_bool]
theorem gK_tt' : gK X t true none i os e ms σ Q (.bool true) = wpI X i (e.set t (.bool true)) σ (kU X os (e.set t (.bool true)) ms Q) (kP (e.set t (.bool true)) ms Q) := by simp [gK, guardO_bool]
theorem gK_ff : gK X t false (some dd) i os e ms σ Q (.bool false) = wpI X i (e.set t (.bool false)) σ (kV X os dd (e.set t (.bool false)) ms Q) (kP (e.set t (.bool false)) ms Q) := by simp [gK, guardO_bool]
theorem gK_ff' : gK X t false none i os e ms σ Q (.bool false) = wpI X i (e.set t (.bool false)) σ (kU X os (e.set t (.bool false)) ms Q) (kP (e.set t (.bool false)) ms Q) := by simp [gK, guardO_bool]
theorem gK_tf : gK X t true d i os e ms σ Q (.bool false) = wpO X os (Fr.put ⟨e.set t (.bool false), ms⟩ d .undef) σ Q := by simp [gK, guardO_bool]
theorem gK_ft : gK X t false d i os e ms σ Q (.bool true) = wpO X os (Fr.put ⟨e.set t (.bool true), ms⟩ d .undef) σ Q := by simp [gK, guardO_bool]
theorem gK_dec {b : Bool} {p : Prop} [Decidable p] : gK X t b d i os e ms σ Q (.bool (decide p)) = ((p → gK X t b d i os e ms σ Q (.bool true)) ∧ (¬ p → gK X t b d i os e ms σ Q (.bool false))) := by
  by_cases h : p <;> simp [h]
theorem gK_any {b : Bool} {c : Bool} : gK X t b d i os e ms σ Q (.bool c) = ((c = true → gK X t b d i os e ms σ Q (.bool true)) ∧ (c = false → gK X t b d i os e ms σ Q (.bool false))) := by
  cases c <;> simp
theorem iI_mov {x : Opd} : wpI X (.mov x) e σ K Kp = (K (x.get e) σ) := by
  first | (rw [wpI_mov]; done) | (rw [wpI_mov]; exact okK_V) | (rw [wpI_mov]; exact okK_S) | (rw [wpI_mov]; exact okK_P) | (rw [wpI_mov]; rfl)
theorem iI_pick {c : Opd} {a : Opd} {b : Opd} : wpI X (.pick c a b) e σ K Kp = (pickK (c.get e) (a.get e) (b.get e) K σ) := by
  first | (rw [wpI_pick]; done) | (rw [wpI_pick]; exact okK_V) | (rw [wpI_pick]; exact okK_S) | (rw [wpI_pick]; exact okK_P) | (rw [wpI_pick]; cases c.get e <;> rfl)
theorem iI_alloc {z : List AV} {tg : Option TypeId} : wpI X (.alloc z tg) e σ K Kp = (K (.ptr σ.heap.length 0) (σ.push (.box z tg))) := by
  first | (rw [wpI_alloc]; done) | (rw [wpI_alloc]; exact okK_V) | (rw [wpI_alloc]; exact okK_S) | (rw [wpI_alloc]; exact okK_P) | (rw [wpI_alloc]; rfl)
theorem iI_load {agg : Bool} {n : Nat} {a : Opd} : wpI X (.load agg n a) e σ K Kp = (okV (loadA X σ agg n (a.get e)) K σ) := by
  first | (rw [wpI_load]; done) | (rw [wpI_load]; exact okK_V) | (rw [wpI_load]; exact okK_S) | (rw [wpI_load]; exact okK_P) | (rw [wpI_load]; rfl)
theorem iI_store {n : Nat} {a : Opd} {v : Opd} : wpI X (.store n a v) e σ K Kp = (okS (storeA σ n (a.get e) (v.get e)) K) := by
  first | (rw [wpI_store]; done) | (rw [wpI_store]; exact okK_V) | (rw [wpI_store]; exact okK_S) | (rw [wpI_store]; exact okK_P) | (rw [wpI_store]; rfl)
theorem iI_nilck {x : Opd} : wpI X (.nilck x) e σ K Kp = (okV (nilckA (x.get e)) K σ) := by
  first | (rw [wpI_nilck]; done) | (rw [wpI_nilck]; exact okK_V) | (rw [wpI_nilck]; exact okK_S) | (rw [wpI_nilck]; exact okK_P) | (rw [wpI_nilck]; rfl)
theorem iI_bin {op : BinOp} {x : Opd} {y : Opd} : wpI X (.bin op x y) e σ K Kp = (okV (binA op (x.get e) (y.get e)) K σ) := by
  first | (rw [wpI_bin]; done) | (rw [wpI_bin]; exact okK_V) | (rw [wpI_bin]; exact okK_S) | (rw [wpI_bin]; exact okK_P) | (rw [wpI_bin]; rfl)
theorem iI_shf {op : BinOp} {x : Opd} {y : Opd} : wpI X (.shf op x y) e σ K Kp = (okV (shfA op (x.get e) (y.get e)) K σ) := by
  first | (rw [wpI_shf]; done) | (rw [wpI_shf]; exact okK_V) | (rw [wpI_shf]; exact okK_S) | (rw [wpI_shf]; exact okK_P) | (rw [wpI_shf]; rfl)
theorem iI_eq {k : EK} {x : Opd} {y : Opd} : wpI X (.eq k x y) e σ K Kp = (okB (eqA k (x.get e) (y.get e)) false K σ) := by
  first | (rw [wpI_eq]; done) | (rw [wpI_eq]; exact okK_V) | (rw [wpI_eq]; exact okK_S) | (rw [wpI_eq]; exact okK_P) | (rw [wpI_eq]; cases eqA k (x.get e) (y.get e) <;> rfl)
theorem iI_ne {k : EK} {x : Opd} {y : Opd} : wpI X (.ne k x y) e σ K Kp = (okB (eqA k (x.get e) (y.get e)) true K σ) := by
  first | (rw [wpI_ne]; done) | (rw [wpI_ne]; exact okK_V) | (rw [wpI_ne]; exact okK_S) | (rw [wpI_ne]; exact okK_P) | (rw [wpI_ne]; cases eqA k (x.get e) (y.get e) <;> rfl)
theorem iI_un {op : UnOp} {x : Opd} : wpI X (.un op x) e σ K Kp = (okV (unA op (x.get e)) K σ) := by
  first | (rw [wpI_un]; done) | (rw [wpI_un]; exact okK_V) | (rw [wpI_un]; exact okK_S) | (rw [wpI_un]; exact okK_P) | (rw [wpI_un]; rfl)
theorem iI_conv {k : IntKind} {x : Opd} : wpI X (.conv k x) e σ K Kp = (okN k (x.get e) K σ) := by
  first | (rw [wpI_conv]; done) | (rw [wpI_conv]; exact okK_V) | (rw [wpI_conv]; exact okK_S) | (rw [wpI_conv]; exact okK_P) | (rw [wpI_conv]; cases x.get e <;> rfl)
theorem iI_mki {t : TypeId} {x : Opd} : wpI X (.mki t x) e σ K Kp = (K (.ifc t (x.get e)) σ) := by
  first | (rw [wpI_mki]; done) | (rw [wpI_mki]; exact okK_V) | (rw [wpI_mki]; exact okK_S) | (rw [wpI_mki]; exact okK_P) | (rw [wpI_mki]; rfl)
theorem iI_mkf {f : Fn} {first : List Opd} {cap : List Opd} : wpI X (.mkf f first cap) e σ K Kp = (K (.fn f (first.map (Opd.get e)) (cap.map (Opd.get e))) σ) := by
  first | (rw [wpI_mkf]; done) | (rw [wpI_mkf]; exact okK_V) | (rw [wpI_mkf]; exact okK_S) | (rw [wpI_mkf]; exact okK_P) | (rw [wpI_mkf]; rfl)
theorem iI_mkmap  : wpI X (.mkmap) e σ K Kp = (K (.mp σ.heap.length) (σ.push (.map []))) := by
  first | (rw [wpI_mkmap]; done) | (rw [wpI_mkmap]; exact okK_V) | (rw [wpI_mkmap]; exact okK_S) | (rw [wpI_mkmap]; exact okK_P) | (rw [wpI_mkmap]; rfl)
theorem iI_slstr {x : Opd} {lo : Option Opd} {hi : Option Opd} : wpI X (.slstr x lo hi) e σ K Kp = (okV (slstrA (x.get e) (lo.map (Opd.get e)) (hi.map (Opd.get e))) K σ) := by
  first | (rw [wpI_slstr]; done) | (rw [wpI_slstr]; exact okK_V) | (rw [wpI_slstr]; exact okK_S) | (rw [wpI_slstr]; exact okK_P) | (rw [wpI_slstr]; rfl)
theorem iI_slsl {n : Nat} {x : Opd} {lo : Option Opd} {hi : Option Opd} {mx : Option Opd} : wpI X (.slsl n x lo hi mx) e σ K Kp = (okV (slslA n (x.get e) (lo.map (Opd.get e)) (hi.map (Opd.get e)) (mx.map (Opd.get e))) K σ) := by
  first | (rw [wpI_slsl]; done) | (rw [wpI_slsl]; exact okK_V) | (rw [wpI_slsl]; exact okK_S) | (rw [wpI_slsl]; exact okK_P) | (rw [wpI_slsl]; rfl)
theorem iI_slarr {n : Nat} {sz : Nat} {x : Opd} {lo : Option Opd} {hi : Option Opd} : wpI X (.slarr n sz x lo hi) e σ K Kp = (okV (slarrA X n sz (x.get e) (lo.map (Opd.get e)) (hi.map (Opd.get e))) K σ) := by
  first | (rw [wpI_slarr]; done) | (rw [wpI_slarr]; exact okK_V) | (rw [wpI_slarr]; exact okK_S) | (rw [wpI_slarr]; exact okK_P) | (rw [wpI_slarr]; rfl)
theorem iI_faddr {n : Nat} {x : Opd} : wpI X (.faddr n x) e σ K Kp = (okV (faddrA X n (x.get e)) K σ) := by
  first | (rw [wpI_faddr]; done) | (rw [wpI_faddr]; exact okK_V) | (rw [wpI_faddr]; exact okK_S) | (rw [wpI_faddr]; exact okK_P) | (rw [wpI_faddr]; rfl)
theorem iI_iaddra {n : Nat} {sz : Nat} {x : Opd} {i : Opd} : wpI X (.iaddra n sz x i) e σ K Kp = (okV (iaddraA X n sz (x.get e) (i.get e)) K σ) := by
  first | (rw [wpI_iaddra]; done) | (rw [wpI_iaddra]; exact okK_V) | (rw [wpI_iaddra]; exact okK_S) | (rw [wpI_iaddra]; exact okK_P) | (rw [wpI_iaddra]; rfl)
theorem iI_iaddrs {sz : Nat} {x : Opd} {i : Opd} : wpI X (.iaddrs sz x i) e σ K Kp = (okV (iaddrsA sz (x.get e) (i.get e)) K σ) := by
  first | (rw [wpI_iaddrs]; done) | (rw [wpI_iaddrs]; exact okK_V) | (rw [wpI_iaddrs]; exact okK_S) | (rw [wpI_iaddrs]; exact okK_P) | (rw [wpI_iaddrs]; rfl)
theorem iI_idxa {agg : Bool} {n : Nat} {sz : Nat} {x : Opd} {i : Opd} : wpI X (.idxa agg n sz x i) e σ K Kp = (okV (idxaA agg n sz (x.get e) (i.get e)) K σ) := by
  first | (rw [wpI_idxa]; done) | (rw [wpI_idxa]; exact okK_V) | (rw [wpI_idxa]; exact okK_S) | (rw [wpI_idxa]; exact okK_P) | (rw [wpI_idxa]; rfl)
theorem iI_idxs {x : Opd} {i : Opd} : wpI X (.idxs x i) e σ K Kp = (okV (idxsA (x.get e) (i.get e)) K σ) := by
  first | (rw [wpI_idxs]; done) | (rw [wpI_idxs]; exact okK_V) | (rw [wpI_idxs]; exact okK_S) | (rw [wpI_idxs]; exact okK_P) | (rw [wpI_idxs]; rfl)
theorem iI_lookup {kk : EK} {z : AV} {m : Opd} {k : Opd} {ok : Bool} : wpI X (.lookup kk z m k ok) e σ K Kp = (okV (lookupA X.gmap σ kk z (m.get e) (k.get e) ok) K σ) := by
  first | (rw [wpI_lookup]; done) | (rw [wpI_lookup]; exact okK_V) | (rw [wpI_lookup]; exact okK_S) | (rw [wpI_lookup]; exact okK_P) | (rw [wpI_lookup]; rfl)
theorem iI_mput {kk : EK} {m : Opd} {k : Opd} {v : Opd} : wpI X (.mput kk m k v) e σ K Kp = (okS (mputA σ kk (m.get e) (k.get e) (v.get e)) K) := by
  first | (rw [wpI_mput]; done) | (rw [wpI_mput]; exact okK_V) | (rw [wpI_mput]; exact okK_S) | (rw [wpI_mput]; exact okK_P) | (rw [wpI_mput]; rfl)
theorem iI_tai {x : Opd} {ok : Bool} {yes : List TypeId} : wpI X (.tai x ok yes) e σ K Kp = (okV (taiA yes (x.get e) ok) K σ) := by
  first | (rw [wpI_tai]; done) | (rw [wpI_tai]; exact okK_V) | (rw [wpI_tai]; exact okK_S) | (rw [wpI_tai]; exact okK_P) | (rw [wpI_tai]; rfl)
theorem iI_ta {z : AV} {x : Opd} {t : TypeId} {ok : Bool} : wpI X (.ta z x t ok) e σ K Kp = (okV (taA z (x.get e) t ok) K σ) := by
  first | (rw [wpI_ta]; done) | (rw [wpI_ta]; exact okK_V) | (rw [wpI_ta]; exact okK_S) | (rw [wpI_ta]; exact okK_P) | (rw [wpI_ta]; rfl)
theorem iI_len {k : EK} {x : Opd} : wpI X (.len k x) e σ K Kp = (okV (lenA σ k (x.get e)) K σ) := by
  first | (rw [wpI_len]; done) | (rw [wpI_len]; exact okK_V) | (rw [wpI_len]; exact okK_S) | (rw [wpI_len]; exact okK_P) | (rw [wpI_len]; rfl)
theorem iI_lenarr {n : Nat} : wpI X (.lenarr n) e σ K Kp = (K (.int .i64 n) σ) := by
  first | (rw [wpI_lenarr]; done) | (rw [wpI_lenarr]; exact okK_V) | (rw [wpI_lenarr]; exact okK_S) | (rw [wpI_lenarr]; exact okK_P) | (rw [wpI_lenarr]; rfl)
theorem iI_append {ty : TypeId} {sz : Nat} {bytes : Nat} {s : Opd} {x : Opd} : wpI X (.append ty sz bytes s x) e σ K Kp = (elsK (elems σ sz (x.get e)) ty sz bytes (s.get e) K σ) := by
  first | (rw [wpI_append]; done) | (rw [wpI_append]; exact okK_V) | (rw [wpI_append]; exact okK_S) | (rw [wpI_append]; exact okK_P) | (rw [wpI_append]; cases elems σ sz (x.get e) <;> first | rfl | exact okK_P)
theorem iI_appends {ty : TypeId} {s : Opd} {x : Opd} : wpI X (.appends ty s x) e σ K Kp = (strK (x.get e) ty (s.get e) K σ) := by
  first | (rw [wpI_appends]; done) | (rw [wpI_appends]; exact okK_V) | (rw [wpI_appends]; exact okK_S) | (rw [wpI_appends]; exact okK_P) | (rw [wpI_appends]; cases x.get e <;> first | rfl | exact okK_P)
theorem iI_copy {sz : Nat} {d : Opd} {s : Opd} : wpI X (.copy sz d s) e σ K Kp = (okP (copyA σ sz (d.get e) (s.get e)) K) := by
  first | (rw [wpI_copy]; done) | (rw [wpI_copy]; exact okK_V) | (rw [wpI_copy]; exact okK_S) | (rw [wpI_copy]; exact okK_P) | (rw [wpI_copy]; rfl)
theorem iI_clear {z : List AV} {x : Opd} : wpI X (.clear z x) e σ K Kp = (okS (clearA σ z (x.get e)) K) := by
  first | (rw [wpI_clear]; done) | (rw [wpI_clear]; exact okK_V) | (rw [wpI_clear]; exact okK_S) | (rw [wpI_clear]; exact okK_P) | (rw [wpI_clear]; rfl)
theorem iI_max {xs : List Opd} : wpI X (.max xs) e σ K Kp = (okV (foldA maxA (xs.map (Opd.get e))) K σ) := by
  first | (rw [wpI_max]; done) | (rw [wpI_max]; exact okK_V) | (rw [wpI_max]; exact okK_S) | (rw [wpI_max]; exact okK_P) | (rw [wpI_max]; rfl)
theorem iI_min {xs : List Opd} : wpI X (.min xs) e σ K Kp = (okV (foldA minA (xs.map (Opd.get e))) K σ) := by
  first | (rw [wpI_min]; done) | (rw [wpI_min]; exact okK_V) | (rw [wpI_min]; exact okK_S) | (rw [wpI_min]; exact okK_P) | (rw [wpI_min]; rfl)
theorem iI_usd {x : Opd} : wpI X (.usd x) e σ K Kp = (okV (usdA (x.get e)) K σ) := by
  first | (rw [wpI_usd]; done) | (rw [wpI_usd]; exact okK_V) | (rw [wpI_usd]; exact okK_S) | (rw [wpI_usd]; exact okK_P) | (rw [wpI_usd]; rfl)
theorem iI_ustr {ty : TypeId} {p : Opd} {n : Opd} : wpI X (.ustr ty p n) e σ K Kp = (okP (ustrA σ ty (p.get e) (n.get e)) K) := by
  first | (rw [wpI_ustr]; done) | (rw [wpI_ustr]; exact okK_V) | (rw [wpI_ustr]; exact okK_S) | (rw [wpI_ustr]; exact okK_P) | (rw [wpI_ustr]; rfl)
theorem iI_nxt {x : Opd} : wpI X (.nxt x) e σ K Kp = (okP (nxtA σ (x.get e)) K) := by
  first | (rw [wpI_nxt]; done) | (rw [wpI_nxt]; exact okK_V) | (rw [wpI_nxt]; exact okK_S) | (rw [wpI_nxt]; exact okK_P) | (rw [wpI_nxt]; rfl)
theorem iI_mkslice {ty : TypeId} {z : List AV} {bytes : Nat} {l : Opd} {c : Opd} : wpI X (.mkslice ty z bytes l c) e σ K Kp = (okP (mksliceA σ ty z bytes (l.get e) (c.get e)) K) := by
  first | (rw [wpI_mkslice]; done) | (rw [wpI_mkslice]; exact okK_V) | (rw [wpI_mkslice]; exact okK_S) | (rw [wpI_mkslice]; exact okK_P) | (rw [wpI_mkslice]; rfl)
theorem iI_ext {x : Opd} {i : Nat} : wpI X (.ext x i) e σ K Kp = (okV (extA (x.get e) i) K σ) := by
  first | (rw [wpI_ext]; done) | (rw [wpI_ext]; exact okK_V) | (rw [wpI_ext]; exact okK_S) | (rw [wpI_ext]; exact okK_P) | (rw [wpI_ext]; cases x.get e <;> rfl)
theorem iI_fld {agg : Bool} {n : Nat} {off : Nat} {x : Opd} : wpI X (.fld agg n off x) e σ K Kp = (okV (fldA agg n off (x.get e)) K σ) := by
  first | (rw [wpI_fld]; done) | (rw [wpI_fld]; exact okK_V) | (rw [wpI_fld]; exact okK_S) | (rw [wpI_fld]; exact okK_P) | (rw [wpI_fld]; cases x.get e <;> rfl)
theorem iI_box {x : Opd} {tg : Option TypeId} : wpI X (.box x tg) e σ K Kp = (okP (boxA σ (x.get e) tg) K) := by
  first | (rw [wpI_box]; done) | (rw [wpI_box]; exact okK_V) | (rw [wpI_box]; exact okK_S) | (rw [wpI_box]; exact okK_P) | (rw [wpI_box]; unfold boxA; cases h : (x.get e).isTup <;> simp [okP])
theorem iI_build {z : List AV} {parts : List (Nat × Nat × Opd)} : wpI X (.build z parts) e σ K Kp = (okV (buildA z (parts.map fun p => (p.1, p.2.1, p.2.2.get e))) K σ) := by
  first | (rw [wpI_build]; done) | (rw [wpI_build]; exact okK_V) | (rw [wpI_build]; exact okK_S) | (rw [wpI_build]; exact okK_P) | (rw [wpI_build]; unfold buildA; cases fillA z (parts.map fun p => (p.1, p.2.1, p.2.2.get e)) <;> rfl)
theorem iI_bslice {z : List AV} {len : Nat} {parts : List (Nat × Nat × Opd)} : wpI X (.bslice z len parts) e σ K Kp = (okV (bsliceA z len (parts.map fun p => (p.1, p.2.1, p.2.2.get e))) K σ) := by
  first | (rw [wpI_bslice]; done) | (rw [wpI_bslice]; exact okK_V) | (rw [wpI_bslice]; exact okK_S) | (rw [wpI_bslice]; exact okK_P) | (rw [wpI_bslice]; unfold bsliceA; cases fillA (List.replicate len z).flatten (parts.map fun p => (p.1, p.2.1, p.2.2.get e)) <;> rfl)
theorem iI_brow {ty : TypeId} {z : List AV} {len : Nat} {parts : List (Nat × Nat × Opd)} : wpI X (.brow ty z len parts) e σ K Kp = (okP (browA σ ty z len (parts.map fun p => (p.1, p.2.1, p.2.2.get e))) K) := by
  first | (rw [wpI_brow]; done) | (rw [wpI_brow]; exact okK_V) | (rw [wpI_brow]; exact okK_S) | (rw [wpI_brow]; exact okK_P) | (rw [wpI_brow]; unfold browA; cases fillA (List.replicate len z).flatten (parts.map fun p => (p.1, p.2.1, p.2.2.get e)) <;> rfl)
theorem iI_rng {x : Opd} : wpI X (.rng x) e σ K Kp = (okP (rngA σ (x.get e)) K) := by
  first | (rw [wpI_rng]; done) | (rw [wpI_rng]; exact okK_V) | (rw [wpI_rng]; exact okK_S) | (rw [wpI_rng]; exact okK_P) | (rw [wpI_rng]; cases x.get e <;> rfl)
theorem iI_panic {x : Opd} : wpI X (.panic x) e σ K Kp = (okV (panicA (x.get e)) Kp σ) := by
  first | (rw [wpI_panic]; done) | (rw [wpI_panic]; exact okK_V) | (rw [wpI_panic]; exact okK_S) | (rw [wpI_panic]; exact okK_P) | (rw [wpI_panic]; cases x.get e <;> rfl)
theorem iI_b2s {x : Opd} : wpI X (.b2s x) e σ K Kp = (okV (b2sA (elems σ 1 (x.get e))) K σ) := by
  first | (rw [wpI_b2s]; done) | (rw [wpI_b2s]; exact okK_V) | (rw [wpI_b2s]; exact okK_S) | (rw [wpI_b2s]; exact okK_P) | (rw [wpI_b2s]; (cases elems σ 1 (x.get e) <;> first | rfl | (rename_i els; simp only [okK, b2sA]; cases stringA els <;> rfl)))
theorem iI_s2b {x : Opd} : wpI X (.s2b x) e σ K Kp = (okV (s2bA (x.get e)) K σ) := by
  first | (rw [wpI_s2b]; done) | (rw [wpI_s2b]; exact okK_V) | (rw [wpI_s2b]; exact okK_S) | (rw [wpI_s2b]; exact okK_P) | (rw [wpI_s2b]; cases x.get e <;> first | rfl | (rename_i q; simp only [s2bA]; by_cases hq : q.size ≤ room <;> simp only [hq, if_true, if_false] <;> rfl))
theorem iI_convs {x : Opd} : wpI X (.convs x) e σ K Kp = (okV (convsA (x.get e)) K σ) := by
  first | (rw [wpI_convs]; done) | (rw [wpI_convs]; exact okK_V) | (rw [wpI_convs]; exact okK_S) | (rw [wpI_convs]; exact okK_P) | (rw [wpI_convs]; cases x.get e <;> rfl)
end

theorem R1 : type_of% @wp_skip ∧ type_of% @wp_exit ∧ type_of% @wp_ret ∧ type_of% @wp_seq ∧ type_of% @wp_block ∧ type_of% @wp_cond' ∧ type_of% @wp_reg ∧ type_of% @seqK_normal ∧ type_of% @seqK_exit ∧ type_of% @seqK_ret ∧ type_of% @seqK_panic ∧ type_of% @blkK_normal ∧ type_of% @blkK_exit ∧ type_of% @blkK_ret ∧ type_of% @blkK_panic ∧ type_of% @wpO_nil ∧ type_of% @wO_o ∧ type_of% @wO_u ∧ type_of% @wO_gt ∧ type_of% @wO_gf ∧ type_of% @kV_at ∧ type_of% @kU_at ∧ type_of% @kP_at ∧ type_of% @wpI_call ∧ type_of% @iI_mov ∧ type_of% @iI_pick ∧ type_of% @iI_alloc ∧ type_of% @iI_load ∧ type_of% @iI_store ∧ type_of% @iI_nilck ∧ type_of% @iI_bin ∧ type_of% @iI_shf ∧ type_of% @iI_eq ∧ type_of% @iI_ne ∧ type_of% @iI_un ∧ type_of% @iI_conv ∧ type_of% @iI_mki ∧ type_of% @iI_mkf ∧ type_of% @iI_mkmap ∧ type_of% @iI_slstr ∧ type_of% @iI_slsl ∧ type_of% @iI_slarr ∧ type_of% @iI_faddr ∧ type_of% @iI_iaddra ∧ type_of% @iI_iaddrs ∧ type_of% @iI_idxa ∧ type_of% @iI_idxs ∧ type_of% @iI_lookup ∧ type_of% @iI_mput ∧ type_of% @iI_tai ∧ type_of% @iI_ta ∧ type_of% @iI_len ∧ type_of% @iI_lenarr ∧ type_of% @iI_append ∧ type_of% @iI_appends ∧ type_of% @iI_copy ∧ type_of% @iI_clear ∧ type_of% @iI_max ∧ type_of% @iI_min ∧ type_of% @iI_usd ∧ type_of% @iI_ustr ∧ type_of% @iI_nxt ∧ type_of% @iI_mkslice ∧ type_of% @iI_ext ∧ type_of% @iI_fld ∧ type_of% @iI_box ∧ type_of% @iI_build ∧ type_of% @iI_bslice ∧ type_of% @iI_brow ∧ type_of% @iI_rng ∧ type_of% @iI_panic ∧ type_of% @iI_b2s ∧ type_of% @iI_s2b ∧ type_of% @iI_convs :=
  ⟨@wp_skip, @wp_exit, @wp_ret, @wp_seq, @wp_block, @wp_cond', @wp_reg, @seqK_normal, @seqK_exit, @seqK_ret, @seqK_panic, @blkK_normal, @blkK_exit, @blkK_ret, @blkK_panic, @wpO_nil, @wO_o, @wO_u, @wO_gt, @wO_gf, @kV_at, @kU_at, @kP_at, @wpI_call, @iI_mov, @iI_pick, @iI_alloc, @iI_load, @iI_store, @iI_nilck, @iI_bin, @iI_shf, @iI_eq, @iI_ne, @iI_un, @iI_conv, @iI_mki, @iI_mkf, @iI_mkmap, @iI_slstr, @iI_slsl, @iI_slarr, @iI_faddr, @iI_iaddra, @iI_iaddrs, @iI_idxa, @iI_idxs, @iI_lookup, @iI_mput, @iI_tai, @iI_ta, @iI_len, @iI_lenarr, @iI_append, @iI_appends, @iI_copy, @iI_clear, @iI_max, @iI_min, @iI_usd, @iI_ustr, @iI_nxt, @iI_mkslice, @iI_ext, @iI_fld, @iI_box, @iI_build, @iI_bslice, @iI_brow, @iI_rng, @iI_panic, @iI_b2s, @iI_s2b, @iI_convs⟩

theorem R2 : type_of% @callK_ret ∧ type_of% @callK_panic ∧ type_of% @okV_some ∧ type_of% @okV_ite ∧ type_of% @okS_some ∧ type_of% @okS_ite ∧ type_of% @okP_some ∧ type_of% @okP_ite ∧ type_of% @okB_eq ∧ type_of% @okB_ne ∧ type_of% @okN_int ∧ type_of% @pickK_true ∧ type_of% @pickK_false ∧ type_of% @elsK_some ∧ type_of% @strK_S ∧ type_of% @condK_true ∧ type_of% @condK_false ∧ type_of% @condK_not ∧ type_of% @gK_undef ∧ type_of% @gK_undef' ∧ type_of% @gK_tt ∧ type_of% @gK_tt' ∧ type_of% @gK_ff ∧ type_of% @gK_ff' ∧ type_of% @gK_tf ∧ type_of% @gK_ft ∧ type_of% @Fr.put_some ∧ type_of% @Fr.put_none ∧ type_of% @get_t ∧ type_of% @get_c ∧ type_of% @get_ci ∧ type_of% @get_cf ∧ type_of% @push_mk ∧ type_of% @set_mk :=
  ⟨@callK_ret, @callK_panic, @okV_some, @okV_ite, @okS_some, @okS_ite, @okP_some, @okP_ite, @okB_eq, @okB_ne, @okN_int, @pickK_true, @pickK_false, @elsK_some, @strK_S, @condK_true, @condK_false, @condK_not, @gK_undef, @gK_undef', @gK_tt, @gK_tt', @gK_ff, @gK_ff', @gK_tf, @gK_ft, @Fr.put_some, @Fr.put_none, @get_t, @get_c, @get_ci, @get_cf, @push_mk, @set_mk⟩

theorem R4 : type_of% @gK_dec ∧ type_of% @condK_dec :=
  ⟨@gK_dec, @condK_dec⟩

end Go.Den

/- Den: functions that defer a call of a function that recovers: their contracts as primitives. -/
namespace Go.Den
open Go Go.RowKit

variable {P : Program} {X : Ctx} {B : Nat} {w₀ : World} {ds₀ : List Deferred}

/-! Regions, in parts. -/
section
variable {C : Caller} (hC : CallOk P B w₀ C) (hg : GlobOk X B w₀) {r : Option Nat} {n nt : Nat} {rows : Bool}
include hC hg

theorem ops_sound2 {ops : Array Oper} (is2 : List Nat) : ∀ (os : List Oper) (is : List Nat) (l : List Ins), is.map (ops[·]?) = os.map some → prepOps P rows ops os = some l → (∀ x ∈ l, ∀ d, x.dst = some d → d < nt) →
    ∀ (G : Gh) (σ : AS) (w : World) (fr : Fr) (a : Act) (res : Ex × Fr × AS) (Q : Exit → Act → World → Prop), WRel P B w₀ G σ w → ERel G nt fr.env a.tmps → DRel ds₀ G fr.marks a.defers → runOps X C l fr σ = some res →
    (∀ a w, res.1 = .normal → ResOk P B w₀ ds₀ G σ nt res .normal a w → wpOpsIn (W r) n P ops Q is2 a w) → (∀ e a w, res.1 ≠ .normal → ResOk P B w₀ ds₀ G σ nt res e a w → Q e a w) → wpOpsIn (W r) n P ops Q (is ++ is2) a w
  | [], is, l, hi, hp, hd, G, σ, w, fr, a, res, Q, hw, he, hm, hr, hN, hQ => by
    have : is = [] := by simpa using hi
    subst this
    simp only [prepOps, Option.some.injEq] at hp
    subst hp
    simp only [runOps, Option.some.injEq] at hr
    subst hr
    exact hN _ _ rfl ⟨G, G.le_refl, hw, he, hm, .refl σ, trivial⟩
  | o :: os, is, l, hi, hp, hd, G, σ, w, fr, a, res, Q, hw, he, hm, hr, hN, hQ => by
    cases is with
    | nil => simp at hi
    | cons i is =>
      simp only [List.map_cons, List.cons.injEq] at hi
      obtain ⟨hio, hi⟩ := hi
      simp only [prepOps] at hp
      split at hp
      · rename_i x xs hx hxs
        cases hp
        simp only [List.cons_append, wpOpsIn, hio]
        have hg' : guardOf ops o = some x.g := by
          unfold prepOper at hx
          split at hx
          · rename_i h2; cases hx; exact h2
          · cases hx
        have hdst : x.dst = o.dst := by
          unfold prepOper at hx
          split at hx
          · cases hx; rfl
          · cases hx
        have hwt := wanted_rel he hg'
        simp only [runOps] at hr
        rw [hwt]
        split at hr
        · rename_i hwa
          rw [if_pos hwa]
          split at hr
          · rename_i v σ' hex
            refine op_sound hC hg hx (hd x (by simp)) hw he hm hex (fun v₁ σ₁ e G' a' w' h1 h2 h3 h4 h5 => ?_) (fun v₁ σ₁ e => by cases e)
            cases e
            exact ops_sound2 is2 os is xs hi hxs (fun y hy => hd y (by simp [hy])) G' σ' w' _ a' res Q h2 h4 h5 hr (fun a w e h => hN a w e (h.trans h1 h3)) (fun e a w en h => hQ e a w en (h.trans h1 h3))
          · rename_i v σ' hex
            cases hr
            exact op_sound hC hg hx (hd x (by simp)) hw he hm hex (fun v₁ σ₁ e => by cases e) (fun v₁ σ₁ e e' a' w' h => by cases e; exact hQ _ _ _ (by simp) h)
          · cases hr
        · rename_i hwa
          rw [if_neg hwa]
          refine ⟨fun _ _ => trivial, ?_⟩
          obtain ⟨p1, p2, p3⟩ := put_rel' (a := a) he (hd x (by simp)) (v := .undef) (v' := undef) undef_rel
          rw [← hdst]
          exact ops_sound2 is2 os is xs hi hxs (fun y hy => hd y (by simp [hy])) G σ w _ _ res Q hw p1 (by rw [p2, p3]; exact hm) hr hN hQ
      · cases hp
end

/-! A function that recovers. -/

/-- Its first operation is recover, of which the answer goes to dst; pf is what comes behind it. -/
structure PRec where
  dst : Nat
  pf : PF
  deriving Inhabited

def recOp (o : Oper) : Bool := match o.op with
  | .call c => match c.callee, c.args.toList, o.guard with
    | .builtin .recover, [], none => true
    | _, _, _ => false
  | _ => false

def movOp (o : Oper) : Bool := match o.op, o.guard with
  | .move _, none => true
  | .assign _, none => true
  | _, _ => false

/-- The first region: recover, then values are handed on. -/
def prepRC (P : Program) (rows : Bool) (nt : Nat) : Code → Option (Nat × PC)
  | .seq (.region _ ops false) b => match ops.toList with
    | o :: os => match o.dst, prepOps P rows ops os, prepCode P rows nt b with
      | some d, some xs, some pb => if recOp o = true ∧ os.all movOp = true ∧ d < nt ∧ xs.all (fun x => match x.dst with | some d => d < nt | none => true) then some (d, .seq (.reg xs) pb) else none
      | _, _, _ => none
    | [] => none
  | _ => none

def prepR (P : Program) (rows : Bool) (fn : Func) : Option PRec :=
  match fn.body with
  | some c => match prepRC P rows fn.ntmps c, prepRes P fn.results.toList with
    | some (d, b), some rs => if (fn.name != "runtime.NumGoroutine") then some ⟨d, { ntmps := fn.ntmps, results := rs, body := b }⟩ else none
    | _, _ => none
  | none => none

noncomputable def recRun (X : Ctx) (C : Caller) (L : Loops) (g : FuncId) (pr : PRec) (args : List AV) (rv : AV) (σ : AS) : Option AS :=
  if args.length ≤ pr.pf.ntmps then
    match runCode X C L g false pr.pf.body { env := (envOf args).set pr.dst rv, marks := [] } { σ with lo := none } with
    | some (.normal, ⟨e, []⟩, σ') => (resultsA X σ' e pr.pf.results).map fun v => (finish σ.heap.length σ.lo v σ').2
    | some (.ret, ⟨e, []⟩, σ') => (resultsA X σ' e pr.pf.results).map fun v => (finish σ.heap.length σ.lo v σ').2
    | _ => none
  else none

/-- What a frame's mode hands to recover. -/
def ModeRel (G : Gh) (u : FrameMode) (rv : AV) : Prop :=
  (u = .returning ∧ rv = .nili) ∨ ∃ v', u = .panicking [{ v := v', recovered := false }] ∧ VRel G rv v'

section
variable {C : Caller} (hC : CallOk P B w₀ C) (hg : GlobOk X B w₀) (hX : CodeOk P X) (hdr : DrawOk P X B w₀) {L : Loops} (hL : LoopOk L)
include hC hg hX hdr hL

omit hC hg hX hdr hL in
/-- Values are handed on. -/
theorem mov_sound {n nt : Nat} {rows : Bool} {ops : Array Oper} {cs : List Frame} : ∀ (os : List Oper) (is : List Nat) (l : List Ins), is.map (ops[·]?) = os.map some → prepOps P rows ops os = some l → os.all movOp = true → (∀ x ∈ l, ∀ d, x.dst = some d → d < nt) →
    ∀ (G : Gh) (σ : AS) (w : World) (fr : Fr) (a : Act) (Q : Exit → Act → List Frame → World → Prop) (res : Ex × Fr × AS), WRel P B w₀ G σ w → ERel G nt fr.env a.tmps → DRel [] G fr.marks a.defers → runOps X C l fr σ = some res →
    (∀ a' fr', res = (.normal, fr', σ) → ERel G nt fr'.env a'.tmps → DRel [] G fr'.marks a'.defers → Q .normal a' cs w) → wpOpsSIn (W none) n P ops Q is a cs w
  | [], is, l, hi, hp, _, hd, G, σ, w, fr, a, Q, res, hw, he, hm, hr, hQ => by
    have : is = [] := by simpa using hi
    subst this
    simp only [prepOps, Option.some.injEq] at hp
    subst hp
    simp only [runOps, Option.some.injEq] at hr
    exact hQ a fr hr.symm he hm
  | o :: os, is, l, hi, hp, hmv, hd, G, σ, w, fr, a, Q, res, hw, he, hm, hr, hQ => by
    cases is with
    | nil => simp at hi
    | cons i is =>
      simp only [List.map_cons, List.cons.injEq] at hi
      obtain ⟨hio, hi⟩ := hi
      simp only [List.all_cons, Bool.and_eq_true] at hmv
      obtain ⟨hmo, hmv⟩ := hmv
      simp only [prepOps] at hp
      split at hp
      · rename_i x xs hx hxs
        cases hp
        have hmo' : (∃ z, (o.op = .move z ∨ o.op = .assign z)) ∧ o.guard = none := by
          unfold movOp at hmo
          split at hmo
          · rename_i z h1 h2; exact ⟨⟨_, .inl h1⟩, h2⟩
          · rename_i z h1 h2; exact ⟨⟨_, .inr h1⟩, h2⟩
          · cases hmo
        obtain ⟨⟨z, hz⟩, hgd⟩ := hmo'
        have hx' : ∃ y, opd z = some y ∧ x = { g := none, dst := o.dst, i := .mov y } := by
          unfold prepOper at hx
          have h1 : guardOf ops o = some none := by unfold guardOf; rw [hgd]
          rw [h1] at hx
          have h2 : prepOp P rows o = (opd z).map .mov := by
            rcases hz with hz | hz <;> simp only [prepOp, hz]
          rw [h2] at hx
          cases hy : opd z with
          | none => rw [hy] at hx; cases hx
          | some y => rw [hy] at hx; cases hx; exact ⟨y, rfl, rfl⟩
        obtain ⟨y, hy, rfl⟩ := hx'
        have hrun : (execOp a.eval o).run P w = .ok (.value (a.eval z)) w := by
          rcases hz with hz | hz <;> (unfold execOp; simp only [hz]; rfl)
        simp only [wpOpsSIn, hio]
        have hwa : Region.wanted o (yielded ops a.tmps) = true := by simp [Region.wanted, hgd]
        rw [if_pos hwa, hrun]
        refine ⟨fun _ _ => trivial, ?_⟩
        simp only [runOps, wantedA, if_true, exec] at hr
        obtain ⟨p1, p2, p3⟩ := put_rel' (a := a) (dst := o.dst) he (hd { g := none, dst := o.dst, i := .mov y } (by simp)) (opd_rel he hy)
        exact mov_sound os is xs hi hxs hmv (fun x hx => hd x (by simp [hx])) G σ w _ _ Q res hw p1 (by rw [p2, p3]; exact hm) hr hQ
      · cases hp

theorem rec_sound {g : FuncId} {fn : Func} {pr : PRec} {rows : Bool} (hfn : P.funcs[g]? = some fn) (hpre : prepR P rows fn = some pr) {args : List AV} {σ σ₂ : AS} {rv : AV} {n : Nat}
    (h : recRun X C L g pr args rv σ = some σ₂) {G : Gh} {w : World} {args' : Array Value} (hw : WRel P B w₀ G σ w) (hl : LRel G args args'.toList) {u : FrameMode} (hu : ModeRel G u rv) :
    CallsDIn (W none) n P g args' u w (fun e u' w' => settle u' = .returning ∧ ∃ v G', e = .returned v ∧ G.le G' ∧ WRel P B w₀ G' σ₂ w' ∧ σ.Ext σ₂) := by
  unfold prepR at hpre
  split at hpre
  case h_2 => cases hpre
  rename_i c hb
  split at hpre
  case h_2 => cases hpre
  rename_i d b rs hrc hrs
  split at hpre
  case isFalse => cases hpre
  cases hpre
  unfold prepRC at hrc
  split at hrc
  case h_2 => cases hrc
  rename_i id ops b'
  split at hrc
  case h_2 => cases hrc
  rename_i o os hops
  split at hrc
  case h_2 => cases hrc
  rename_i d' xs pb hod hxs hpb
  split at hrc
  case isFalse => cases hrc
  rename_i hcond
  cases hrc
  obtain ⟨hro, hmv, hdn, hxd⟩ := hcond
  unfold recRun at h
  split at h
  case isFalse => cases h
  rename_i hlen
  simp only at hlen h
  -- the run
  cases hrun : runCode X C L g false (.seq (.reg xs) pb) { env := (envOf args).set d rv, marks := [] } { σ with lo := none } with
  | none => rw [hrun] at h; cases h
  | some res =>
  have hrun' := hrun
  simp only [runCode] at hrun'
  cases hops1 : runOps X C xs { env := (envOf args).set d rv, marks := [] } { σ with lo := none } with
  | none => rw [hops1] at hrun'; cases hrun'
  | some res1 =>
  rw [hops1] at hrun'
  refine callsDIn_of_wpSIn hfn hb trivial fun c₀ cs hcu => ?_
  refine wpSIn_seq (wpSIn_region ?_)
  have hsize : 0 < ops.size := by rw [← Array.length_toList, hops]; simp
  have hrange : List.range ops.size = 0 :: (List.range' 1 (ops.size - 1)) := by
    rw [List.range_eq_range', show ops.size = (ops.size - 1) + 1 by omega, List.range'_succ]; simp
  have h0 : ops[0]? = some o := by rw [← Array.getElem?_toList, hops]; rfl
  rw [hrange]
  simp only [wpOpsSIn, h0]
  have hro' : (∃ c, o.op = .call c ∧ c.callee = .builtin .recover ∧ c.args.toList = []) ∧ o.guard = none := by
    unfold recOp at hro
    split at hro
    · rename_i c hop
      split at hro
      · rename_i h1 h2 h3; exact ⟨⟨c, hop, h1, h2⟩, h3⟩
      · cases hro
    · cases hro
  obtain ⟨⟨cc, hop, hcal, hargs⟩, hgd⟩ := hro'
  have hwa : ∀ t : Array Value, Region.wanted o (yielded ops t) = true := fun t => by simp [Region.wanted, hgd]
  have hexec : ∀ ρ, (execOp ρ o).run P w = .ok .recover w := by
    intro ρ
    unfold execOp
    simp only [hop, resolve, hcal]
    simp [invoke, builtin]
  rw [if_pos (hwa _), hexec]
  refine ⟨fun _ _ => trivial, ?_⟩
  have he0 : ERel G fn.ntmps (envOf args) (args' ++ Array.replicate (fn.ntmps - args'.size) undef) := envOf_rel hl hlen
  have hmap : (List.range' 1 (ops.size - 1)).map (ops[·]?) = os.map some := by
    apply List.ext_getElem?
    intro j
    have hos : os.length = ops.size - 1 := by
      have : ops.toList.length = os.length + 1 := by rw [hops]; rfl
      rw [Array.length_toList] at this; omega
    by_cases hj : j < os.length
    · have e1 : (List.range' 1 (ops.size - 1))[j]? = some (1 + j) := by
        rw [List.getElem?_range' (by omega)]; simp
      simp only [List.getElem?_map, e1, Option.map_some, List.getElem?_eq_getElem hj]
      rw [← Array.getElem?_toList, hops, Nat.add_comm, List.getElem?_cons_succ, List.getElem?_eq_getElem hj]
    · rw [List.getElem?_eq_none (by simp; omega), List.getElem?_eq_none (by simp; omega)]
  have hxd' : ∀ x ∈ xs, ∀ d, x.dst = some d → d < fn.ntmps := by
    intro x hx d hxd1
    have := List.all_eq_true.1 hxd x hx
    rw [hxd1] at this
    simpa using this
  -- behind recover
  have key : ∀ (v' : Value) (cs' : List Frame) (u' : FrameMode), VRel G rv v' → settle u' = .returning → cs' = { c₀ with mode := u' } :: cs →
      wpOpsSIn (W none) n P ops (Exit.thenS (b'.wpSIn (W none) n P (bodyPostS P fn c₀ cs (fun e u' w' => settle u' = .returning ∧ ∃ v G', e = .returned v ∧ G.le G' ∧ WRel P B w₀ G' σ₂ w' ∧ σ.Ext σ₂))) (bodyPostS P fn c₀ cs (fun e u' w' => settle u' = .returning ∧ ∃ v G', e = .returned v ∧ G.le G' ∧ WRel P B w₀ G' σ₂ w' ∧ σ.Ext σ₂)))
        (List.range' 1 (ops.size - 1)) (Act.put { tmps := args' ++ Array.replicate (fn.ntmps - args'.size) undef, defers := [] } o.dst v') cs' w := by
    intro v' cs' u' hv hset hcs
    rw [hod]
    have he1 : ERel G fn.ntmps ((envOf args).set d rv) (Act.put { tmps := args' ++ Array.replicate (fn.ntmps - args'.size) undef, defers := [] } (some d) v').tmps := he0.set hdn hv
    refine mov_sound os _ xs hmap hxs hmv hxd' G { σ with lo := none } w { env := (envOf args).set d rv, marks := [] } _ _ res1 (hw.lo none) he1 rfl hops1 (fun a1 fr1 hres1 he2 hm2 => ?_)
    subst hres1
    simp only at hrun'
    simp only [Exit.thenS]
    refine wpSIn_of_wpIn rfl (code_sound hC hg hX hdr hL (r := none) rfl b' pb hpb G { σ with lo := none } w fr1 a1 res _ (hw.lo none) he2 hm2 hrun' (fun e a2 w2 hres => ?_))
    obtain ⟨G2, q1, q2, q3, q4, q5, q6⟩ := hres
    obtain ⟨ex, ⟨e2, ms⟩, σ2⟩ := res
    rw [hrun] at h
    have fin : ms = [] → (∃ v, resultsA X σ2 e2 rs = some v ∧ (finish σ.heap.length σ.lo v σ2).2 = σ₂) → (e = .normal ∨ e = .ret) → bodyPostS P fn c₀ cs (fun e u' w' => settle u' = .returning ∧ ∃ v G', e = .returned v ∧ G.le G' ∧ WRel P B w₀ G' σ₂ w' ∧ σ.Ext σ₂) e a2 cs' w2 := by
      intro hms ⟨v, hv1, hv2⟩ hee
      subst hms
      obtain ⟨v2, r1, r2⟩ := results_run hg q2 q3 hrs hv1
      obtain ⟨G3, p1, p2, p3, p4⟩ := finish_sound hw q1 q2 q5 r2
      rw [hv2] at p2 p4
      have hd2 : a2.defers = [] := q4
      rcases hee with rfl | rfl
      · exact ⟨hd2, u', hcs, v2, r1, hset, v2, G3, rfl, p1, p2, p4⟩
      · exact ⟨hd2, u', hcs, v2, r1, hset, v2, G3, rfl, p1, p2, p4⟩
    cases ex with
    | normal =>
      cases ms with
      | cons m ms => cases h
      | nil =>
        obtain ⟨v, hv1, hv2⟩ := Option.map_eq_some_iff.1 h
        cases e <;> simp [ExRel] at q6
        exact fin rfl ⟨v, hv1, hv2⟩ (.inl rfl)
    | ret =>
      cases ms with
      | cons m ms => cases h
      | nil =>
        obtain ⟨v, hv1, hv2⟩ := Option.map_eq_some_iff.1 h
        cases e <;> simp [ExRel] at q6
        exact fin rfl ⟨v, hv1, hv2⟩ (.inr rfl)
    | exit i => cases h
    | panic v => cases h
  rcases hu with ⟨rfl, rfl⟩ | ⟨v', rfl, hv⟩
  · have hrec : recoverD (c₀ :: cs) = none := by simp [recoverD, hcu]
    simp only [hrec]
    refine key .nilIface (c₀ :: cs) .returning (by simp [VRel]) rfl ?_
    rw [← hcu]
  · have hrec : recoverD (c₀ :: cs) = some (v', { c₀ with mode := .panicking [{ v := v', recovered := true }] } :: cs) := by simp [recoverD, hcu]
    simp only [hrec]
    exact key v' _ _ hv rfl rfl
end

end Go.Den

/- Den: functions that defer a call of a function that recovers: primitives. -/
namespace Go.Den
open Go Go.RowKit

variable {P : Program} {X : Ctx} {B : Nat} {w₀ : World} {ds₀ : List Deferred}

/-- Code in which, at one place, a call is deferred. -/
inductive PCD where
  | here (ops : List Ins) (tgt : Opd) (das : List Opd) (rest : PC)
  | later (pre : PC) (d : PCD)
  deriving Inhabited

structure PDef where
  ntmps : Nat
  results : List RV
  body : PCD
  deriving Inhabited

/-- A region of which the last operation defers a call. -/
def deferRegion (P : Program) (rows : Bool) (nt : Nat) : Code → Option (List Ins × Opd × List Opd)
  | .region _ ops false => match ops.toList.getLast? with
    | some o => match o.op, o.guard, o.dst with
      | .defer c, none, none => match c.callee with
        | .value f => match prepOps P rows ops ops.toList.dropLast, opd f, opds c.args.toList with
          | some xs, some f', some as => if xs.all (fun x => match x.dst with | some d => d < nt | none => true) then some (xs, f', as) else none
          | _, _, _ => none
        | _ => none
      | _, _, _ => none
    | none => none
  | _ => none

def prepDC (P : Program) (rows : Bool) (nt : Nat) : Code → Option PCD
  | .seq a b => match deferRegion P rows nt a with
    | some (xs, f, as) => (prepCode P rows nt b).map (.here xs f as)
    | none => match prepCode P rows nt a, prepDC P rows nt b with
      | some pa, some pd => some (.later pa pd)
      | _, _ => none
  | _ => none

def prepD (P : Program) (rows : Bool) (fn : Func) : Option PDef :=
  match fn.body with
  | some c => match prepDC P rows fn.ntmps c, prepRes P fn.results.toList with
    | some b, some rs => if (fn.name != "runtime.NumGoroutine") then some { ntmps := fn.ntmps, results := rs, body := b } else none
    | _, _ => none
  | none => none

def AV.isFn : AV → Bool
  | .fn .. => true
  | _ => false

noncomputable def runDC (X : Ctx) (C : Caller) (L : Loops) (fid : FuncId) : PCD → Fr → AS → Option (Option (AV × List AV) × (Ex × Fr × AS))
  | .here ops tgt das rest, fr, σ => match runOps X C ops fr σ with
    | some (.normal, ⟨e, []⟩, σ') => if (tgt.get e).isFn then (runCode X C L fid false rest ⟨e, []⟩ σ').map fun r => (some (tgt.get e, das.map (·.get e)), r) else none
    | some (.normal, _, _) => none
    | some r => some (none, r)
    | none => none
  | .later pre d, fr, σ => match runCode X C L fid false pre fr σ with
    | some (.normal, fr', σ') => runDC X C L fid d fr' σ'
    | some r => some (none, r)
    | none => none

/-- The functions that recover. -/
abbrev Recs := FuncId → Option PRec

noncomputable def recCall (X : Ctx) (C : Caller) (L : Loops) (R : Recs) (tv : AV) (das : List AV) (rv : AV) (σ : AS) : Option AS :=
  match tv with
  | .fn (.func g) first cap => (R g).bind fun pr => recRun X C L g pr (first ++ das ++ cap) rv σ
  | _ => none

/-- What recover answers behind it. -/
def Ex.thrown : Ex → Option AV
  | .normal => some .nili
  | .ret => some .nili
  | .panic v => some v
  | .exit _ => none

noncomputable def leaveD (X : Ctx) (C : Caller) (L : Loops) (R : Recs) (n : Nat) (lo₀ : Option Nat) (pd : PDef) : Option (Option (AV × List AV) × (Ex × Fr × AS)) → Option CRes
  | some (none, r) => leave X n lo₀ { ntmps := pd.ntmps, results := pd.results, body := .skip } (some r)
  | some (some (tv, das), (ex, fr, σ)) => match ex.thrown, killMarks σ fr.marks with
    | some rv, some σ₁ => (recCall X C L R tv das rv σ₁).bind fun σ₂ => (resultsA X σ₂ fr.env pd.results).map fun v => .ret (finish n lo₀ v σ₂).1 (finish n lo₀ v σ₂).2
    | _, _ => none
  | none => none

/-- A function that defers, as a primitive. -/
noncomputable def primD (X : Ctx) (C : Caller) (L : Loops) (R : Recs) (f : FuncId) (pd : PDef) (args : List AV) (σ : AS) : Option CRes :=
  if args.length ≤ pd.ntmps then leaveD X C L R σ.heap.length σ.lo pd (runDC X C L f pd.body { env := envOf args, marks := [] } { σ with lo := none }) else none

def RecsOk (P : Program) (R : Recs) : Prop := ∀ g pr, R g = some pr → ∃ rows fn, P.funcs[g]? = some fn ∧ prepR P rows fn = some pr

section
variable {C : Caller} (hC : CallOk P B w₀ C) (hg : GlobOk X B w₀) (hX : CodeOk P X) (hdr : DrawOk P X B w₀) {L : Loops} (hL : LoopOk L)
include hC hg hX hdr hL

theorem dc_sound {rows : Bool} {n nt : Nat} {fid : FuncId} : ∀ (c : Code) (pd : PCD), prepDC P rows nt c = some pd →
    ∀ (G : Gh) (σ : AS) (w : World) (fr : Fr) (a : Act) (dr : Option (AV × List AV)) (r : Ex × Fr × AS) (Q : Exit → Act → World → Prop), WRel P B w₀ G σ w → ERel G nt fr.env a.tmps → DRel [] G fr.marks a.defers → runDC X C L fid pd fr σ = some (dr, r) →
    (dr = none → ∀ e a w, ResOk P B w₀ [] G σ nt r e a w → Q e a w) →
    (∀ tv das, dr = some (tv, das) → ∀ tv' das' G1, G.le G1 → VRel G1 tv tv' → LRel G1 das das'.toList → ∀ d, (∀ w : World, (Deferred.ofValue tv' das').run P w = .ok d w) → ∀ e a w, ResOk P B w₀ [d] G1 σ nt r e a w → Q e a w) → c.wpIn (W none) n P Q a w := by
  intro c
  induction c with
  | seq x y ihx ihy =>
    intro pd h G σ w fr a dr r Q hw he hm hr hN hD
    rw [prepDC] at h
    split at h
    · rename_i xs f' as hdf
      obtain ⟨rest, hrest, rfl⟩ := Option.map_eq_some_iff.1 h
      unfold deferRegion at hdf
      split at hdf
      case h_2 => cases hdf
      rename_i id ops
      split at hdf
      case h_2 => cases hdf
      rename_i o hlast
      split at hdf
      case h_2 => cases hdf
      rename_i cc hop hgd hod
      split at hdf
      case h_2 => cases hdf
      rename_i fop hcal
      split at hdf
      case h_2 => cases hdf
      rename_i xs' f'' as' hxs hfo has
      split at hdf
      case isFalse => cases hdf
      rename_i hall
      cases hdf
      have hd : ∀ x ∈ xs, ∀ d, x.dst = some d → d < nt := by
        intro x hx d hxd
        have := List.all_eq_true.1 hall x hx
        rw [hxd] at this
        simpa using this
      have hcons : ops.toList = ops.toList.dropLast ++ [o] := by
        rw [List.getLast?_eq_some_iff] at hlast
        obtain ⟨ys, hys⟩ := hlast
        rw [hys]; simp
      have hsz : ops.size = ops.toList.dropLast.length + 1 := by
        rw [← Array.length_toList]; conv => lhs; rw [hcons]
        simp
      have hrange : List.range ops.size = List.range (ops.size - 1) ++ [ops.size - 1] := by
        conv => lhs; rw [show ops.size = (ops.size - 1) + 1 by omega, List.range_succ]
      have hmap : (List.range (ops.size - 1)).map (ops[·]?) = ops.toList.dropLast.map some := by
        apply List.ext_getElem?
        intro j
        by_cases hj : j < ops.toList.dropLast.length
        · have e1 : (List.range (ops.size - 1))[j]? = some j := by rw [List.getElem?_range (by omega)]
          simp only [List.getElem?_map, e1, Option.map_some, List.getElem?_eq_getElem hj]
          rw [← Array.getElem?_toList]
          conv => lhs; rw [hcons]
          rw [List.getElem?_append_left hj, List.getElem?_eq_getElem hj]
        · rw [List.getElem?_eq_none (by simp; simp at hj; omega), List.getElem?_eq_none (by simpa using hj)]
      have hlastk : ops[ops.size - 1]? = some o := by
        rw [← Array.getElem?_toList]
        conv => lhs; rw [hcons]
        rw [List.getElem?_append_right (by omega)]
        rw [show ops.size - 1 - ops.toList.dropLast.length = 0 by omega]; rfl
      refine wpIn_seq (wpIn_region ?_)
      rw [hrange]
      simp only [runDC] at hr
      cases hrun : runOps X C xs fr σ with
      | none => rw [hrun] at hr; cases hr
      | some res1 =>
      refine ops_sound2 hC hg [ops.size - 1] _ _ xs hmap hxs hd G σ w fr a res1 _ hw he hm hrun (fun a1 w1 hn hres => ?_) (fun e a1 w1 hn hres => ?_)
      · obtain ⟨ex, ⟨e1, ms⟩, σ1⟩ := res1
        simp only at hn
        subst hn
        obtain ⟨G1, q1, q2, q3, q4, q5, q6⟩ := hres
        rw [hrun] at hr
        cases ms with
        | cons m ms => cases hr
        | nil =>
        simp only at hr
        split at hr
        case isFalse => cases hr
        rename_i hisfn
        obtain ⟨r', hr', hrr⟩ := Option.map_eq_some_iff.1 hr
        cases hrr
        have hd1 : a1.defers = [] := q4
        have hdas := opds_rel q3 has
        have hfr := opd_rel q3 hfo
        simp only [wpOpsIn, hlastk]
        have hwa : Region.wanted o (yielded ops a1.tmps) = true := by simp [Region.wanted, hgd]
        rw [if_pos hwa]
        refine ⟨fun _ _ => trivial, ?_⟩
        have hsem : o.semAt (W none).round a1.eval = execOp a1.eval o := Oper.semAt_none _ _
        rw [hsem]
        -- what is deferred
        have hdef : ∀ d, (∀ w : World, (Deferred.ofValue (a1.eval fop) (cc.args.map a1.eval)).run P w = .ok d w) → (execOp a1.eval o).run P w1 = .ok (.defer d) w1 := by
          intro d hdd
          unfold execOp
          simp only [hop, resolve, hcal]
          rw [Sem.run_bind, hdd w1]
          rfl
        have hofv : ∃ d, ∀ w : World, (Deferred.ofValue (a1.eval fop) (cc.args.map a1.eval)).run P w = .ok d w := by
          cases htv : f'.get e1 <;> rw [htv] at hisfn <;> simp only [AV.isFn, Bool.false_eq_true] at hisfn
          rw [htv] at hfr
          simp only [VRel] at hfr
          obtain ⟨f0, fs0, cs0, hfe, _⟩ := hfr
          rw [hfe]
          exact ⟨_, fun w => rfl⟩
        obtain ⟨d, hdd⟩ := hofv
        rw [hdef d hdd]
        simp only [Oper.uponIn, hod, Act.put, hd1]
        refine code_sound hC hg hX hdr hL (r := none) (ds₀ := [d]) rfl y rest hrest G1 σ1 w1 ⟨e1, []⟩ { a1 with defers := [d] } r _ q2 q3 rfl hr' (fun e a2 w2 hres2 => ?_)
        refine hD _ _ rfl _ _ G1 q1 hfr (by simpa using hdas) d hdd e a2 w2 ?_
        obtain ⟨G2, p1, p2, p3, p4, p5, p6⟩ := hres2
        exact ⟨G2, p1, p2, p3, p4, q5.trans p5, p6⟩
      · rw [hrun] at hr
        obtain ⟨ex, ⟨e1, ms⟩, σ1⟩ := res1
        have hq : some (none, (ex, ⟨e1, ms⟩, σ1)) = some (dr, r) := by
          cases ex with
          | normal => exact absurd rfl hn
          | _ => exact hr
        cases hq
        have hq := hN rfl e a1 w1 hres
        obtain ⟨G2, p1, p2, p3, p4, p5, p6⟩ := hres
        cases e <;> first | exact hq | (exfalso; cases ex <;> simp [ExRel] at p6; exact hn rfl)
    · split at h
      · rename_i px pd' hx hy
        cases h
        simp only [runDC] at hr
        cases hrun : runCode X C L fid false px fr σ with
        | none => rw [hrun] at hr; cases hr
        | some res1 =>
        rw [hrun] at hr
        obtain ⟨ex, fr1, σ1⟩ := res1
        by_cases hn : ex = .normal
        · subst hn
          simp only at hr
          refine wpIn_seq (code_sound hC hg hX hdr hL (r := none) rfl x px hx G σ w fr a _ _ hw he hm hrun (fun e a1 w1 hres => ?_))
          obtain ⟨G1, q1, q2, q3, q4, q5, q6⟩ := hres
          cases e <;> simp [ExRel] at q6
          refine ihy pd' hy G1 σ1 w1 fr1 a1 dr r Q q2 q3 q4 hr (fun hdr' e a2 w2 hh => hN hdr' e a2 w2 (hh.trans q1 q5)) (fun tv das hdd tv' das' G2 hG2 hv hl d hd e a2 w2 hres2 => ?_)
          refine hD tv das hdd tv' das' G2 (Gh.le_trans q1 hG2) hv hl d hd e a2 w2 ?_
          obtain ⟨G3, p1, p2, p3, p4, p5, p6⟩ := hres2
          exact ⟨G3, p1, p2, p3, p4, q5.trans p5, p6⟩
        · have hq : some (none, (ex, fr1, σ1)) = some (dr, r) := by
            cases ex with
            | normal => exact absurd rfl hn
            | _ => exact hr
          cases hq
          refine wpIn_seq (code_sound hC hg hX hdr hL (r := none) rfl x px hx G σ w fr a _ _ hw he hm hrun (fun e a1 w1 hres => ?_))
          have hq := hN rfl e a1 w1 hres
          obtain ⟨G2, p1, p2, p3, p4, p5, p6⟩ := hres
          cases e <;> first | exact hq | (exfalso; cases ex <;> simp [ExRel] at p6; exact hn rfl)
      · cases h
  | _ => intro pd h; simp [prepDC] at h

omit hC hX hdr hL in
/-- A frame's end, nothing deferred. -/
theorem leave_sound {fn : Func} {pf : PF} {G : Gh} {σ : AS} {w w' : World} {r : Ex × Fr × AS} {cr : CRes} {e : Exit} {a : Act} (hres : prepRes P fn.results.toList = some pf.results) (hw : WRel P B w₀ G σ w)
    (h : leave X σ.heap.length σ.lo pf (some r) = some cr) (hr : ResOk P B w₀ [] G { heap := σ.heap, lo := none } fn.ntmps r e a w') : bodyPostM (W none) 0 P fn (Ends P B w₀ G σ cr) e a w' := by
  obtain ⟨G', q1, q2, q3, q4, q5, q6⟩ := hr
  obtain ⟨ex, fr, σ'⟩ := r
  have hret : leaveRet X σ.heap.length σ.lo pf fr σ' = some cr → LeavesInM (W none) 0 P fn a.tmps (Ends P B w₀ G σ cr) a.defers .returning w' := by
    intro h
    unfold leaveRet at h
    split at h
    · rename_i σ₁ hk
      split at h
      · rename_i v hv
        cases h
        refine marks_sound (by simp) fr.marks a.defers σ' σ₁ w' q4 q2 hk (fun w'' hw'' => ?_)
        obtain ⟨v', e1, r1⟩ := results_run hg hw'' q3 hres hv
        refine ⟨v', e1, ?_⟩
        obtain ⟨G₂, p1, p2, p3, p4⟩ := finish_sound hw q1 hw'' (q5.trans (marks_ext _ _ _ hk)) r1
        exact ⟨G₂, p1, p2, p3, p4⟩
      · cases h
    · cases h
  cases ex with
  | normal => cases e <;> simp [ExRel] at q6; exact hret h
  | ret => cases e <;> simp [ExRel] at q6; exact hret h
  | exit id => simp [leave] at h
  | panic v =>
    cases e <;> simp [ExRel] at q6
    rename_i chain
    obtain ⟨v', rfl, rv⟩ := q6
    simp only [leave] at h
    split at h
    · rename_i σ₁ hk
      cases h
      refine marks_sound (by simp) fr.marks a.defers σ' σ₁ w' q4 q2 hk (fun w'' hw'' => ?_)
      obtain ⟨G₂, p1, p2, p3, p4⟩ := finish_sound hw q1 hw'' (q5.trans (marks_ext _ _ _ hk)) rv
      exact ⟨G₂, v', rfl, p1, p2, p3, p4⟩
    · cases h

/-- **A function that defers.** -/
theorem primD_ok {R : Recs} (hR : RecsOk P R) {f : FuncId} {fn : Func} {pd : PDef} {rows : Bool} (hfn : P.funcs[f]? = some fn) (hpre : prepD P rows fn = some pd) : PrimOk P B w₀ f (primD X C L R f pd) := by
  intro args σ cr h G w args' hw hl
  unfold prepD at hpre
  split at hpre
  case h_2 => cases hpre
  rename_i c hb
  split at hpre
  case h_2 => cases hpre
  rename_i bd rs hcode hres
  split at hpre
  case isFalse => cases hpre
  rename_i hname
  cases hpre
  unfold primD at h
  split at h
  case isFalse => cases h
  rename_i hlen
  simp only at hlen h
  have hname' : ¬ fn.name = "runtime.NumGoroutine" := by simpa using hname
  have hent : (callFunc f args').run P w = .ok (.enter f args') w := by
    simp [callFunc, run_program, hfn, hname', hb]
  rw [hent]
  show CallsIn (W none) 0 P f args' w _
  have he : ERel G fn.ntmps (envOf args) (args' ++ Array.replicate (fn.ntmps - args'.size) undef) := envOf_rel hl hlen
  cases hrun : runDC X C L f bd { env := envOf args, marks := [] } { σ with lo := none } with
  | none => rw [hrun] at h; cases h
  | some res =>
  obtain ⟨dr, r⟩ := res
  rw [hrun] at h
  refine callsIn_of_wp_marks hfn hb trivial (dc_sound hC hg hX hdr hL c bd hcode G { σ with lo := none } w { env := envOf args, marks := [] } _ dr r _ (hw.lo none) he rfl hrun ?_ ?_) rfl
  · rintro rfl e a w' hr
    exact leave_sound hg (pf := { ntmps := fn.ntmps, results := rs, body := .skip }) hres hw h hr
  · rintro tv das rfl tv' das' G1 hG1 hv hld d hd e a w' ⟨G', q1, q2, q3, q4, q5, q6⟩
    obtain ⟨ex, fr, σ'⟩ := r
    simp only [leaveD] at h
    -- the deferred call, in whatever mode
    have core : ∀ (rv : AV) (σ₁ : AS) (u : FrameMode), killMarks σ' fr.marks = some σ₁ → ModeRel G' u rv → u ≠ .run →
        ((recCall X C L R tv das rv σ₁).bind fun σ₂ => (resultsA X σ₂ fr.env rs).map fun v => CRes.ret (finish σ.heap.length σ.lo v σ₂).1 (finish σ.heap.length σ.lo v σ₂).2) = some cr →
        LeavesInM (W none) 0 P fn a.tmps (Ends P B w₀ G σ cr) a.defers u w' := by
      intro rv σ₁ u hk hmode hu hcr
      refine marks_sound hu fr.marks a.defers σ' σ₁ w' q4 q2 hk (fun w'' hw'' => ?_)
      obtain ⟨σ₂, hrec, hmap⟩ := Option.bind_eq_some_iff.1 hcr
      obtain ⟨v, hv1, rfl⟩ := Option.map_eq_some_iff.1 hmap
      unfold recCall at hrec
      split at hrec
      case h_2 => cases hrec
      rename_i g first cap
      obtain ⟨pr, hpr, hrr⟩ := Option.bind_eq_some_iff.1 hrec
      obtain ⟨rows', fng, hfng, hpreg⟩ := hR g pr hpr
      have hgb : ∃ cg, fng.body = some cg ∧ ¬ fng.name = "runtime.NumGoroutine" := by
        unfold prepR at hpreg
        split at hpreg
        case h_2 => cases hpreg
        rename_i cg hcg
        split at hpreg
        case h_2 => cases hpreg
        split at hpreg
        case isFalse => cases hpreg
        rename_i hn
        exact ⟨cg, hcg, by simpa using hn⟩
      obtain ⟨cg, hcg, hgn⟩ := hgb
      have hv0 := hv
      simp only [VRel, fnRel] at hv0
      obtain ⟨f', first', cap', rfl, rfl, hf, hc⟩ := hv0
      have hdd : d = { target := .fn (.func g) cap', args := first' ++ das' } := by
        have h1 := hd w
        have h2 : (Deferred.ofValue (.func (.func g) first' cap') das').run P w = .ok { target := .fn (.func g) cap', args := first' ++ das' } w := rfl
        rw [h2] at h1
        simpa using h1.symm
      subst hdd
      have hargs : LRel G' (first ++ das ++ cap) (first' ++ das' ++ cap').toList := by
        simp only [Array.toList_append]
        exact ((hf.mono q1).append (hld.mono q1)).append (hc.mono q1)
      refine ⟨hu, .inr ⟨fun h => by simp [W] at h, .func g, cap', g, first' ++ das' ++ cap', rfl, ?_, fun _ _ => trivial, ?_⟩⟩
      · show (callFunc g (first' ++ das' ++ cap')).run P w'' = _
        simp [callFunc, run_program, hfng, hgn, hcg]
      · refine (rec_sound hC hg hX hdr hL hfng hpreg hrr hw'' hargs hmode).mono ?_
        rintro e2 u2 w3 ⟨hset, v3, G3, rfl, g1, g2, g3⟩
        show LeavesInM (W none) 0 P fn a.tmps _ [] (settle u2) w3
        rw [hset]
        obtain ⟨v', e1, r1⟩ := results_run hg g2 (q3.mono g1) hres hv1
        refine ⟨v', e1, ?_⟩
        obtain ⟨G₂, p1, p2, p3, p4⟩ := finish_sound hw (Gh.le_trans hG1 (Gh.le_trans q1 g1)) g2 ((q5.trans (marks_ext _ _ _ hk)).trans g3) r1
        exact ⟨G₂, p1, p2, p3, p4⟩
    cases ex with
    | normal =>
      cases e <;> simp [ExRel] at q6
      cases hk : killMarks σ' fr.marks with
      | none => rw [hk] at h; cases h
      | some σ₁ => rw [hk] at h; exact core .nili σ₁ .returning hk (.inl ⟨rfl, rfl⟩) (by simp) h
    | ret =>
      cases e <;> simp [ExRel] at q6
      cases hk : killMarks σ' fr.marks with
      | none => rw [hk] at h; cases h
      | some σ₁ => rw [hk] at h; exact core .nili σ₁ .returning hk (.inl ⟨rfl, rfl⟩) (by simp) h
    | exit id =>
      cases hk : killMarks σ' fr.marks <;> rw [hk] at h <;> cases h
    | panic v =>
      cases e <;> simp [ExRel] at q6
      obtain ⟨v', rfl, rv⟩ := q6
      cases hk : killMarks σ' fr.marks with
      | none => rw [hk] at h; cases h
      | some σ₁ => rw [hk] at h; exact core v σ₁ (.panicking [{ v := v', recovered := false }]) hk (.inr ⟨v', rfl, rv⟩) (by simp) h
end

/-- With the limit. -/
theorem loopOk_Lw : LoopOk Lw := fun _ _ _ _ h => Lw_fuel h

theorem primD_D (hg : GlobOk X B w₀) (hX : CodeOk P X) (hP : ∀ f p, X.prim f = some p → PrimOk P B w₀ f p) {R : Recs} (hR : RecsOk P R) {f : FuncId} {fn : Func} {pd : PDef} {rows : Bool} (hfn : P.funcs[f]? = some fn) (hpre : prepD P rows fn = some pd) :
    PrimOk P B w₀ f (primD X (D X) Lw R f pd) := primD_ok (D_sound hg hX hP) hg hX (drawOk hg) loopOk_Lw hR hfn hpre

end Go.Den

/- Den: what a law's arguments and listed variables hold. -/
namespace Go.Den
open Go Go.RowKit

def spotOk : Value → Prop
  | .slice (some a) _ _ => a.spot = none
  | _ => True

section
variable {H : Type} {enc : TypeId × Value → H} {P : Program} {w : World} {sp : Nat → Bool} {held : Bool}

/-- Fields one behind the other. -/
def FsOk (R : TypeId → DataW H → List AV → Prop) : List Field → List (DataW H) → List AV → Prop
  | [], ds, xs => ds = [] ∧ xs = []
  | x :: r, ds, xs => ∃ d ds' a b, ds = d :: ds' ∧ xs = a ++ b ∧ R x.type d a ∧ FsOk R r ds' b

/-- A datum of a type, as Den has it. -/
def AtOk (P : Program) : Nat → TypeId → DataW H → List AV → Prop
  | 0, _, _, _ => False
  | f + 1, t, d, xs => match P.underlying t with
    | some .bool => ∃ b, d = .lit (.bool b) ∧ xs = [.bool b]
    | some (.int k) => ∃ n, d = .lit (.int k n) ∧ xs = [.int k n] ∧ (Lit.int k n).wf = true
    | some .string => ∃ s : ByteArray, d = .lit (.string s.data.toList) ∧ xs = [.str s] ∧ s.size ≤ maxLen
    | some (.slice e) => (d = .nil ∧ xs = [.nils]) ∨ ∃ (es rest : List (DataW H)) (els : List (List AV)), d = .slice es rest ∧ xs = [.sl els false] ∧ es.length = els.length ∧ els.length ≤ maxLen ∧
        ∀ (i : Nat) (a : DataW H) (b : List AV), es[i]? = some a → els[i]? = some b → b.length = P.cellsOf e ∧ AtOk P f e a b
    | some (.struct fs) => ∃ ds, d = .agg ds ∧ FsOk (AtOk P f) fs.toList ds xs
    | some (.array n e) => ∃ (ds : List (DataW H)) (els : List (List AV)), d = .agg ds ∧ xs = els.flatten ∧ ds.length = n ∧ els.length = n ∧ ∀ (i : Nat) (a : DataW H) (b : List AV), ds[i]? = some a → els[i]? = some b → AtOk P f e a b
    | _ => False

/-- Fields lie one behind the other. -/
def fsIn (P : Program) (g : TypeId → Bool) : List Field → Nat → Nat → Bool
  | [], off, n => off == n
  | x :: r, off, n => x.offset == off && g x.type && fsIn P g r (off + P.cellsOf x.type) n

/-- A type that is read here. -/
def rdb (P : Program) (nest : Bool) : Nat → TypeId → Bool
  | 0, _ => false
  | f + 1, t => match P.underlying t with
    | some .bool => true
    | some (.int _) => true
    | some .string => true
    | some (.slice e) => nest && rdb P nest f e
    | some (.struct fs) => fsIn P (rdb P nest f) fs.toList 0 (P.cellsOf t)
    | some (.array n e) => rdb P nest f e && P.cellsOf t == n * P.cellsOf e
    | _ => false

def frz0 (w : World) (b o : Nat) : Option Value := if b < w.heap.size then w.cell? ⟨b, o, none⟩ else none

theorem frz0_of {b o : Nat} {v : Value} (h : w.cell? ⟨b, o, none⟩ = some v) : frz0 w b o = some v := by
  unfold frz0
  rw [if_pos, h]
  unfold World.cell? at h
  cases hh : w.heap[b]? with
  | none => rw [hh] at h; cases h
  | some o => exact (Array.getElem?_eq_some_iff.1 hh).1

theorem add_spot {a : Addr} (h : a.spot = none) (n : Nat) : a.add n = ⟨a.block, a.off + n, none⟩ := by
  unfold Addr.add
  split
  · rename_i e; subst e; obtain ⟨b, o, s⟩ := a; simp at h; subst h; rfl
  · rfl

theorem cells_get {a : Addr} (hs : a.spot = none) {k c : Nat} {cs : List Value} (h : w.cells? 0 (a.add k) c = some cs) : cs.length = c ∧ ∀ (j : Nat) (v : Value), cs[j]? = some v → w.cell? ⟨a.block, a.off + k + j, none⟩ = some v := by
  unfold World.cells? at h
  rw [if_pos (Nat.zero_le _)] at h
  have hl := mapM_some_length h
  rw [List.length_range] at hl
  refine ⟨hl, fun j v hv => ?_⟩
  have hj : j < c := by rw [← hl]; exact (List.getElem?_eq_some_iff.1 hv).1
  have := mapM_some_get h j j (by simp [hj])
  rw [hv] at this
  rw [add_spot hs, add_spot rfl] at this
  exact this

/-- A slice's elements, by the value itself. -/
def Rv0 (x : AV) (sz : Nat) (els : List (List AV)) : Prop := (x = .nils ∧ els = []) ∨ (x = .sl els false ∧ ∀ el ∈ els, el.length = sz)

/-- Rows of cells, one behind the other. -/
theorem rows_at {e : TypeId} {n : Nat} {R : DataW H → List AV → Prop} {a : Addr} (hs : a.spot = none)
    (hR : ∀ (cs : List Value) d ps, (∀ (j : Nat) (v : Value), cs[j]? = some v → ∃ o, w.cell? ⟨a.block, o, none⟩ = some v) → DataW.trod enc P w 0 sp held n e cs = some (d, ps) → ∃ xs, R d xs ∧ LRel (Gh.start w) xs cs ∧ Leaves cs ∧ xs.length = cs.length)
    {es : List (DataW H × List MemPlace)} (len : Nat) (hl : len ≤ es.length)
    (h : ∀ i, i < len → (w.cells? 0 (a.add (i * P.cellsOf e)) (P.cellsOf e)).bind (DataW.trod enc P w 0 sp held n e) = es[i]?) :
    ∃ (els : List (List AV)) (vs : List Value), els.length = len ∧ (∀ (i : Nat) (x : DataW H × List MemPlace) (b : List AV), es[i]? = some x → els[i]? = some b → b.length = P.cellsOf e ∧ R x.1 b) ∧ LRel (Gh.start w) els.flatten vs ∧ Leaves vs ∧ vs.length = len * P.cellsOf e ∧ Frz (Gh.start w) a.block a.off vs := by
  induction len with
  | zero => exact ⟨[], [], rfl, fun i x b _ hb => by simp at hb, rfl, fun v hv => by simp at hv, by simp, fun j v hv => by simp at hv⟩
  | succ m ih =>
    obtain ⟨els, vs, h1, h2, h3, h4, h5, h6⟩ := ih (by omega) (fun i hi => h i (by omega))
    have hm := h m (Nat.lt_succ_self m)
    have hme : es[m]? = some es[m] := List.getElem?_eq_getElem (by omega)
    rw [hme, Option.bind_eq_some_iff] at hm
    obtain ⟨cs, hc, ht⟩ := hm
    obtain ⟨c1, c2⟩ := cells_get hs hc
    obtain ⟨xs, x1, x2, x3, x4⟩ := hR cs es[m].1 es[m].2 (fun j v hv => ⟨_, c2 j v hv⟩) ht
    refine ⟨els ++ [xs], vs ++ cs, by simp [h1], fun i x b hx hb => ?_, by rw [List.flatten_append]; simpa using h3.append x2, h4.append x3, by simp [h5, c1, Nat.succ_mul], fun j v hv => ?_⟩
    · by_cases hi : i < els.length
      · rw [List.getElem?_append_left hi] at hb
        exact h2 i x b hx hb
      · have hlt := (List.getElem?_eq_some_iff.1 hb).1
        rw [List.length_append, List.length_singleton] at hlt
        have : i = m := by omega
        subst this
        rw [List.getElem?_append_right (by omega), h1, Nat.sub_self] at hb
        simp only [List.getElem?_cons_zero, Option.some.injEq] at hb
        rw [hme] at hx
        cases hx; cases hb
        exact ⟨by omega, x1⟩
    · by_cases hj : j < vs.length
      · rw [List.getElem?_append_left hj] at hv
        exact h6 j v hv
      · rw [List.getElem?_append_right (by omega)] at hv
        have := c2 _ _ hv
        have e1 : a.off + m * P.cellsOf e + (j - vs.length) = a.off + j := by omega
        rw [e1] at this
        exact frz0_of this

theorem fields_at {n : Nat} {R : TypeId → DataW H → List AV → Prop} {g : TypeId → Bool} {cs : List Value}
    (hR : ∀ t c d ps, g t = true → (∀ v ∈ c, v ∈ cs) → DataW.trod enc P w 0 sp held n t c = some (d, ps) → ∃ xs, R t d xs ∧ LRel (Gh.start w) xs c ∧ Leaves c ∧ xs.length = c.length)
    (N : Nat) (hN : cs.length = N) :
    ∀ (fs : List Field) (ys : List (DataW H × List MemPlace)) (off : Nat), fsIn P g fs off N = true → ys.length = fs.length → (∀ (i : Nat) (f : Field), fs[i]? = some f → DataW.trod enc P w 0 sp held n f.type ((cs.drop f.offset).take (P.cellsOf f.type)) = ys[i]?) →
      ∃ xs, FsOk R fs (ys.map (·.1)) xs ∧ LRel (Gh.start w) xs (cs.drop off) ∧ Leaves (cs.drop off) ∧ xs.length = (cs.drop off).length
  | [], ys, off, hf, hy, _ => by
    simp only [fsIn, beq_iff_eq] at hf
    have : cs.drop off = [] := List.drop_eq_nil_of_le (by omega)
    rw [this]
    cases ys with
    | nil => exact ⟨[], ⟨rfl, rfl⟩, rfl, fun v hv => by simp at hv, rfl⟩
    | cons _ _ => simp at hy
  | x :: r, ys, off, hf, hy, h => by
    simp only [fsIn, Bool.and_eq_true, beq_iff_eq] at hf
    obtain ⟨⟨rfl, hg⟩, hr⟩ := hf
    cases ys with
    | nil => simp at hy
    | cons y ys =>
      have h0 := h 0 x rfl
      simp only [List.getElem?_cons_zero] at h0
      obtain ⟨a, a1, a2, a3, a4⟩ := hR x.type _ y.1 y.2 hg (fun v hv => List.mem_of_mem_drop (List.mem_of_mem_take hv)) h0
      obtain ⟨b, b1, b2, b3, b4⟩ := fields_at hR N hN r ys (x.offset + P.cellsOf x.type) hr (by simpa using hy) (fun i f hi => by have := h (i + 1) f hi; simpa using this)
      have e : cs.drop x.offset = (cs.drop x.offset).take (P.cellsOf x.type) ++ cs.drop (x.offset + P.cellsOf x.type) := by
        rw [← List.drop_drop]; exact (List.take_append_drop _ _).symm
      refine ⟨a ++ b, ⟨y.1, ys.map (·.1), a, b, rfl, rfl, a1, b1⟩, ?_, ?_, ?_⟩
      · rw [e]; exact a2.append b2
      · rw [e]; exact a3.append b3
      · rw [e, List.length_append, List.length_append, a4, b4]

theorem parts_at {e : TypeId} {n : Nat} {R : DataW H → List AV → Prop} {cs : List Value}
    (hR : ∀ (c : List Value) d ps, (∀ v ∈ c, v ∈ cs) → DataW.trod enc P w 0 sp held n e c = some (d, ps) → ∃ xs, R d xs ∧ LRel (Gh.start w) xs c ∧ Leaves c ∧ xs.length = c.length)
    {ys : List (DataW H × List MemPlace)} (k : Nat) (hk : k * P.cellsOf e ≤ cs.length) (hy : k ≤ ys.length) (h : ∀ i, i < k → DataW.trod enc P w 0 sp held n e ((cs.drop (i * P.cellsOf e)).take (P.cellsOf e)) = ys[i]?) :
    ∃ els : List (List AV), els.length = k ∧ (∀ (i : Nat) (x : DataW H × List MemPlace) (b : List AV), ys[i]? = some x → els[i]? = some b → R x.1 b) ∧ LRel (Gh.start w) els.flatten (cs.take (k * P.cellsOf e)) ∧ Leaves (cs.take (k * P.cellsOf e)) ∧ els.flatten.length = k * P.cellsOf e := by
  induction k with
  | zero => exact ⟨[], rfl, fun i x b _ hb => by simp at hb, by simp [LRel], fun v hv => by simp at hv, by simp⟩
  | succ m ih =>
    rw [Nat.succ_mul] at hk
    obtain ⟨els, h1, h2, h3, h4, h5⟩ := ih (by omega) (by omega) (fun i hi => h i (by omega))
    have hm := h m (Nat.lt_succ_self m)
    have hme : ys[m]? = some ys[m] := List.getElem?_eq_getElem (by omega)
    rw [hme] at hm
    obtain ⟨xs, x1, x2, x3, x4⟩ := hR _ ys[m].1 ys[m].2 (fun v hv => List.mem_of_mem_drop (List.mem_of_mem_take hv)) hm
    have hx : xs.length = P.cellsOf e := by rw [x4, List.length_take, List.length_drop]; omega
    have et : cs.take ((m + 1) * P.cellsOf e) = cs.take (m * P.cellsOf e) ++ (cs.drop (m * P.cellsOf e)).take (P.cellsOf e) := by rw [Nat.succ_mul, List.take_add]
    refine ⟨els ++ [xs], by simp [h1], fun i x b hx hb => ?_, by rw [et, List.flatten_append]; simpa using h3.append x2, by rw [et]; exact h4.append x3, by rw [List.flatten_append, List.length_append, h5, Nat.succ_mul]; simp [hx]⟩
    by_cases hi : i < els.length
    · rw [List.getElem?_append_left hi] at hb
      exact h2 i x b hx hb
    · have hlt := (List.getElem?_eq_some_iff.1 hb).1
      rw [List.length_append, List.length_singleton] at hlt
      have : i = m := by omega
      subst this
      rw [List.getElem?_append_right (by omega), h1, Nat.sub_self] at hb
      simp only [List.getElem?_cons_zero, Option.some.injEq] at hb
      rw [hme] at hx
      cases hx; cases hb
      exact x1

theorem trod_at {nest : Bool} (hw : nest = true → ∀ b o v, w.cell? ⟨b, o, none⟩ = some v → spotOk v) : ∀ (f : Nat) (t : TypeId) (n : Nat) (cs : List Value) (d : DataW H) (ps : List MemPlace), rdb P nest f t = true → (nest = true → ∀ v ∈ cs, spotOk v) →
    DataW.trod enc P w 0 sp held n t cs = some (d, ps) → ∃ xs, AtOk P f t d xs ∧ LRel (Gh.start w) xs cs ∧ Leaves cs ∧ xs.length = cs.length
  | 0, _, _, _, _, _, hr, _, _ => by simp [rdb] at hr
  | f + 1, t, n, cs, d, ps, hr, hsp, h => by
    unfold rdb at hr
    unfold AtOk
    cases ht : P.underlying t with
    | none => rw [ht] at hr; cases hr
    | some td =>
      rw [ht] at hr
      cases td with
      | bool =>
        obtain ⟨b, rfl, hx⟩ := DataW.trod_bool ht h
        cases hx
        exact ⟨[.bool b], ⟨b, rfl, rfl⟩, LRel.single.2 rfl, fun v hv => by simp at hv; subst hv; rfl, rfl⟩
      | int k =>
        obtain ⟨b, rfl, hx, hwf⟩ := DataW.trod_int ht h
        cases hx
        exact ⟨[.int k b], ⟨b, rfl, rfl, hwf⟩, LRel.single.2 rfl, fun v hv => by simp at hv; subst hv; rfl, rfl⟩
      | string =>
        obtain ⟨s, rfl, hx, hs⟩ := DataW.trod_string ht h
        cases hx
        exact ⟨[.str s], ⟨s, rfl, rfl, hs⟩, LRel.single.2 rfl, fun v hv => by simp at hv; subst hv; rfl, rfl⟩
      | slice e =>
        simp only [Bool.and_eq_true] at hr
        obtain ⟨hn, hr⟩ := hr
        rcases DataW.trod_slice ht h with ⟨rfl, hx⟩ | ⟨a, len, cap, es, rest, m, rfl, rfl, hx, _, hlc, hcm, hel, hes, _, _⟩
        · cases hx
          exact ⟨[.nils], .inl ⟨rfl, rfl⟩, LRel.single.2 rfl, fun v hv => by simp at hv; subst hv; rfl, rfl⟩
        · cases hx
          have hs : a.spot = none := hsp hn _ (List.mem_singleton_self _)
          obtain ⟨els, vs, h1, h2, h3, h4, h5, h6⟩ := rows_at (R := AtOk P f e) hs (fun c d' ps' hc ht' => trod_at hw f e m c d' ps' hr (fun _ v hv => by
            obtain ⟨j, hj⟩ := List.mem_iff_getElem?.1 hv
            obtain ⟨o, ho⟩ := hc j v hj
            exact hw hn _ _ _ ho) ht') len (by omega) hes
          refine ⟨[.sl els false], .inr ⟨es.map (·.1), rest.map (·.1), els, rfl, rfl, by simp [hel, h1], by omega, fun i x b hx hb => ?_⟩, LRel.single.2 ?_, fun v hv => by simp at hv; subst hv; rfl, rfl⟩
          · rw [List.getElem?_map, Option.map_eq_some_iff] at hx
            obtain ⟨y, hy, rfl⟩ := hx
            exact h2 i y b hy hb
          · refine ⟨a.block, a.off, cap, P.cellsOf e, vs, ?_, by omega, (fun hc => absurd hc (by decide)), fun el hel' => ?_, h6, h4, LLRel.iff.2 h3⟩
            · rw [h1]
              obtain ⟨b, o, s⟩ := a
              simp at hs; subst hs
              rfl
            · obtain ⟨j, hj⟩ := List.mem_iff_getElem?.1 hel'
              have hjl := (List.getElem?_eq_some_iff.1 hj).1
              exact (h2 j es[j] el (List.getElem?_eq_getElem (by omega)) hj).1
      | struct fs =>
        obtain ⟨ys, m, rfl, hx, hl, hyl, hys⟩ := DataW.trod_struct ht h
        cases hx
        obtain ⟨xs, x1, x2, x3, x4⟩ := fields_at (R := AtOk P f) (cs := cs) (fun t' c d' ps' hg hc ht' => trod_at hw f t' m c d' ps' hg (fun hn v hv => hsp hn v (hc v hv)) ht') _ hl fs.toList ys 0 hr (by simpa using hyl) (fun i fl hi => hys i fl (by simpa using hi))
        exact ⟨xs, ⟨_, rfl, x1⟩, by simpa using x2, by simpa using x3, by simpa using x4⟩
      | array k e =>
        simp only [Bool.and_eq_true, beq_iff_eq] at hr
        obtain ⟨hre, hc⟩ := hr
        obtain ⟨ys, m, rfl, hx, hl, hyl, hys⟩ := DataW.trod_array ht h
        cases hx
        obtain ⟨els, h1, h2, h3, h4, h5⟩ := parts_at (R := AtOk P f e) (cs := cs) (fun c d' ps' hc' ht' => trod_at hw f e m c d' ps' hre (fun hn v hv => hsp hn v (hc' v hv)) ht') k (by rw [hl, hc]; exact Nat.le_refl _) (by omega) hys
        have hw' : k * P.cellsOf e = cs.length := by rw [hl, hc]
        rw [hw', List.take_length] at h3 h4
        exact ⟨els.flatten, ⟨_, els, rfl, rfl, by simpa using hyl, h1, fun i a b ha hb => by
          rw [List.getElem?_map, Option.map_eq_some_iff] at ha
          obtain ⟨y, hy, rfl⟩ := ha
          exact h2 i y b hy hb⟩, h3, h4, by rw [h5, hw']⟩
      | _ => cases hr

/-- A slice that is an argument; its elements are plain. -/
theorem open_sl {t e : TypeId} {sz f : Nat} {v : Value} {d : DataW H} {ps : List MemPlace} {b : Nat} (ht : P.underlying t = some (.slice e)) (hsz : P.cellsOf e = sz) (hr : rdb P false f e = true) (hok : Value.okWide P w .any b t v)
    (h : DataW.Trod enc P w 0 sp held t v d ps) : ∃ x els, VRel (Gh.start w) x v ∧ Rv0 x sz els ∧ els.length ≤ maxLen ∧ ∀ el ∈ els, ∃ d' : DataW H, AtOk P f e d' el := by
  have hv : spotOk v ∧ v.cells.toList = [v] := by
    unfold Value.okWide at hok
    rw [ht] at hok
    unfold Cell.okWide at hok
    cases v <;> simp [ht, Cell.ok] at hok
    rename_i a len cap
    refine ⟨?_, rfl⟩
    cases a with
    | none => trivial
    | some a =>
      simp only at hok
      exact hok.2.2.2.1
  obtain ⟨n, h⟩ := h
  rw [hv.2] at h
  rcases DataW.trod_slice ht h with ⟨e1, _⟩ | ⟨a, len, cap, es, rest, m, rfl, e1, hx, _, hlc, hcm, hel, hes, _, _⟩
  · simp only [List.cons.injEq, and_true] at e1
    exact ⟨.nils, [], e1, .inl ⟨rfl, rfl⟩, Nat.zero_le _, fun el hel => by cases hel⟩
  · simp only [List.cons.injEq, and_true] at e1
    subst e1
    have hs : a.spot = none := hv.1
    obtain ⟨els, vs, h1, h2, h3, h4, h5, h6⟩ := rows_at (R := AtOk P f e) hs (fun c d' ps' hc ht' => trod_at (nest := false) (fun e => by cases e) f e m c d' ps' hr (fun e => by cases e) ht') len (by omega) hes
    have hu : ∀ el ∈ els, el.length = sz ∧ ∃ d' : DataW H, AtOk P f e d' el := fun el hel' => by
      obtain ⟨j, hj⟩ := List.mem_iff_getElem?.1 hel'
      have hjl := (List.getElem?_eq_some_iff.1 hj).1
      have := h2 j es[j] el (List.getElem?_eq_getElem (by omega)) hj
      exact ⟨this.1.trans hsz, _, this.2⟩
    refine ⟨.sl els false, els, ⟨a.block, a.off, cap, sz, vs, ?_, by omega, (fun hc => absurd hc (by decide)), fun el hel' => (hu el hel').1, h6, h4, LLRel.iff.2 h3⟩, .inr ⟨rfl, fun el hel' => (hu el hel').1⟩, by omega, fun el hel' => (hu el hel').2⟩
    rw [h1]
    obtain ⟨b, o, s⟩ := a
    simp at hs; subst hs
    rfl

/-- What was read before the call reads so behind it. -/
theorem below_all {W W' : World} (hl : laidOutB P = true) (hb : Below W.heap.size W W') : ∀ {ts : List TypeId} {vs : List Value} {ds : List (DataW H)} {ps : List MemPlace}, (ts.all fun t => P.readableRec t && decide (t < P.types.size)) = true →
    DataW.TrodAll enc P W 0 (fun _ => true) true ts vs ds ps → (∀ x ∈ ps, x.block < W.heap.size) → DataW.TrodAll enc P W' 0 (fun b => decide (b < W.heap.size)) true ts vs ds ps
  | [], [], [], _, _, h, _ => h
  | t :: ts, v :: vs, d :: ds, ps, ht, h, hp => by
    simp only [List.all_cons, Bool.and_eq_true, decide_eq_true_eq] at ht
    obtain ⟨p, q, h1, h2, rfl⟩ := h
    exact ⟨p, q, Below.trod hl ht.1.1 ht.1.2 h1 hb (fun x hx => hp x (List.mem_append_left _ hx)), below_all hl hb (by simpa using ht.2) h2 (fun x hx => hp x (List.mem_append_right _ hx)), rfl⟩
  | [], [], _ :: _, _, _, h, _ => h.elim
  | [], _ :: _, _, _, _, h, _ => h.elim
  | _ :: _, [], _, _, _, h, _ => h.elim
  | _ :: _, _ :: _, [], _, _, h, _ => h.elim

end

/-- **A law's call**, by what Den gives. -/
theorem D_calls {P : Program} {X : Ctx} {w : World} (hg : GlobOk X w.heap.size w) (hX : CodeOk P X) (hP : ∀ f p, X.prim f = some p → PrimOk P w.heap.size w f p) {f : FuncId} {fn : Func} (hfn : P.funcs[f]? = some fn) (hb : fn.body.isSome = true)
    (hname : (fn.name == "runtime.NumGoroutine") = false) {args : List AV} {args' : Array Value} (hl : LRel (Gh.start w) args args'.toList) {v : AV} {σ' : AS} (h : D X (.fn (.func f) [] []) args ⟨[], none⟩ = some (.ret v σ')) :
    Calls P f args' w fun e w' => ∃ G v', e = .returned v' ∧ VRel G v v' ∧ Below w.heap.size w w' := by
  have hk := D_sound hg hX hP _ _ _ _ h (Gh.start w) w (.func (.func f) #[] #[]) args' (.start w) ⟨_, _, _, rfl, rfl, rfl, rfl⟩ hl
  have hrun : (callS (.func (.func f) #[] #[]) args').run P w = .ok (.enter f args') w := by
    have hn' : ¬ fn.name = "runtime.NumGoroutine" := by simpa using hname
    obtain ⟨c, hc⟩ := Option.isSome_iff_exists.1 hb
    simp [callS, Deferred.ofValue, invoke, callFunc, run_program, hfn, hn', hc]
  rw [hrun] at hk
  have hk' : CallsIn Fence.wide 0 P f args' w (Ends P w.heap.size w (Gh.start w) { heap := [], lo := none } (.ret v σ')) := hk
  refine callsIn_wide.1 (hk'.mono fun e w' he => ?_)
  cases e with
  | returned v' =>
    obtain ⟨G', h1, h2, h3, _⟩ := he
    exact ⟨G', v', rfl, h3, h2.bel⟩
  | panicked _ => exact he.elim
  | outgrown => exact he.elim

end Go.Den

/- Arguments that are structs, with slices of plain things within. -/
namespace Go.Den
open Go Go.RowKit

section
variable {H : Type} {enc : TypeId × Value → H} {P : Program} {w : World} {sp : Nat → Bool} {held : Bool}

/-- A type that is read here; slices' elements are plain. -/
def rdb1 (P : Program) : Nat → TypeId → Bool
  | 0, _ => false
  | f + 1, t => match P.underlying t with
    | some .bool => true
    | some (.int _) => true
    | some .string => true
    | some (.slice e) => rdb P false f e
    | some (.struct fs) => fsIn P (rdb1 P f) fs.toList 0 (P.cellsOf t)
    | some (.array n e) => rdb1 P f e && P.cellsOf t == n * P.cellsOf e
    | _ => false

theorem trod_one : ∀ (f : Nat) (t : TypeId) (n : Nat) (cs : List Value) (d : DataW H) (ps : List MemPlace), rdb1 P f t = true → (∀ v ∈ cs, spotOk v) →
    DataW.trod enc P w 0 sp held n t cs = some (d, ps) → ∃ xs, AtOk P f t d xs ∧ LRel (Gh.start w) xs cs ∧ Leaves cs ∧ xs.length = cs.length
  | 0, _, _, _, _, _, hr, _, _ => by simp [rdb1] at hr
  | f + 1, t, n, cs, d, ps, hr, hsp, h => by
    unfold rdb1 at hr
    unfold AtOk
    cases ht : P.underlying t with
    | none => rw [ht] at hr; cases hr
    | some td =>
      rw [ht] at hr
      cases td with
      | bool =>
        obtain ⟨b, rfl, hx⟩ := DataW.trod_bool ht h
        cases hx
        exact ⟨[.bool b], ⟨b, rfl, rfl⟩, LRel.single.2 rfl, fun v hv => by simp at hv; subst hv; rfl, rfl⟩
      | int k =>
        obtain ⟨b, rfl, hx, hwf⟩ := DataW.trod_int ht h
        cases hx
        exact ⟨[.int k b], ⟨b, rfl, rfl, hwf⟩, LRel.single.2 rfl, fun v hv => by simp at hv; subst hv; rfl, rfl⟩
      | string =>
        obtain ⟨s, rfl, hx, hs⟩ := DataW.trod_string ht h
        cases hx
        exact ⟨[.str s], ⟨s, rfl, rfl, hs⟩, LRel.single.2 rfl, fun v hv => by simp at hv; subst hv; rfl, rfl⟩
      | slice e =>
        rcases DataW.trod_slice ht h with ⟨rfl, hx⟩ | ⟨a, len, cap, es, rest, m, rfl, rfl, hx, _, hlc, hcm, hel, hes, _, _⟩
        · cases hx
          exact ⟨[.nils], .inl ⟨rfl, rfl⟩, LRel.single.2 rfl, fun v hv => by simp at hv; subst hv; rfl, rfl⟩
        · cases hx
          have hs : a.spot = none := hsp _ (List.mem_singleton_self _)
          obtain ⟨els, vs, h1, h2, h3, h4, h5, h6⟩ := rows_at (R := AtOk P f e) hs (fun c d' ps' hc ht' => trod_at (nest := false) (fun e => by cases e) f e m c d' ps' hr (fun e => by cases e) ht') len (by omega) hes
          refine ⟨[.sl els false], .inr ⟨es.map (·.1), rest.map (·.1), els, rfl, rfl, by simp [hel, h1], by omega, fun i x b hx hb => ?_⟩, LRel.single.2 ?_, fun v hv => by simp at hv; subst hv; rfl, rfl⟩
          · rw [List.getElem?_map, Option.map_eq_some_iff] at hx
            obtain ⟨y, hy, rfl⟩ := hx
            exact h2 i y b hy hb
          · refine ⟨a.block, a.off, cap, P.cellsOf e, vs, ?_, by omega, (fun hc => absurd hc (by decide)), fun el hel' => ?_, h6, h4, LLRel.iff.2 h3⟩
            · rw [h1]
              obtain ⟨b, o, s⟩ := a
              simp at hs; subst hs
              rfl
            · obtain ⟨j, hj⟩ := List.mem_iff_getElem?.1 hel'
              have hjl := (List.getElem?_eq_some_iff.1 hj).1
              exact (h2 j es[j] el (List.getElem?_eq_getElem (by omega)) hj).1
      | struct fs =>
        obtain ⟨ys, m, rfl, hx, hl, hyl, hys⟩ := DataW.trod_struct ht h
        cases hx
        obtain ⟨xs, x1, x2, x3, x4⟩ := fields_at (R := AtOk P f) (cs := cs) (fun t' c d' ps' hg hc ht' => trod_one f t' m c d' ps' hg (fun v hv => hsp v (hc v hv)) ht') _ hl fs.toList ys 0 hr (by simpa using hyl) (fun i fl hi => hys i fl (by simpa using hi))
        exact ⟨xs, ⟨_, rfl, x1⟩, by simpa using x2, by simpa using x3, by simpa using x4⟩
      | array k e =>
        simp only [Bool.and_eq_true, beq_iff_eq] at hr
        obtain ⟨hre, hc⟩ := hr
        obtain ⟨ys, m, rfl, hx, hl, hyl, hys⟩ := DataW.trod_array ht h
        cases hx
        obtain ⟨els, h1, h2, h3, h4, h5⟩ := parts_at (R := AtOk P f e) (cs := cs) (fun c d' ps' hc' ht' => trod_one f e m c d' ps' hre (fun v hv => hsp v (hc' v hv)) ht') k (by rw [hl, hc]; exact Nat.le_refl _) (by omega) hys
        have hw' : k * P.cellsOf e = cs.length := by rw [hl, hc]
        rw [hw', List.take_length] at h3 h4
        exact ⟨els.flatten, ⟨_, els, rfl, rfl, by simpa using hyl, h1, fun i a b ha hb => by
          rw [List.getElem?_map, Option.map_eq_some_iff] at ha
          obtain ⟨y, hy, rfl⟩ := ha
          exact h2 i y b hy hb⟩, h3, h4, by rw [h5, hw']⟩
      | _ => cases hr

theorem cell_spot {b : Nat} {u : TypeId} {v : Value} (h : Cell.okWide P w .any b u v) : spotOk v := by
  cases v with
  | slice a len cap =>
    cases a with
    | none => trivial
    | some a =>
      unfold Cell.okWide at h
      cases hu : P.underlying u with
      | none => simp [hu, Cell.ok] at h
      | some td => cases td <;> simp [hu, Cell.ok] at h <;> exact h.2.2.2.1
  | _ => trivial

/-- An argument that is a struct. -/
theorem open_agg {t : TypeId} {f : Nat} {v : Value} {d : DataW H} {ps : List MemPlace} {b : Nat} {fs : Array Field} (ht : P.underlying t = some (.struct fs)) (hr : rdb1 P f t = true) (hok : Value.okWide P w .any b t v)
    (h : DataW.Trod enc P w 0 sp held t v d ps) : ∃ xs, VRel (Gh.start w) (.agg xs) v ∧ AtOk P f t d xs ∧ xs.length = P.cellsOf t := by
  unfold Value.okWide at hok
  rw [ht] at hok
  obtain ⟨cs, rfl, hsz, ts, _, _, hall⟩ := hok
  obtain ⟨n, h⟩ := h
  obtain ⟨xs, h1, h2, h3, h4⟩ := trod_one f t n cs.toList d ps hr (fun v hv => by
    obtain ⟨i, hi⟩ := List.mem_iff_getElem?.1 hv
    obtain ⟨u, _, hu⟩ := hall i v (by simpa using hi)
    exact cell_spot hu) h
  exact ⟨xs, ⟨cs, rfl, h2, h3⟩, h1, by rw [h4]; simpa using hsz⟩

theorem refsLL_zero : ∀ {els : List (List AV)}, (∀ el ∈ els, refsL el = 0) → refsLL els = 0
  | [], _ => rfl
  | a :: as, h => by
    simp only [refsLL, h a List.mem_cons_self, refsLL_zero (fun el hel => h el (List.mem_cons_of_mem _ hel))]
    rfl
theorem refsL_append0 : ∀ {a b : List AV}, refsL a = 0 → refsL b = 0 → refsL (a ++ b) = 0
  | [], _, _, h => h
  | x :: a, b, h, h' => by
    simp only [refsL] at h
    have h1 : x.refs = 0 := by omega
    have h2 : refsL a = 0 := by omega
    simp only [List.cons_append, refsL, h1, refsL_append0 h2 h']
    rfl
theorem refsL_flatten0 : ∀ {els : List (List AV)}, (∀ el ∈ els, refsL el = 0) → refsL els.flatten = 0
  | [], _ => rfl
  | a :: as, h => by
    rw [List.flatten_cons]
    exact refsL_append0 (h a List.mem_cons_self) (refsL_flatten0 fun el hel => h el (List.mem_cons_of_mem _ hel))

theorem fsOk_refs {R : TypeId → DataW H → List AV → Prop} (hR : ∀ t d xs, R t d xs → refsL xs = 0) : ∀ (fs : List Field) (ds : List (DataW H)) (xs : List AV), FsOk R fs ds xs → refsL xs = 0
  | [], _, _, h => by rw [h.2]; rfl
  | x :: r, _, _, h => by
    obtain ⟨d, ds', a, b, rfl, rfl, h1, h2⟩ := h
    exact refsL_append0 (hR _ _ _ h1) (fsOk_refs hR r _ _ h2)

/-- Nothing that a call is handed refers to what Den lays. -/
theorem atOk_refs : ∀ (f : Nat) (t : TypeId) (d : DataW H) (xs : List AV), AtOk P f t d xs → refsL xs = 0
  | 0, _, _, _, h => by simp [AtOk] at h
  | f + 1, t, d, xs, h => by
    have rows : ∀ {ds : List (DataW H)} {els : List (List AV)} {e : TypeId}, ds.length = els.length → (∀ (i : Nat) (a : DataW H) (b : List AV), ds[i]? = some a → els[i]? = some b → AtOk P f e a b) → ∀ el ∈ els, refsL el = 0 := by
      intro ds els e hl h el hel
      obtain ⟨i, hi⟩ := List.mem_iff_getElem?.1 hel
      have hlt := (List.getElem?_eq_some_iff.1 hi).1
      exact atOk_refs f e _ _ (h i ds[i] el (List.getElem?_eq_getElem (by omega)) hi)
    unfold AtOk at h
    cases ht : P.underlying t with
    | none => rw [ht] at h; exact h.elim
    | some td =>
      rw [ht] at h
      cases td with
      | bool => obtain ⟨b, _, rfl⟩ := h; rfl
      | int k => obtain ⟨b, _, rfl, _⟩ := h; rfl
      | string => obtain ⟨b, _, rfl, _⟩ := h; rfl
      | slice e =>
        rcases h with ⟨_, rfl⟩ | ⟨es, rest, els, _, rfl, hl, _, h⟩
        · rfl
        · have := refsLL_zero (rows hl fun i a b ha hb => (h i a b ha hb).2)
          simp only [refsL, AV.refs, this]; rfl
      | struct fs =>
        obtain ⟨ds, _, h⟩ := h
        exact fsOk_refs (fun t d xs => atOk_refs f t d xs) _ _ _ h
      | array n e =>
        obtain ⟨ds, els, _, rfl, h1, h2, h⟩ := h
        exact refsL_flatten0 (rows (h1.trans h2.symm) h)
      | _ => exact h.elim

end
end Go.Den

/- A closed call, seen from within another run: a primitive. -/
namespace Go.Den
open Go Go.RowKit

variable {P : Program} {X : Ctx} {B : Nat} {w₀ : World}

/-- New cells alone: all that was known still holds. -/
theorem WRel.below {G : Gh} {σ : AS} {w w' : World} (h : WRel P B w₀ G σ w) (hb : Below w.heap.size w w') : WRel P B w₀ G σ w' where
  len := h.len
  frz b o v e := by
    have hlt := WRel.frzLt P h e
    have h1 := h.frz b o v e
    simp only [World.cell?] at h1 ⊢
    rw [hb.block b hlt]; exact h1
  obj id o e hz := by
    have hon : G.on id := ⟨by rw [h.len]; exact (List.getElem?_eq_some_iff.1 e).1, hz⟩
    exact (h.obj id o e hz).mono G.le_refl hon rfl (hb.block _ (h.low id hon).2)
  inj := h.inj
  sep := h.sep
  low i hi := ⟨(h.low i hi).1, Nat.lt_of_lt_of_le (h.low i hi).2 hb.size⟩
  bel := h.bel.trans (hb.mono h.hB)
  hB := Nat.le_trans h.hB hb.size
  pob := h.pob
  old := h.old

theorem G0_later {G : Gh} {σ : AS} {w : World} (h : WRel P B w₀ G σ w) : (G0 B w₀).agree 0 (G0 w.heap.size w) := by
  refine ⟨fun b o v hv => ?_, Nat.zero_le _, ?_, ?_, ?_, ?_, ?_, ?_⟩
  · simp only [G0] at hv ⊢
    split at hv
    · rename_i hlt
      rw [if_pos (Nat.lt_of_lt_of_le hlt h.hB)]
      exact h.frz b o v (h.old b o v hlt hv)
    · cases hv
  all_goals (intro i hi; omega)

/-- What is known of listed variables is known later on, too. -/
theorem GlobOk.later (hg : GlobOk X B w₀) {G : Gh} {σ : AS} {w : World} (h : WRel P B w₀ G σ w) : GlobOk X w.heap.size w := by
  refine ⟨fun g cs e => ?_, fun g es e => ?_⟩
  · obtain ⟨h1, vs, h2, h3, h4⟩ := hg.1 g cs e
    refine ⟨Nat.lt_of_lt_of_le h1 h.hB, vs, fun j v hj => h.frz g j v (h.old g j v h1 (h2 j v hj)), h3, ?_⟩
    exact LRel.agree (G0_later h) cs vs h4 (LRel.refs _ _ h4)
  · obtain ⟨h1, es', r, ms, clock, h2, h3, h4, h5, h6⟩ := hg.2 g es e
    refine ⟨Nat.lt_of_lt_of_le h1 h.hB, es', r, ms, clock, Nat.lt_of_lt_of_le h2 h.hB, h.frz g 0 _ (h.old g 0 _ h1 h3), ?_, ?_, h6⟩
    · rw [h.bel.block r h2]; exact h4
    · exact MRel.agree (G0_later h) h5 (h5.refs)

/-- What a closed call answers. -/
def closedP (b : Bool) (args : List AV) (σ : AS) : Option CRes := match args with
  | [] => some (.ret (.bool b) σ)
  | _ => none

theorem PrimOk.closed (hX : CodeOk P X) (hP : ∀ B w₀, GlobOk X B w₀ → ∀ f p, X.prim f = some p → PrimOk P B w₀ f p) {f : FuncId} {b : Bool} {σ' : AS}
    (h : D X (.fn (.func f) [] []) [] ⟨[], none⟩ = some (.ret (.bool b) σ')) (hg : GlobOk X B w₀) : PrimOk P B w₀ f (closedP b) := by
  intro args σ cr hp G w args' hw hl
  unfold closedP at hp
  split at hp
  · cases hp
    have hg' := hg.later hw
    have ha : args'.toList = [] := by simpa [LRel] using hl
    have hk := D_sound hg' hX (hP _ _ hg') _ _ _ _ h (Gh.start w) w (.func (.func f) #[] #[]) args' (.start w) ⟨_, _, _, rfl, rfl, rfl, rfl⟩ (by rw [ha]; rfl)
    have hrun : (callS (.func (.func f) #[] #[]) args').run P w = (callFunc f args').run P w := by
      simp [callS, Deferred.ofValue, invoke]
    rw [hrun] at hk
    refine hk.mono fun e w' he => ?_
    cases e with
    | returned v' =>
      obtain ⟨G', h1, h2, h3, _⟩ := he
      exact ⟨G, G.le_refl, hw.below h2.bel, h3, .refl σ⟩
    | panicked _ => exact he.elim
    | outgrown => exact he.elim
  · cases hp

end Go.Den

/- A context with more primitives comes to no less. -/
namespace Go.Den
open Go

/-- The same listed variables and code; more primitives, where there was no code. -/
structure Ext (X X' : Ctx) : Prop where
  glob : X'.glob = X.glob
  gmap : X'.gmap = X.gmap
  code : X'.code = X.code
  prim : ∀ f, X'.prim f = X.prim f ∨ (X.prim f = none ∧ X.code f = none)

variable {X X' : Ctx}

theorem loadA_ext (h : Ext X X') : loadA X' = loadA X := by
  funext σ ag n a
  unfold loadA
  rw [h.glob]

theorem exec_ext (h : Ext X X') {C : Caller} (i : I) (e : Env) (σ : AS) : exec X' C i e σ = exec X C i e σ := by
  obtain ⟨g, c, p, m⟩ := X
  obtain ⟨g', c', p', m'⟩ := X'
  obtain ⟨h1, h2, h3, h4⟩ := h
  simp only at h1 h2
  subst h1 h2
  cases i <;> rfl

theorem runOps_ext (h : Ext X X') {C : Caller} : ∀ (os : List Ins), runOps X' C os = runOps X C os
  | [] => by funext fr σ; simp only [runOps]
  | o :: os => by
    funext fr σ
    simp only [runOps, exec_ext h, runOps_ext h os]

theorem runOpsD_ext (h : Ext X X') {C : Caller} : ∀ (os : List (Ins × List Nat)) (fps : List FP), runOpsD X' C fps os = runOpsD X C fps os
  | [], fps => by funext fr σ; simp only [runOpsD]
  | o :: os, fps => by
    funext fr σ
    simp only [runOpsD, exec_ext h, runOpsD_ext h os]

theorem isCode_ext (h : Ext X X') {v : AV} (hv : isCode X v = true) : isCode X' v = true := by
  unfold isCode at hv ⊢
  split at hv
  · rename_i f _ _
    simp only [Bool.and_eq_true] at hv ⊢
    rw [h.code]
    refine ⟨?_, hv.2⟩
    rcases h.prim f with hp | ⟨_, hc⟩
    · rw [hp]; exact hv.1
    · rw [hc] at hv; simp at hv
  · cases hv

theorem runCode_ext (h : Ext X X') {C : Caller} {L : Loops} (hL : Loops.le L L) (fid : FuncId) (rd : Bool) : ∀ pc, bodyLe (runCode X C L fid rd pc) (runCode X' C L fid rd pc)
  | .skip, _, _, _, h' => by simpa only [runCode] using h'
  | .seq a b, fr, σ, r, h' => by
    simp only [runCode] at h' ⊢
    split at h'
    · rename_i hx; rw [runCode_ext h hL fid rd a _ _ _ hx]; exact runCode_ext h hL fid rd b _ _ _ h'
    · rename_i hx
      cases hr : runCode X C L fid rd a fr σ with
      | none => rw [hr] at h'; cases h'
      | some q =>
        rw [hr] at h'; cases h'
        rw [runCode_ext h hL fid rd a _ _ _ hr]
        obtain ⟨ex, fr', σ'⟩ := r
        cases ex with
        | normal => exact absurd hr (hx _ _)
        | _ => rfl
  | .cond c a b, fr, σ, r, h' => by
    simp only [runCode] at h' ⊢
    split at h'
    · rename_i t hc
      split at h'
      · rename_i ht; rw [if_pos ht]; exact runCode_ext h hL fid rd a _ _ _ h'
      · rename_i ht; rw [if_neg ht]; exact runCode_ext h hL fid rd b _ _ _ h'
    · cases h'
  | .block id body, fr, σ, r, h' => by
    simp only [runCode] at h' ⊢
    cases hr : runCode X C L fid rd body fr σ with
    | none => rw [hr] at h'; cases h'
    | some q => rw [runCode_ext h hL fid rd body _ _ _ hr]; rw [hr] at h'; exact h'
  | .loop body, fr, σ, r, h' => by
    simp only [runCode] at h' ⊢
    exact hL _ _ (runCode_ext h hL fid rd body) _ _ _ h'
  | .exit id, _, _, _, h' => by simpa only [runCode] using h'
  | .ret, _, _, _, h' => by simpa only [runCode] using h'
  | .reg ops, fr, σ, r, h' => by
    simp only [runCode] at h' ⊢
    rw [runOps_ext h]; exact h'
  | .dreg ops, fr, σ, r, h' => by
    simp only [runCode] at h' ⊢
    rw [runOpsD_ext h]; exact h'
  | .rfun g ps as bd, fr, σ, r, h' => by
    simp only [runCode] at h' ⊢
    split at h'
    · cases h'
    · rename_i hrd
      rw [if_neg hrd]
      split at h'
      · rename_i hi
        rw [if_pos (isCode_ext h hi)]
        exact h'
      · cases h'

theorem runRound_ext (h : Ext X X') {C : Caller} {L : Loops} (hL : Loops.le L L) (l : Nat) (args : List AV) (σ : AS) (r : CRes) (h' : runRound X C L l args σ = some r) : runRound X' C L l args σ = some r := by
  simp only [runRound] at h' ⊢
  split at h'
  · rename_i st pend f env ps as bd hl
    split at h'
    · rename_i hlen
      simp only [hlen, if_true]
      split at h'
      · rename_i fr σ₁ hx
        rw [runCode_ext h hL _ _ _ _ _ _ hx]
        simp only
        split at h'
        · rename_i pend' f' env' ps' as' bd' hl'
          cases hq : runCode X C L f true bd fr (σ₁.set l (.loop .busy pend' f' env' ps' as' bd') 0) with
          | none => rw [hq] at h'; simp only [endRound] at h'; cases h'
          | some q => rw [runCode_ext h hL _ _ _ _ _ _ hq]; rw [hq] at h'; exact h'
        · cases h'
      · cases h'
    · cases h'
  · cases h'

theorem resultsL_ext (h : Ext X X') (σ : AS) (e : Env) : ∀ rs, resultsL X' σ e rs = resultsL X σ e rs
  | [] => rfl
  | r :: rs => by
    have : resultA X' σ e r = resultA X σ e r := by
      cases r with
      | t i => rfl
      | cell a ag n => simp only [resultA, loadA_ext h]
    simp only [resultsL, this, resultsL_ext h σ e rs]

theorem leave_ext (h : Ext X X') (n : Nat) (lo : Option Nat) (pf : PF) (r : Res) : leave X' n lo pf r = leave X n lo pf r := by
  have e1 : ∀ fr σ, leaveRet X' n lo pf fr σ = leaveRet X n lo pf fr σ := fun fr σ => by
    simp only [leaveRet, resultsA, resultsL_ext h]
  rcases r with _ | ⟨ex, fr, σ⟩
  · rfl
  · cases ex <;> simp only [leave, e1]

theorem step_ext (h : Ext X X') {C : Caller} {L : Loops} (hL : Loops.le L L) : Caller.le (step X C L) (step X' C L) := by
  intro v args σ r h'
  unfold step at h' ⊢
  split at h'
  · rename_i f first cap
    split at h'
    · rename_i p hp
      have : X'.prim f = some p := by
        rcases h.prim f with q | ⟨q, _⟩
        · rw [q, hp]
        · rw [q] at hp; cases hp
      rw [this]; exact h'
    · rename_i hp
      split at h'
      · rename_i pf hc
        split at h'
        · rename_i hlen
          have : X'.prim f = none := by
            rcases h.prim f with q | ⟨_, q⟩
            · rw [q, hp]
            · rw [q] at hc; cases hc
          rw [this, h.code, hc]
          simp only
          rw [if_pos hlen, leave_ext h]
          cases hq : runCode X C L f false pf.body { env := envOf (first ++ args ++ cap), marks := [] } { σ with lo := none } with
          | none => rw [hq] at h'; simp only [leave] at h'; cases h'
          | some q => rw [runCode_ext h hL _ _ _ _ _ _ hq]; rw [hq] at h'; exact h'
        · cases h'
      · cases h'
  · exact runRound_ext h hL _ _ _ _ h'
  · cases h'

theorem callV_ext (h : Ext X X') : ∀ n, Caller.le (callV X n) (callV X' n)
  | 0 => fun f args σ r h => by simp [callV] at h
  | n + 1 => by
    rw [callV, callV]
    exact Caller.le_trans (step_ext h (iter_body n)) (step_mono (callV_ext h n) (iter_body n))

theorem D_ext (h : Ext X X') : Caller.le (D X) (D X') := fun f a s r hr => by
  obtain ⟨n, hn⟩ := D_fuel hr
  exact D_of (n := n) _ _ _ _ (callV_ext h n _ _ _ _ hn)

end Go.Den

/- Den: a listed variable that holds a map of functions. -/
namespace Go.Den
open Go Go.RowKit

/-- The map, in the order of the text. -/
def funcsM (tab : List (Nat × List UInt8 × Nat)) : List (AV × AV) := tab.map fun x => (.int .u8 x.1, .fn (.func x.2.2) [] [])

theorem findKeyA_u8 {n : Int} : ∀ l : List (AV × AV), (∀ p ∈ l, ∃ m : Int, p.1 = .int .u8 m) → findKeyA (.int .u8 n) l = some ((l.find? fun p => match p.1 with | .int _ m => n == m | _ => false).map (·.2))
  | [], _ => rfl
  | (k, v) :: l, h => by
    obtain ⟨m, hm⟩ := h (k, v) (by simp)
    simp only at hm
    subst hm
    have ih := findKeyA_u8 (n := n) l (fun p hp => h p (by simp [hp]))
    simp only [findKeyA, keyEq, if_true, List.find?_cons]
    cases hb : n == m with
    | true => simp
    | false => simp only; exact ih

theorem pairwise_ne : ∀ {l : List (AV × AV)} {p q : AV × AV}, (l.Pairwise fun p q => p.1 ≠ q.1) → p ∈ l → q ∈ l → p ≠ q → p.1 ≠ q.1
  | a :: l, p, q, h, hp, hq, hne => by
    rw [List.pairwise_cons] at h
    rcases List.mem_cons.1 hp with h1 | h1
    · rcases List.mem_cons.1 hq with h2 | h2
      · exact absurd (h1.trans h2.symm) hne
      · rw [h1]; exact h.1 q h2
    · rcases List.mem_cons.1 hq with h2 | h2
      · rw [h2]; exact fun e => h.1 p h1 e.symm
      · exact pairwise_ne h.2 h1 h2 hne

theorem perm_map_inv {α β : Type} {F : α → β} {l l' : List β} (h : l.Perm l') : ∀ m : List α, m.map F = l → ∃ m' : List α, m'.Perm m ∧ m'.map F = l' := by
  induction h with
  | nil => intro m hm; exact ⟨m, .refl _, hm⟩
  | cons x _ ih =>
    intro m hm
    cases m with
    | nil => cases hm
    | cons a m =>
      simp only [List.map_cons, List.cons.injEq] at hm
      obtain ⟨m', h1, h2⟩ := ih m hm.2
      exact ⟨a :: m', h1.cons a, by simp [hm.1, h2]⟩
  | swap x y l =>
    intro m hm
    match m, hm with
    | a :: b :: m, hm =>
      simp only [List.map_cons, List.cons.injEq] at hm
      exact ⟨b :: a :: m, .swap a b m, by simp [hm]⟩
  | trans _ _ ih1 ih2 =>
    intro m hm
    obtain ⟨m', h1, h2⟩ := ih1 m hm
    obtain ⟨m'', h3, h4⟩ := ih2 m' h2
    exact ⟨m'', h3.trans h1, h4⟩

/-- Of rows with the same entries, and no key twice, what is found in one is found in the other. -/
theorem findKeyA_perm {l l' : List (AV × AV)} (h : ∀ p ∈ l, ∃ m : Int, p.1 = .int .u8 m) (hp : l.Perm l') (hd : l.Pairwise fun p q => p.1 ≠ q.1) {k : AV} {v : Option AV} (hf : findKeyA k l = some v) : findKeyA k l' = some v := by
  have h' : ∀ p ∈ l', ∃ m : Int, p.1 = .int .u8 m := fun p hp' => h p (hp.mem_iff.2 hp')
  cases l with
  | nil => rw [List.Perm.nil_eq hp] at hf; exact hf
  | cons a l =>
    obtain ⟨m, hm⟩ := h a (by simp)
    obtain ⟨ak, av⟩ := a
    simp only at hm
    subst hm
    cases k with
    | int q n =>
      by_cases hq : q = .u8
      · subst hq
        rw [findKeyA_u8 _ h] at hf
        rw [findKeyA_u8 _ h']
        rw [← hf]
        congr 2
        -- both find the one entry
        have hu : ∀ p q : AV × AV, p ∈ ((AV.int .u8 m, av) :: l) → q ∈ ((AV.int .u8 m, av) :: l) → (match p.1 with | .int _ m => n == m | _ => false) = true → (match q.1 with | .int _ m => n == m | _ => false) = true → p = q := by
          intro p q hp1 hq1 e1 e2
          obtain ⟨m1, k1⟩ := h p hp1
          obtain ⟨m2, k2⟩ := h q hq1
          rw [k1] at e1
          rw [k2] at e2
          have e3 : p.1 = q.1 := by
            rw [k1, k2]
            have a1 : n = m1 := by simpa using e1
            have a2 : n = m2 := by simpa using e2
            rw [← a1, ← a2]
          by_cases hpq : p = q
          · exact hpq
          · exact absurd e3 (pairwise_ne hd hp1 hq1 hpq)
        cases e1 : ((AV.int .u8 m, av) :: l).find? (fun p => match p.1 with | .int _ m => n == m | _ => false) with
        | none =>
          rw [List.find?_eq_none] at e1 ⊢
          exact fun p hp' => e1 p (hp.mem_iff.2 hp')
        | some p =>
          have m1 := List.mem_of_find?_eq_some e1
          have t1 := List.find?_some e1
          cases e2 : l'.find? (fun p => match p.1 with | .int _ m => n == m | _ => false) with
          | none =>
            rw [List.find?_eq_none] at e2
            exact absurd t1 (e2 p (hp.mem_iff.1 m1))
          | some q =>
            have m2 := hp.mem_iff.2 (List.mem_of_find?_eq_some e2)
            have t2 := List.find?_some e2
            rw [hu q p m2 m1 t2 t1]
      · exfalso
        simp [findKeyA, keyEq, hq] at hf
    | _ => exfalso; simp [findKeyA, keyEq] at hf

section
variable {P : Program} {W : World}

theorem mapM_get {α β : Type} {f : α → Option β} : ∀ {l : List α} {r : List β}, l.mapM f = some r → l.length = r.length ∧ ∀ (i : Nat) a b, l[i]? = some a → r[i]? = some b → f a = some b
  | [], r, h => by
    simp at h; subst h
    exact ⟨rfl, fun i a b ha => by simp at ha⟩
  | x :: l, r, h => by
    rw [List.mapM_cons] at h
    simp only [bind, Option.bind_eq_some_iff, pure, Option.some.injEq] at h
    obtain ⟨y, hy, r', hr, rfl⟩ := h
    obtain ⟨h1, h2⟩ := mapM_get hr
    refine ⟨by simp [h1], fun i a b ha hb => ?_⟩
    cases i with
    | zero => simp at ha hb; subst ha; subst hb; exact hy
    | succ i => exact h2 i a b (by simpa using ha) (by simpa using hb)

theorem funcs_map {n : String} {d : DataW Unit} {g t k e : Nat} {ps rs : Array TypeId} {va : Bool} {tab : List (Nat × List UInt8 × Nat)} (hfa : funcsAt P W n d) (hd : d.funcsOut = .map (tab.map fun x => (.int .u8 x.1, .held x.2.1)))
    (hg : P.globalNamed n = some g) (ht : (P.globals[g]?).map (·.type) = some t) (hu : P.underlying t = some (.map k e)) (hk : P.underlying k = some (.int .u8)) (he : P.underlying e = some (.func ps rs va))
    (hone : ∀ x ∈ tab, ((List.range P.funcs.size).filter fun f => (P.funcs[f]?).any (·.name.toUTF8.data.toList == x.2.1)) = [x.2.2]) (hne : ∀ x ∈ tab, x.2.1 ≠ []) (hnd : tab.Pairwise fun x y => x.1 ≠ y.1) :
    g < W.heap.size ∧ ∃ es' r ms clock, r < W.heap.size ∧ W.cell? ⟨g, 0, none⟩ = some (.map (some r)) ∧ W.heap[r]? = some (.map ms clock) ∧ MRel (G0 W.heap.size W) es' ms.toList ∧ ∀ k v, findKeyA k (funcsM tab) = some v → findKeyA k es' = some v := by
  obtain ⟨g', t', cs, fuel, p, h1, h2, h3, h4⟩ := hfa
  obtain rfl : g' = g := Option.some.inj (h1.symm.trans hg)
  obtain rfl : t' = t := Option.some.inj (h2.symm.trans ht)
  rw [hd] at h4
  cases fuel with
  | zero => simp [DataW.trod] at h4
  | succ fuel =>
  unfold DataW.trod at h4
  rw [hu] at h4
  -- the cell
  obtain ⟨b, hcs⟩ : ∃ b, cs.toList = [.map (some b)] := by
    split at h4 <;> simp_all
  rw [hcs] at h4
  simp only at h4
  split at h4
  case h_2 => cases h4
  rename_i es clock hb
  split at h4
  case isFalse => cases h4
  obtain ⟨entries, hm, hs⟩ := Option.bind_eq_some_iff.1 h4
  split at hs
  case isFalse => cases hs
  rename_i hris
  simp only [Option.some.injEq, Prod.mk.injEq, DataW.map.injEq] at hs
  obtain ⟨hsort, _⟩ := hs
  obtain ⟨hlen, hget⟩ := mapM_get hm
  have hperm : (entries.map (·.1)).Perm (tab.map fun x => (Lit.int .u8 x.1, DataW.held x.2.1)) := by
    rw [← hsort]; exact (WideShapes.sorted_perm _).symm
  -- what an entry is
  have hent : ∀ (i : Nat) (m : MapEntry), es.toList[i]? = some m → ∃ x ∈ tab, (entries.map (·.1))[i]? = some (Lit.int .u8 x.1, DataW.held x.2.1) ∧ m.key = .int .u8 x.1 ∧ m.val = .func (.func x.2.2) #[] #[] := by
    intro i m hi
    have hlt : i < entries.length := by rw [← hlen]; exact (List.getElem?_eq_some_iff.1 hi).1
    have hent := hget i m entries[i] hi (List.getElem?_eq_getElem hlt)
    obtain ⟨key, hkey, hrest⟩ := Option.bind_eq_some_iff.1 hent
    have hmem : entries[i].1 ∈ tab.map fun x => (Lit.int .u8 x.1, DataW.held x.2.1) := hperm.mem_iff.1 (List.mem_map.2 ⟨entries[i], List.getElem_mem hlt, rfl⟩)
    obtain ⟨x, hx, hxe⟩ := List.mem_map.1 hmem
    refine ⟨x, hx, by rw [List.getElem?_map, List.getElem?_eq_getElem hlt, Option.map_some, ← hxe], ?_⟩
    split at hrest
    case isFalse => cases hrest
    rename_i hform
    obtain ⟨y, hy, hye⟩ := Option.map_eq_some_iff.1 hrest
    have hk1 : key = .int .u8 x.1 := by rw [← hye] at hxe; simp only [Prod.mk.injEq] at hxe; exact hxe.1.symm
    have hk2 : y.1 = .held x.2.1 := by rw [← hye] at hxe; simp only [Prod.mk.injEq] at hxe; exact hxe.2.symm
    constructor
    · subst hk1
      unfold keyOf at hkey
      rw [hk] at hkey
      simp only at hkey
      unfold mapKey at hkey
      rw [hk] at hkey
      split at hkey <;> simp_all
    · have hcell : m.val.cells.toList = [m.val] := by
        cases hv : m.val <;> first | rfl | (rw [hv] at hform; simp [Value.formed, he] at hform)
      rw [hcell] at hy
      obtain ⟨y1, y2⟩ := y
      simp only at hk2
      subst hk2
      cases hnm : x.2.1 with
      | nil => exact absurd hnm (hne x hx)
      | cons c r =>
        rw [hnm] at hy
        have ho := hone x hx
        rw [hnm] at ho
        exact func_of_trod he ho hy
  obtain ⟨tab', hp1, hp2⟩ := perm_map_inv hperm.symm tab rfl
  have hvar : g' < W.heap.size := by
    have hc : W.cell? ⟨g', 0, none⟩ = some (.map (some b)) := by rw [World.var?_cell hg h3, ← Array.getElem?_toList, hcs]; rfl
    unfold World.cell? at hc
    cases hh : W.heap[g']? with
    | none => rw [hh] at hc; cases hc
    | some o => exact (Array.getElem?_eq_some_iff.1 hh).1
  have hinj : ∀ x ∈ tab, ∀ y ∈ tab, x.1 = y.1 → x = y := by
    intro x hx y hy e
    obtain ⟨i, hi⟩ := List.getElem?_of_mem hx
    obtain ⟨j, hj⟩ := List.getElem?_of_mem hy
    rw [List.pairwise_iff_getElem] at hnd
    have hi1 := (List.getElem?_eq_some_iff.1 hi).1
    have hj1 := (List.getElem?_eq_some_iff.1 hj).1
    rcases Nat.lt_trichotomy i j with h | h | h
    · have := hnd i j hi1 hj1 h
      rw [(List.getElem?_eq_some_iff.1 hi).2, (List.getElem?_eq_some_iff.1 hj).2] at this
      exact absurd e this
    · subst h; rw [hi] at hj; cases hj; rfl
    · have := hnd j i hj1 hi1 h
      rw [(List.getElem?_eq_some_iff.1 hi).2, (List.getElem?_eq_some_iff.1 hj).2] at this
      exact absurd e.symm this
  refine ⟨hvar, funcsM tab', b, es, clock, (Array.getElem?_eq_some_iff.1 hb).1, ?_, hb, ?_, ?_⟩
  · rw [World.var?_cell hg h3, ← Array.getElem?_toList, hcs]; rfl
  · have hl' : tab'.length = es.toList.length := by
      have := congrArg List.length hp2
      simp only [List.length_map] at this
      omega
    have key : ∀ (T : List (Nat × List UInt8 × Nat)) (M : List MapEntry), T.length = M.length → (∀ (i : Nat) x m, T[i]? = some x → M[i]? = some m → m.key = .int .u8 x.1 ∧ m.val = .func (.func x.2.2) #[] #[]) → MRel (G0 W.heap.size W) (funcsM T) M := by
      intro T
      induction T with
      | nil =>
        intro M hM _
        cases M with
        | nil => rfl
        | cons m M => simp at hM
      | cons x T ih =>
        intro M hM hh
        cases M with
        | nil => simp at hM
        | cons m M =>
          obtain ⟨e1, e2⟩ := hh 0 x m rfl rfl
          refine ⟨m, M, rfl, rfl, by rw [e1]; rfl, by rw [e2]; exact ⟨.func x.2.2, #[], #[], rfl, rfl, rfl, rfl⟩, ih M (by simpa using hM) fun i x' m' hx hm => hh (i + 1) x' m' (by simpa using hx) (by simpa using hm)⟩
    refine key tab' es.toList hl' fun i x m hx hm => ?_
    obtain ⟨y, hy, hy1, hy2, hy3⟩ := hent i m hm
    have e1 : (entries.map (·.1))[i]? = some (Lit.int .u8 x.1, DataW.held x.2.1) := by
      rw [← hp2, List.getElem?_map, hx]; rfl
    rw [hy1] at e1
    simp only [Option.some.injEq, Prod.mk.injEq, Lit.int.injEq, true_and] at e1
    have e2 : y.1 = x.1 := by have := e1.1; omega
    have : y = x := hinj y hy x (hp1.mem_iff.1 (List.mem_of_getElem? hx)) e2
    subst this
    exact ⟨hy2, hy3⟩
  · intro k v hf
    refine findKeyA_perm (fun p hp => ?_) (hp1.symm.map _) ?_ hf
    · obtain ⟨x, _, rfl⟩ := List.mem_map.1 hp
      exact ⟨x.1, rfl⟩
    · rw [List.pairwise_map]
      refine hnd.imp fun hab => ?_
      simp only [ne_eq, AV.int.injEq, true_and]
      omega
end
end Go.Den
