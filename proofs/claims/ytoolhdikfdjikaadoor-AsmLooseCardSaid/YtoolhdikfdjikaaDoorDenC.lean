/- Den, third part: the evaluator without fuel, rules by which contracts are computed, and what arguments of a call hold (no conditions beyond those of the parts before). -/
import Derived.Test.YtoolhdikfdjikaaDoorDenB
import Derived.Carry
import Derived.ChangeArms
import Derived.OpenShut
set_option linter.unusedVariables false
set_option linter.unusedSimpArgs false
set_option linter.unusedSectionVars false
set_option linter.deprecated false

/- Den: the limit of the evaluators: no fuel. -/
namespace Go.Den
open Go Go.RowKit

variable {P : Program} {X : Ctx} {B : Nat} {w₀ : World}

def Caller.le (C C' : Caller) : Prop := ∀ f args σ r, C f args σ = some r → C' f args σ = some r
def bodyLe (b b' : Fr → AS → Res) : Prop := ∀ fr σ r, b fr σ = some r → b' fr σ = some r
def Loops.le (L L' : Loops) : Prop := ∀ b b', bodyLe b b' → bodyLe (L b) (L' b')

theorem exec_mono {C C' : Caller} (hC : Caller.le C C') (i : I) (e : Env) (σ : AS) (r : Out) (h : exec X C i e σ = some r) : exec X C' i e σ = some r := by
  cases i with
  | call f args =>
    simp only [exec] at h ⊢
    split at h
    · rename_i hc; rw [hC _ _ _ _ hc]; exact h
    · rename_i hc; rw [hC _ _ _ _ hc]; exact h
    · cases h
  | _ => simpa only [exec] using h

theorem runOps_mono {C C' : Caller} (hC : Caller.le C C') : ∀ (os : List Ins), bodyLe (runOps X C os) (runOps X C' os)
  | [], _, _, _, h => by simpa only [runOps] using h
  | o :: os, fr, σ, r, h => by
    simp only [runOps] at h ⊢
    split at h
    · rename_i hw
      rw [if_pos hw]
      split at h
      · rename_i hx; rw [exec_mono hC _ _ _ _ hx]; exact runOps_mono hC os _ _ _ h
      · rename_i hx; rw [exec_mono hC _ _ _ _ hx]; exact h
      · cases h
    · rename_i hw
      rw [if_neg hw]; exact runOps_mono hC os _ _ _ h

theorem runOpsD_mono {C C' : Caller} (hC : Caller.le C C') : ∀ (os : List (Ins × List Nat)) (fps : List FP), bodyLe (runOpsD X C fps os) (runOpsD X C' fps os)
  | [], _, _, _, _, h => by simpa only [runOpsD] using h
  | o :: os, fps, fr, σ, r, h => by
    simp only [runOpsD] at h ⊢
    split at h
    · rename_i hw
      rw [if_pos hw]
      split at h
      · rename_i hx
        rw [exec_mono hC _ _ _ _ hx]
        simp only
        split at h
        · rename_i ha; rw [if_pos ha]; exact runOpsD_mono hC os _ _ _ _ h
        · cases h
      · cases h
    · rename_i hw
      rw [if_neg hw]; exact runOpsD_mono hC os _ _ _ _ h

theorem runCode_mono {C C' : Caller} {L L' : Loops} (hC : Caller.le C C') (hL : Loops.le L L') (fid : FuncId) (rd : Bool) : ∀ pc, bodyLe (runCode X C L fid rd pc) (runCode X C' L' fid rd pc)
  | .skip, _, _, _, h => by simpa only [runCode] using h
  | .seq a b, fr, σ, r, h => by
    simp only [runCode] at h ⊢
    split at h
    · rename_i hx; rw [runCode_mono hC hL fid rd a _ _ _ hx]; exact runCode_mono hC hL fid rd b _ _ _ h
    · rename_i hx
      cases hr : runCode X C L fid rd a fr σ with
      | none => rw [hr] at h; cases h
      | some q =>
        rw [hr] at h; cases h
        rw [runCode_mono hC hL fid rd a _ _ _ hr]
        obtain ⟨ex, fr', σ'⟩ := r
        cases ex with
        | normal => exact absurd hr (hx _ _)
        | _ => rfl
  | .cond c a b, fr, σ, r, h => by
    simp only [runCode] at h ⊢
    split at h
    · rename_i t hc
      split at h
      · rename_i ht; rw [if_pos ht]; exact runCode_mono hC hL fid rd a _ _ _ h
      · rename_i ht; rw [if_neg ht]; exact runCode_mono hC hL fid rd b _ _ _ h
    · cases h
  | .block id body, fr, σ, r, h => by
    simp only [runCode] at h ⊢
    cases hr : runCode X C L fid rd body fr σ with
    | none => rw [hr] at h; cases h
    | some q => rw [runCode_mono hC hL fid rd body _ _ _ hr]; rw [hr] at h; exact h
  | .loop body, fr, σ, r, h => by
    simp only [runCode] at h ⊢
    exact hL _ _ (runCode_mono hC hL fid rd body) _ _ _ h
  | .exit id, _, _, _, h => by simpa only [runCode] using h
  | .ret, _, _, _, h => by simpa only [runCode] using h
  | .reg ops, fr, σ, r, h => by
    simp only [runCode] at h ⊢
    exact runOps_mono hC ops _ _ _ h
  | .dreg ops, fr, σ, r, h => by
    simp only [runCode] at h ⊢
    exact runOpsD_mono hC ops _ _ _ _ h
  | .rfun g ps as bd, fr, σ, r, h => by
    simp only [runCode] at h ⊢
    split at h
    · cases h
    · rename_i hrd
      rw [if_neg hrd]
      split at h
      · rename_i hi
        rw [if_pos hi]
        split at h
        · rename_i hx; rw [hC _ _ _ _ hx]; exact h
        · rename_i hx; rw [hC _ _ _ _ hx]; exact h
        · cases h
      · cases h

theorem runRound_mono {C C' : Caller} {L L' : Loops} (hC : Caller.le C C') (hL : Loops.le L L') (l : Nat) (args : List AV) (σ : AS) (r : CRes) (h : runRound X C L l args σ = some r) : runRound X C' L' l args σ = some r := by
  simp only [runRound] at h ⊢
  split at h
  · rename_i st pend f env ps as bd hl
    split at h
    · rename_i hlen
      simp only [hlen, if_true]
      split at h
      · rename_i fr σ₁ hx
        rw [runCode_mono hC hL _ _ _ _ _ _ hx]
        simp only
        split at h
        · rename_i pend' f' env' ps' as' bd' hl'
          cases hq : runCode X C L f true bd fr (σ₁.set l (.loop .busy pend' f' env' ps' as' bd') 0) with
          | none => rw [hq] at h; simp only [endRound] at h; cases h
          | some q => rw [runCode_mono hC hL _ _ _ _ _ _ hq]; rw [hq] at h; exact h
        · cases h
      · cases h
    · cases h
  · cases h

theorem step_mono {C C' : Caller} {L L' : Loops} (hC : Caller.le C C') (hL : Loops.le L L') : Caller.le (step X C L) (step X C' L') := by
  intro v args σ r h
  unfold step at h ⊢
  split at h
  · rename_i f first cap
    split at h
    · rename_i hp; exact h
    · rename_i hp
      split at h
      · rename_i pf hc
        split at h
        · rename_i hlen
          rw [if_pos hlen]
          cases hq : runCode X C L f false pf.body { env := envOf (first ++ args ++ cap), marks := [] } { σ with lo := none } with
          | none => rw [hq] at h; simp only [leave] at h; cases h
          | some q => rw [runCode_mono hC hL _ _ _ _ _ _ hq]; rw [hq] at h; exact h
        · cases h
      · cases h
  · exact runRound_mono hC hL _ _ _ _ h
  · cases h

theorem iter_le : ∀ n, Loops.le (iter n) (iter (n + 1))
  | 0, b, b', hb, fr, σ, r, h => by simp only [iter] at h; cases h
  | n + 1, b, b', hb, fr, σ, r, h => by
    rw [iter] at h ⊢
    split at h
    · rename_i hx; rw [hb _ _ _ hx]; exact iter_le n b b' hb _ _ _ h
    · rename_i hx
      rw [hb _ _ _ h]
      obtain ⟨ex, fr', σ'⟩ := r
      cases ex with
      | normal => exact absurd h (hx _ _)
      | _ => rfl

theorem callV_le : ∀ n, Caller.le (callV X n) (callV X (n + 1))
  | 0 => fun f args σ r h => by simp [callV] at h
  | n + 1 => by
    rw [callV, callV]
    exact step_mono (callV_le n) (iter_le n)

theorem Caller.le_trans {A B C : Caller} (h : Caller.le A B) (k : Caller.le B C) : Caller.le A C := fun f a s r e => k f a s r (h f a s r e)

theorem callV_mono {n m : Nat} (h : n ≤ m) : Caller.le (callV X n) (callV X m) := by
  induction h with
  | refl => exact fun f a s r e => e
  | step _ ih => exact Caller.le_trans ih (callV_le _)

theorem iter_same {n m : Nat} (h : n ≤ m) (b : Fr → AS → Res) : bodyLe (iter n b) (iter m b) := by
  induction h with
  | refl => exact fun fr s r e => e
  | step _ ih => exact fun fr s r e => iter_le _ b b (fun _ _ _ h => h) _ _ _ (ih fr s r e)

theorem iter_body : ∀ n (b b' : Fr → AS → Res), bodyLe b b' → bodyLe (iter n b) (iter n b')
  | 0, _, _, _ => fun fr σ r h => by simp only [iter] at h; cases h
  | n + 1, b, b', hb => fun fr σ r h => by
    rw [iter] at h ⊢
    split at h
    · rename_i hx; rw [hb _ _ _ hx]; exact iter_body n b b' hb _ _ _ h
    · rename_i hx
      rw [hb _ _ _ h]
      obtain ⟨ex, fr', σ'⟩ := r
      cases ex with
      | normal => exact absurd h (hx _ _)
      | _ => rfl

theorem iter_mono {n m : Nat} (h : n ≤ m) : Loops.le (iter n) (iter m) := by
  intro b b' hb fr s r e
  exact iter_same h b' _ _ _ (iter_body n b b' hb _ _ _ e)

/-- The limit. -/
noncomputable def D (X : Ctx) : Caller := fun f args σ =>
  open Classical in if h : ∃ r, ∃ n, callV X n f args σ = some r then some h.choose else none

noncomputable def Lw : Loops := fun b fr σ =>
  open Classical in if h : ∃ r, ∃ n, iter n b fr σ = some r then some h.choose else none

theorem D_of {n : Nat} : Caller.le (callV X n) (D X) := by
  intro f args σ r h
  have h' : ∃ r, ∃ n, callV X n f args σ = some r := ⟨r, n, h⟩
  unfold D
  rw [dif_pos h']
  obtain ⟨m, hm⟩ := h'.choose_spec
  have h1 := callV_mono (Nat.le_max_left n m) _ _ _ _ h
  have h2 := callV_mono (Nat.le_max_right n m) _ _ _ _ hm
  rw [h1] at h2
  exact h2.symm

theorem D_fuel {f : AV} {args : List AV} {σ : AS} {r : CRes} (h : D X f args σ = some r) : ∃ n, callV X n f args σ = some r := by
  unfold D at h
  split at h
  · rename_i hx
    obtain ⟨m, hm⟩ := hx.choose_spec
    exact ⟨m, by rw [hm]; exact h⟩
  · cases h

theorem Lw_of {n : Nat} {b : Fr → AS → Res} : bodyLe (iter n b) (Lw b) := by
  intro fr σ r h
  have h' : ∃ r, ∃ n, iter n b fr σ = some r := ⟨r, n, h⟩
  unfold Lw
  rw [dif_pos h']
  obtain ⟨m, hm⟩ := h'.choose_spec
  have h1 := iter_same (Nat.le_max_left n m) b _ _ _ h
  have h2 := iter_same (Nat.le_max_right n m) b _ _ _ hm
  rw [h1] at h2
  exact h2.symm

theorem Lw_fuel {b : Fr → AS → Res} {fr : Fr} {σ : AS} {r : Ex × Fr × AS} (h : Lw b fr σ = some r) : ∃ n, iter n b fr σ = some r := by
  unfold Lw at h
  split at h
  · rename_i hx
    obtain ⟨m, hm⟩ := hx.choose_spec
    exact ⟨m, by rw [hm]; exact h⟩
  · cases h

theorem Lw_eq (b : Fr → AS → Res) (fr : Fr) (σ : AS) : Lw b fr σ = match b fr σ with
    | some (.normal, fr', σ') => Lw b fr' σ'
    | r => r := by
  split
  · rename_i fr' σ' hb
    cases hq : Lw b fr' σ' with
    | none =>
      cases hr : Lw b fr σ with
      | none => rfl
      | some r =>
        obtain ⟨n, hn⟩ := Lw_fuel hr
        cases n with
        | zero => simp [iter] at hn
        | succ n => rw [iter, hb] at hn; rw [Lw_of _ _ _ hn] at hq; cases hq
    | some r =>
      obtain ⟨n, hn⟩ := Lw_fuel hq
      exact Lw_of (n := n + 1) _ _ _ (by rw [iter, hb]; exact hn)
  · rename_i r hx
    cases hb : b fr σ with
    | none =>
      cases hr : Lw b fr σ with
      | none => rfl
      | some r =>
        obtain ⟨n, hn⟩ := Lw_fuel hr
        cases n with
        | zero => simp [iter] at hn
        | succ n => rw [iter, hb] at hn; cases hn
    | some q =>
      refine Lw_of (n := 1) _ _ _ ?_
      rw [iter, hb]
      obtain ⟨ex, fr', σ'⟩ := q
      cases ex with
      | normal => exact absurd hb (hx _ _)
      | _ => rfl

/-! Continuity. -/

theorem exec_cont {i : I} {e : Env} {σ : AS} {r : Out} (h : exec X (D X) i e σ = some r) : ∃ n, exec X (callV X n) i e σ = some r := by
  cases i with
  | call f args =>
    simp only [exec] at h ⊢
    split at h
    · rename_i hc; obtain ⟨n, hn⟩ := D_fuel hc; exact ⟨n, by rw [hn]; exact h⟩
    · rename_i hc; obtain ⟨n, hn⟩ := D_fuel hc; exact ⟨n, by rw [hn]; exact h⟩
    · cases h
  | _ => exact ⟨0, by simpa only [exec] using h⟩

theorem runOps_cont : ∀ (os : List Ins) (fr : Fr) (σ : AS) (r : Ex × Fr × AS), runOps X (D X) os fr σ = some r → ∃ n, runOps X (callV X n) os fr σ = some r
  | [], _, _, _, h => ⟨0, by simpa only [runOps] using h⟩
  | o :: os, fr, σ, r, h => by
    simp only [runOps] at h ⊢
    split at h
    · rename_i hw
      simp only [hw, if_true]
      split at h
      · rename_i hx
        obtain ⟨n, hn⟩ := exec_cont hx
        obtain ⟨m, hm⟩ := runOps_cont os _ _ _ h
        refine ⟨max n m, ?_⟩
        rw [exec_mono (callV_mono (Nat.le_max_left n m)) _ _ _ _ hn]
        exact runOps_mono (callV_mono (Nat.le_max_right n m)) _ _ _ _ hm
      · rename_i hx
        obtain ⟨n, hn⟩ := exec_cont hx
        exact ⟨n, by rw [hn]; exact h⟩
      · cases h
    · rename_i hw
      obtain ⟨m, hm⟩ := runOps_cont os _ _ _ h
      exact ⟨m, by rw [if_neg hw]; exact hm⟩

theorem runOpsD_cont : ∀ (os : List (Ins × List Nat)) (fps : List FP) (fr : Fr) (σ : AS) (r : Ex × Fr × AS), runOpsD X (D X) fps os fr σ = some r → ∃ n, runOpsD X (callV X n) fps os fr σ = some r
  | [], _, _, _, _, h => ⟨0, by simpa only [runOpsD] using h⟩
  | o :: os, fps, fr, σ, r, h => by
    simp only [runOpsD] at h ⊢
    split at h
    · rename_i hw
      simp only [hw, if_true]
      split at h
      · rename_i hx
        obtain ⟨n, hn⟩ := exec_cont hx
        split at h
        · rename_i ha
          obtain ⟨m, hm⟩ := runOpsD_cont os _ _ _ _ h
          refine ⟨max n m, ?_⟩
          rw [exec_mono (callV_mono (Nat.le_max_left n m)) _ _ _ _ hn]
          simp only
          rw [if_pos ha]
          exact runOpsD_mono (callV_mono (Nat.le_max_right n m)) _ _ _ _ _ hm
        · cases h
      · cases h
    · rename_i hw
      obtain ⟨m, hm⟩ := runOpsD_cont os _ _ _ _ h
      exact ⟨m, by rw [if_neg hw]; exact hm⟩

theorem RC_mono {n m : Nat} (h : n ≤ m) (fid : FuncId) (rd : Bool) (pc : PC) : bodyLe (runCode X (callV X n) (iter n) fid rd pc) (runCode X (callV X m) (iter m) fid rd pc) :=
  runCode_mono (callV_mono h) (iter_mono h) fid rd pc

theorem runCode_cont (fid : FuncId) (rd : Bool) : ∀ (pc : PC) (fr : Fr) (σ : AS) (r : Ex × Fr × AS), runCode X (D X) Lw fid rd pc fr σ = some r → ∃ n, runCode X (callV X n) (iter n) fid rd pc fr σ = some r
  | .skip, _, _, _, h => ⟨0, by simpa only [runCode] using h⟩
  | .seq a b, fr, σ, r, h => by
    simp only [runCode] at h
    split at h
    · rename_i hx
      obtain ⟨n, hn⟩ := runCode_cont fid rd a _ _ _ hx
      obtain ⟨m, hm⟩ := runCode_cont fid rd b _ _ _ h
      refine ⟨max n m, ?_⟩
      simp only [runCode]
      rw [RC_mono (Nat.le_max_left n m) _ _ _ _ _ _ hn]
      exact RC_mono (Nat.le_max_right n m) _ _ _ _ _ _ hm
    · rename_i hx
      obtain ⟨n, hn⟩ := runCode_cont fid rd a _ _ _ h
      refine ⟨n, ?_⟩
      simp only [runCode]
      rw [hn]
      obtain ⟨ex, fr', σ'⟩ := r
      cases ex with
      | normal => exact absurd h (hx _ _)
      | _ => rfl
  | .cond c a b, fr, σ, r, h => by
    simp only [runCode] at h
    split at h
    · rename_i t hc
      split at h
      · rename_i ht
        obtain ⟨n, hn⟩ := runCode_cont fid rd a _ _ _ h
        exact ⟨n, by simp only [runCode, hc, ht, if_true]; exact hn⟩
      · rename_i ht
        obtain ⟨n, hn⟩ := runCode_cont fid rd b _ _ _ h
        exact ⟨n, by simp only [runCode, hc, if_neg ht]; exact hn⟩
    · cases h
  | .block id body, fr, σ, r, h => by
    simp only [runCode] at h
    cases hr : runCode X (D X) Lw fid rd body fr σ with
    | none => rw [hr] at h; cases h
    | some q =>
      obtain ⟨n, hn⟩ := runCode_cont fid rd body _ _ _ hr
      refine ⟨n, ?_⟩
      simp only [runCode]
      rw [hn]; rw [hr] at h; exact h
  | .loop body, fr, σ, r, h => by
    simp only [runCode] at h
    obtain ⟨k, hk⟩ := Lw_fuel h
    have key : ∀ k fr, ∀ σ, iter k (runCode X (D X) Lw fid rd body) fr σ = some r → ∃ n, iter n (runCode X (callV X n) (iter n) fid rd body) fr σ = some r := by
      intro k
      induction k with
      | zero => intro fr σ h; simp [iter] at h
      | succ k ih =>
        intro fr σ h
        rw [iter] at h
        split at h
        · rename_i hx
          obtain ⟨n, hn⟩ := runCode_cont fid rd body _ _ _ hx
          obtain ⟨m, hm⟩ := ih _ _ h
          refine ⟨max n m + 1, ?_⟩
          rw [iter]
          rw [RC_mono (show n ≤ max n m + 1 by omega) _ _ _ _ _ _ hn]
          exact iter_mono (show m ≤ max n m by omega) _ _ (RC_mono (show m ≤ max n m + 1 by omega) _ _ _) _ _ _ hm
        · rename_i hx
          obtain ⟨n, hn⟩ := runCode_cont fid rd body _ _ _ h
          refine ⟨n + 1, ?_⟩
          rw [iter, RC_mono (Nat.le_succ n) _ _ _ _ _ _ hn]
          obtain ⟨ex, fr', σ'⟩ := r
          cases ex with
          | normal => exact absurd h (hx _ _)
          | _ => rfl
    obtain ⟨n, hn⟩ := key k fr σ hk
    exact ⟨n, by simp only [runCode]; exact hn⟩
  | .exit id, _, _, _, h => ⟨0, by simpa only [runCode] using h⟩
  | .ret, _, _, _, h => ⟨0, by simpa only [runCode] using h⟩
  | .reg ops, fr, σ, r, h => by
    simp only [runCode] at h
    obtain ⟨n, hn⟩ := runOps_cont _ _ _ _ h
    exact ⟨n, by simp only [runCode]; exact hn⟩
  | .dreg ops, fr, σ, r, h => by
    simp only [runCode] at h
    obtain ⟨n, hn⟩ := runOpsD_cont _ _ _ _ _ h
    exact ⟨n, by simp only [runCode]; exact hn⟩
  | .rfun g ps as bd, fr, σ, r, h => by
    simp only [runCode] at h
    split at h
    · cases h
    · rename_i hrd
      split at h
      · rename_i hi
        split at h
        · rename_i hx
          obtain ⟨n, hn⟩ := D_fuel hx
          exact ⟨n, by simp only [runCode]; rw [if_neg hrd, if_pos hi, hn]; exact h⟩
        · rename_i hx
          obtain ⟨n, hn⟩ := D_fuel hx
          exact ⟨n, by simp only [runCode]; rw [if_neg hrd, if_pos hi, hn]; exact h⟩
        · cases h
      · cases h

theorem runRound_cont {l : Nat} {args : List AV} {σ : AS} {r : CRes} (h : runRound X (D X) Lw l args σ = some r) : ∃ n, runRound X (callV X n) (iter n) l args σ = some r := by
  simp only [runRound] at h ⊢
  split at h
  · rename_i st pend f env ps as bd hl
    split at h
    · rename_i hlen
      simp only [hlen, if_true]
      split at h
      · rename_i fr σ₁ hx
        obtain ⟨n, hn⟩ := runCode_cont _ _ _ _ _ _ hx
        split at h
        · rename_i pend' f' env' ps' as' bd' hl'
          cases hq : runCode X (D X) Lw f true bd fr (σ₁.set l (.loop .busy pend' f' env' ps' as' bd') 0) with
          | none => rw [hq] at h; simp only [endRound] at h; cases h
          | some q =>
            obtain ⟨m, hm⟩ := runCode_cont _ _ _ _ _ _ hq
            refine ⟨max n m, ?_⟩
            have e1 := RC_mono (Nat.le_max_left n m) _ _ _ _ _ _ hn
            have e2 := RC_mono (Nat.le_max_right n m) _ _ _ _ _ _ hm
            rw [e1]
            simp only [hl']
            rw [e2]; rw [hq] at h; exact h
        · cases h
      · cases h
    · cases h
  · cases h

theorem D_step {v : AV} {args : List AV} {σ : AS} {r : CRes} (h : step X (D X) Lw v args σ = some r) : D X v args σ = some r := by
  have key : ∃ n, step X (callV X n) (iter n) v args σ = some r := by
    unfold step at h ⊢
    split at h
    · rename_i f first cap
      split at h
      · rename_i hp; exact ⟨0, h⟩
      · rename_i hp
        split at h
        · rename_i pf hc
          split at h
          · rename_i hlen
            cases hq : runCode X (D X) Lw f false pf.body { env := envOf (first ++ args ++ cap), marks := [] } { σ with lo := none } with
            | none => rw [hq] at h; simp only [leave] at h; cases h
            | some q =>
              obtain ⟨n, hn⟩ := runCode_cont _ _ _ _ _ _ hq
              refine ⟨n, ?_⟩
              rw [if_pos hlen, hn]; rw [hq] at h; exact h
          · cases h
        · cases h
    · exact runRound_cont h
    · cases h
  obtain ⟨n, hn⟩ := key
  exact D_of (n := n + 1) _ _ _ _ (by rw [callV]; exact hn)

/-- The limit is sound. -/
theorem D_sound (hg : GlobOk X B w₀) (hX : CodeOk P X) (hP : ∀ f p, X.prim f = some p → PrimOk P B w₀ f p) : CallOk P B w₀ (D X) := by
  intro fv args σ cr h
  obtain ⟨n, hn⟩ := D_fuel h
  exact callV_sound hg hX hP n fv args σ cr hn

end Go.Den

/- Den: what is still to come of a run, as a proposition: rules for rewriting. -/
namespace Go.Den
open Go

abbrev Post := Ex → Fr → AS → Prop

variable (X : Ctx)

def wp (f : FuncId) (rd : Bool) (pc : PC) (fr : Fr) (σ : AS) (Q : Post) : Prop :=
  ∃ ex fr' σ', runCode X (D X) Lw f rd pc fr σ = some (ex, fr', σ') ∧ Q ex fr' σ'

def wpO (os : List Ins) (fr : Fr) (σ : AS) (Q : Post) : Prop :=
  ∃ ex fr' σ', runOps X (D X) os fr σ = some (ex, fr', σ') ∧ Q ex fr' σ'

def wpD (fps : List FP) (os : List (Ins × List Nat)) (fr : Fr) (σ : AS) (Q : Post) : Prop :=
  ∃ ex fr' σ', runOpsD X (D X) fps os fr σ = some (ex, fr', σ') ∧ Q ex fr' σ'

def outK (K Kp : AV → AS → Prop) : Option Out → Prop
  | some (.ok v σ) => K v σ
  | some (.panic v σ) => Kp v σ
  | none => False

def wpI (i : I) (e : Env) (σ : AS) (K Kp : AV → AS → Prop) : Prop := outK K Kp (exec X (D X) i e σ)

def seqK (f : FuncId) (rd : Bool) (b : PC) (Q : Post) : Post
  | .normal, fr, σ => wp X f rd b fr σ Q
  | ex, fr, σ => Q ex fr σ

def blkK (id : Nat) (Q : Post) : Post
  | .exit i, fr, σ => if i = id then Q .normal fr σ else Q (.exit i) fr σ
  | ex, fr, σ => Q ex fr σ

def callK (K Kp : AV → AS → Prop) : Option CRes → Prop
  | some (.ret v σ) => K v σ
  | some (.panic v σ) => Kp v σ
  | none => False

def retK (n : Nat) (lo : Option Nat) (res : List RV) (R : CRes → Prop) : Post
  | .normal, fr, σ | .ret, fr, σ => ∃ σ₁ v, killMarks σ fr.marks = some σ₁ ∧ resultsA X σ₁ fr.env res = some v ∧ R (.ret (finish n lo v σ₁).1 (finish n lo v σ₁).2)
  | .panic v, fr, σ => ∃ σ₁, killMarks σ fr.marks = some σ₁ ∧ R (.panic (finish n lo v σ₁).1 (finish n lo v σ₁).2)
  | .exit _, _, _ => False

def guardK (c : AV) (b : Bool) (A B : Prop) : Prop :=
  match c with
  | .bool t => (t = b → A) ∧ (t = (!b) → B)
  | _ => False

variable {X} {f : FuncId} {rd : Bool} {fr : Fr} {σ : AS} {Q : Post} {e : Env} {ms : List Nat} {K Kp : AV → AS → Prop}

theorem ex_some {a : Ex} {b : Fr} {c : AS} : (∃ ex fr' σ', (some (a, b, c) : Res) = some (ex, fr', σ') ∧ Q ex fr' σ') ↔ Q a b c :=
  ⟨fun ⟨_, _, _, h, q⟩ => by cases h; exact q, fun q => ⟨_, _, _, rfl, q⟩⟩

def guardO (c : AV) (b : Bool) (A B C : Prop) : Prop :=
  match c with
  | .bool t => (t = b → A) ∧ (t = (!b) → B)
  | _ => C

/-! Code. -/

theorem wp_skip : wp X f rd .skip fr σ Q = Q .normal fr σ := propext (by simp only [wp, runCode]; exact ex_some)
theorem wp_exit {id : Nat} : wp X f rd (.exit id) fr σ Q = Q (.exit id) fr σ := propext (by simp only [wp, runCode]; exact ex_some)
theorem wp_ret : wp X f rd .ret fr σ Q = Q .ret fr σ := propext (by simp only [wp, runCode]; exact ex_some)
theorem wp_seq {a b : PC} : wp X f rd (.seq a b) fr σ Q = wp X f rd a fr σ (seqK X f rd b Q) := by
  apply propext
  simp only [wp, runCode]
  constructor
  · rintro ⟨ex, fr', σ', h, hq⟩
    split at h
    · rename_i fr₁ σ₁ hx
      exact ⟨_, _, _, hx, ex, fr', σ', h, hq⟩
    · rename_i hx
      refine ⟨_, _, _, h, ?_⟩
      cases ex with
      | normal => exact absurd h (hx _ _)
      | _ => exact hq
  · rintro ⟨ex, fr', σ', h, hq⟩
    rw [h]
    cases ex with
    | normal => exact hq
    | exit _ => exact ⟨_, _, _, rfl, hq⟩
    | ret => exact ⟨_, _, _, rfl, hq⟩
    | panic _ => exact ⟨_, _, _, rfl, hq⟩
theorem wp_block {id : Nat} {b : PC} : wp X f rd (.block id b) fr σ Q = wp X f rd b fr σ (blkK id Q) := by
  apply propext
  simp only [wp, runCode]
  constructor
  · rintro ⟨ex, fr', σ', h, hq⟩
    split at h
    · rename_i id' fr₁ σ₁ hx
      refine ⟨_, _, _, hx, ?_⟩
      simp only [blkK]
      split at h <;> rename_i hi <;> simp only [Option.some.injEq, Prod.mk.injEq] at h <;> obtain ⟨rfl, rfl, rfl⟩ := h
      · rw [if_pos hi]; exact hq
      · rw [if_neg hi]; exact hq
    · rename_i hx
      refine ⟨_, _, _, h, ?_⟩
      cases ex with
      | exit i => exact absurd h (hx _ _ _)
      | _ => exact hq
  · rintro ⟨ex, fr', σ', h, hq⟩
    rw [h]
    cases ex with
    | normal => exact ⟨_, _, _, rfl, hq⟩
    | exit i =>
      simp only [blkK] at hq
      by_cases hi : i = id
      · rw [if_pos hi] at hq; exact ⟨_, _, _, by simp only [hi, if_true], hq⟩
      · rw [if_neg hi] at hq; exact ⟨_, _, _, by simp only [if_neg hi], hq⟩
    | ret => exact ⟨_, _, _, rfl, hq⟩
    | panic _ => exact ⟨_, _, _, rfl, hq⟩
theorem wp_cond {c : Opd} {a b : PC} : wp X f rd (.cond c a b) fr σ Q = guardK (c.get fr.env) true (wp X f rd a fr σ Q) (wp X f rd b fr σ Q) := by
  apply propext
  simp only [wp, runCode, guardK]
  constructor
  · rintro ⟨ex, fr', σ', h, hq⟩
    split at h
    · rename_i t ht
      rw [ht]
      refine ⟨fun h' => ?_, fun h' => ?_⟩ <;> subst h' <;> simp at h <;> exact ⟨_, _, _, h, hq⟩
    · cases h
  · intro h
    cases hc : c.get fr.env <;> rw [hc] at h <;> simp only at h <;> try exact h.elim
    rename_i t
    cases t
    · simpa using h.2 rfl
    · simpa using h.1 rfl
theorem wp_reg {os : List Ins} : wp X f rd (.reg os) fr σ Q = wpO X os fr σ Q := by simp only [wp, wpO, runCode]
theorem wp_dreg {os : List (Ins × List Nat)} : wp X f rd (.dreg os) fr σ Q = wpD X [] os fr σ Q := by simp only [wp, wpD, runCode]

/-- A loop: an invariant with a measure. -/
theorem wp_loop {S : Type} (I : S → Fr → AS → Prop) (μ : S → Nat) (s : S) {b : PC} (h0 : I s fr σ)
    (hb : ∀ s fr σ, I s fr σ → wp X f rd b fr σ (fun ex fr' σ' => match ex with | .normal => ∃ s', μ s' < μ s ∧ I s' fr' σ' | ex => Q ex fr' σ')) : wp X f rd (.loop b) fr σ Q := by
  have key : ∀ n s fr σ, μ s < n → I s fr σ → ∃ ex fr' σ', Lw (runCode X (D X) Lw f rd b) fr σ = some (ex, fr', σ') ∧ Q ex fr' σ' := by
    intro n
    induction n with
    | zero => intro s fr σ hn; omega
    | succ n ih =>
      intro s fr σ hn hi
      obtain ⟨ex, fr', σ', hr, hq⟩ := hb s fr σ hi
      rw [Lw_eq, hr]
      cases ex with
      | normal =>
        obtain ⟨s', hs, hi'⟩ := hq
        exact ih s' fr' σ' (by omega) hi'
      | exit _ => exact ⟨_, _, _, rfl, hq⟩
      | ret => exact ⟨_, _, _, rfl, hq⟩
      | panic _ => exact ⟨_, _, _, rfl, hq⟩
  obtain ⟨ex, fr', σ', hr, hq⟩ := key _ s fr σ (Nat.lt_succ_self _) h0
  exact ⟨ex, fr', σ', by simp only [runCode]; exact hr, hq⟩

theorem wp_mono {pc : PC} {Q' : Post} (h : wp X f rd pc fr σ Q) (hq : ∀ ex fr σ, Q ex fr σ → Q' ex fr σ) : wp X f rd pc fr σ Q' := by
  obtain ⟨ex, fr', σ', hr, hq'⟩ := h
  exact ⟨ex, fr', σ', hr, hq _ _ _ hq'⟩

theorem wpO_mono {os : List Ins} {Q' : Post} (h : wpO X os fr σ Q) (hq : ∀ ex fr σ, Q ex fr σ → Q' ex fr σ) : wpO X os fr σ Q' := by
  obtain ⟨ex, fr', σ', hr, hq'⟩ := h
  exact ⟨ex, fr', σ', hr, hq _ _ _ hq'⟩

theorem seqK_normal {b : PC} : seqK X f rd b Q .normal fr σ = wp X f rd b fr σ Q := rfl
theorem seqK_exit {b : PC} {i : Nat} : seqK X f rd b Q (.exit i) fr σ = Q (.exit i) fr σ := rfl
theorem seqK_ret {b : PC} : seqK X f rd b Q .ret fr σ = Q .ret fr σ := rfl
theorem seqK_panic {b : PC} {v : AV} : seqK X f rd b Q (.panic v) fr σ = Q (.panic v) fr σ := rfl
theorem blkK_normal {id : Nat} : blkK id Q .normal fr σ = Q .normal fr σ := rfl
theorem blkK_exit {id i : Nat} : blkK id Q (.exit i) fr σ = if i = id then Q .normal fr σ else Q (.exit i) fr σ := rfl
theorem blkK_ret {id : Nat} : blkK id Q .ret fr σ = Q .ret fr σ := rfl
theorem blkK_panic {id : Nat} {v : AV} : blkK id Q (.panic v) fr σ = Q (.panic v) fr σ := rfl
theorem retK_normal {n : Nat} {lo : Option Nat} {res : List RV} {R : CRes → Prop} : retK X n lo res R .normal fr σ = ∃ σ₁ v, killMarks σ fr.marks = some σ₁ ∧ resultsA X σ₁ fr.env res = some v ∧ R (.ret (finish n lo v σ₁).1 (finish n lo v σ₁).2) := rfl
theorem retK_ret {n : Nat} {lo : Option Nat} {res : List RV} {R : CRes → Prop} : retK X n lo res R .ret fr σ = ∃ σ₁ v, killMarks σ fr.marks = some σ₁ ∧ resultsA X σ₁ fr.env res = some v ∧ R (.ret (finish n lo v σ₁).1 (finish n lo v σ₁).2) := rfl
theorem guardK_bool {t b : Bool} {A B : Prop} : guardK (.bool t) b A B = ((t = b → A) ∧ (t = (!b) → B)) := rfl
theorem callK_ret {v : AV} : callK K Kp (some (.ret v σ)) = K v σ := rfl
theorem callK_panic {v : AV} : callK K Kp (some (.panic v σ)) = Kp v σ := rfl

/-! Operations. -/

theorem wpO_nil : wpO X [] fr σ Q = Q .normal fr σ := propext (by simp only [wpO, runOps]; exact ex_some)

theorem Fr.put_some {d : Nat} {v : AV} : Fr.put ⟨e, ms⟩ (some d) v = ⟨e.set d v, ms⟩ := rfl
theorem Fr.put_none {v : AV} : Fr.put ⟨e, ms⟩ none v = ⟨e, ms⟩ := rfl

theorem wpO_cons {d : Option Nat} {i : I} {os : List Ins} : wpO X (⟨none, d, i⟩ :: os) fr σ Q = wpI X i fr.env σ (fun v σ' => wpO X os (fr.put d v) σ' Q) (fun v σ' => Q (.panic v) fr σ') := by
  apply propext
  simp only [wpO, wpI, runOps, wantedA, if_true]
  cases hx : exec X (D X) i fr.env σ with
  | none => simp [outK]
  | some o =>
    cases o with
    | ok v σ' => simp only [outK]
    | panic v σ' => simp only [outK]; exact ex_some

theorem Env.set_self {e : Env} {t : Nat} : e.set t (e t) = e := by
  funext x; unfold Env.set; split <;> simp_all

theorem wpO_guard {t : Nat} {b : Bool} {d : Option Nat} {i : I} {os : List Ins} : wpO X (⟨some (t, b), d, i⟩ :: os) ⟨e, ms⟩ σ Q =
    guardO (e t) b (wpI X i (e.set t (.bool b)) σ (fun v σ' => wpO X os (Fr.put ⟨e.set t (.bool b), ms⟩ d v) σ' Q) (fun v σ' => Q (.panic v) ⟨e.set t (.bool b), ms⟩ σ'))
      (wpO X os (Fr.put ⟨e.set t (.bool (!b)), ms⟩ d .undef) σ Q) (wpO X os (Fr.put ⟨e, ms⟩ d .undef) σ Q) := by
  cases hc : e t with
  | bool c =>
    have h1 : c = b → wpO X (⟨some (t, b), d, i⟩ :: os) ⟨e, ms⟩ σ Q = wpO X (⟨none, d, i⟩ :: os) ⟨e, ms⟩ σ Q := by
      intro h; subst h
      simp only [wpO, runOps, wantedA, hc, beq_self_eq_true, if_true]
    have h2 : c = (!b) → wpO X (⟨some (t, b), d, i⟩ :: os) ⟨e, ms⟩ σ Q = wpO X os (Fr.put ⟨e, ms⟩ d .undef) σ Q := by
      intro h; subst h
      have : ((!b) == b) = false := by cases b <;> rfl
      simp only [wpO, runOps, wantedA, hc, this, Bool.false_eq_true, if_false]
    have h3 : e.set t (.bool c) = e := by rw [← hc]; exact Env.set_self
    apply propext
    simp only [guardO]
    by_cases hb : c = b
    · have hn : ¬ c = (!b) := by subst hb; cases c <;> simp
      rw [h1 hb, wpO_cons]
      subst hb
      rw [h3]
      exact ⟨fun h => ⟨fun _ => h, fun h' => absurd h' hn⟩, fun h => h.1 rfl⟩
    · have hb' : c = (!b) := by cases c <;> cases b <;> simp_all
      rw [h2 hb', ← hb', h3]
      exact ⟨fun h => ⟨fun h' => absurd h' hb, fun _ => h⟩, fun h => h.2 rfl⟩
  | _ => simp only [wpO, runOps, wantedA, hc, guardO, Bool.false_eq_true, if_false]

/-! A function. -/

theorem D_code {f : FuncId} {pf : PF} {first cap args : List AV} {H : List AObj} {lo : Option Nat} {R : CRes → Prop} (hp : X.prim f = none) (hc : X.code f = some pf) (hl : (first ++ args ++ cap).length ≤ pf.ntmps)
    (h : wp X f false pf.body ⟨envOf (first ++ args ++ cap), []⟩ ⟨H, none⟩ (retK X H.length lo pf.results R)) : ∃ cr, D X (.fn (.func f) first cap) args ⟨H, lo⟩ = some cr ∧ R cr := by
  obtain ⟨ex, fr, σ, hr, hq⟩ := h
  have key : ∀ cr, leave X H.length lo pf (some (ex, fr, σ)) = some cr → D X (.fn (.func f) first cap) args ⟨H, lo⟩ = some cr := by
    intro cr hcr
    refine D_step ?_
    simp only [step, hp, hc]
    rw [if_pos hl, hr, hcr]
  cases ex with
  | normal => obtain ⟨σ₁, v, h1, h2, h3⟩ := hq; exact ⟨_, key _ (by simp only [leave, leaveRet, h1, h2]), h3⟩
  | ret => obtain ⟨σ₁, v, h1, h2, h3⟩ := hq; exact ⟨_, key _ (by simp only [leave, leaveRet, h1, h2]), h3⟩
  | panic v => obtain ⟨σ₁, h1, h3⟩ := hq; exact ⟨_, key _ (by simp only [leave, h1]), h3⟩
  | exit _ => exact hq.elim

/-- A function that answers, and what it leaves. -/
theorem D_ret {f : FuncId} {pf : PF} {first cap args : List AV} {H : List AObj} {lo : Option Nat} {cr : CRes} (hp : X.prim f = none) (hc : X.code f = some pf) (hl : (first ++ args ++ cap).length ≤ pf.ntmps)
    (h : wp X f false pf.body ⟨envOf (first ++ args ++ cap), []⟩ ⟨H, none⟩ (retK X H.length lo pf.results (· = cr))) : D X (.fn (.func f) first cap) args ⟨H, lo⟩ = some cr := by
  obtain ⟨_, h1, rfl⟩ := D_code hp hc hl h
  exact h1

end Go.Den

/- Den: the rules as bundles for rewriting. -/
namespace Go.Den
open Go

section
variable {X : Ctx} {f : FuncId} {rd : Bool} {fr : Fr} {σ : AS} {Q : Post} {e : Env} {ms : List Nat} {K Kp : AV → AS → Prop}

def okK {α : Type} (r : Option α) (K : α → Prop) : Prop :=
  match r with
  | some a => K a
  | none => False

theorem okK_some {α : Type} {a : α} {K : α → Prop} : okK (some a) K = K a := rfl
theorem okK_ite {α : Type} {c : Prop} [Decidable c] {v : Option α} {K : α → Prop} : okK (if c then v else none) K = (c ∧ okK v K) := by
  split <;> simp [*, okK]
theorem okK_ite2 {α : Type} {c : Prop} [Decidable c] {v v' : Option α} {K : α → Prop} : okK (if c then v else v') K = ((c → okK v K) ∧ (¬ c → okK v' K)) := by
  split <;> simp [*, okK]

theorem wpI_call {g : Opd} {as : List Opd} : wpI X (.call g as) e σ K Kp = callK K Kp (D X (g.get e) (as.map (·.get e)) σ) := by
  simp only [wpI, exec]
  cases D X (g.get e) (as.map (·.get e)) σ with
  | none => rfl
  | some r => cases r <;> rfl


theorem outK_okv {r : Option AV} : outK K Kp (okv σ r) = okK r (fun v => K v σ) := by cases r <;> rfl

def shfA (op : BinOp) (x y : AV) : Option AV := match x, y with
  | .int k a, .int _ b => shiftA op k a b
  | _, _ => none
def usdA : AV → Option AV
  | .nils => some .nilp
  | .ref id ver sz off len _ => if 0 < len ∧ sz = 1 then some (.rptr id ver off 0) else none
  | _ => none
def ustrA (σ : AS) (ty : TypeId) (p n : AV) : Option (AV × AS) := match p, n with
  | .nilp, .int _ n => if n = 0 then some (.str .empty, σ) else none
  | .rptr id ver i 0, .int _ n => match σ.heap[id]? with
    | some (.row v 1 ty' els) =>
      if v = ver ∧ ty' = ty ∧ 0 < n ∧ i + n ≤ els.length ∧ n ≤ room then
        match stringA ((els.drop i).take n.toNat) with
        | some l => some (.str ⟨l.toArray⟩, σ.set id .dead 0)
        | none => none
      else none
    | _ => none
  | _, _ => none
def nxtA (σ : AS) (x : AV) : Option (AV × AS) := match x with
  | .ptr id 0 => match σ.heap[id]? with
    | some (.siter s pos) =>
      if pos < s.size then
        some (.tup [.bool true, .int .i64 pos, .int .i32 (Utf8.decode s pos).1], σ.set id (.siter s (pos + (Utf8.decode s pos).2)) 0)
      else some (.tup [.bool false], σ)
    | _ => none
  | _ => none

theorem wpI_mov {x : Opd} : wpI X (.mov x) e σ K Kp = (K (x.get e) σ) := by
  rfl
theorem wpI_pick {c : Opd} {a : Opd} {b : Opd} : wpI X (.pick c a b) e σ K Kp = (okK (match c.get e with | .bool t => some t | _ => none) fun t => K (if t then a.get e else b.get e) σ) := by
  simp only [wpI, exec]
  cases c.get e <;> rfl
theorem wpI_alloc {z : List AV} {tg : Option TypeId} : wpI X (.alloc z tg) e σ K Kp = (K (.ptr σ.heap.length 0) (σ.push (.box z tg))) := by
  rfl
theorem wpI_box {x : Opd} : wpI X (.box x) e σ K Kp = (((x.get e).isTup = false ∧ K (.ptr σ.heap.length 0) (σ.push (.box (x.get e).cells none)))) := by
  simp only [wpI, exec]
  cases h : (x.get e).isTup <;> simp [outK]
theorem wpI_build {z : List AV} {parts : List (Nat × Nat × Opd)} : wpI X (.build z parts) e σ K Kp = (okK (fillA z (parts.map fun p => (p.1, p.2.1, p.2.2.get e))) fun cs => K (.agg cs) σ) := by
  simp only [wpI, exec]
  cases fillA z (parts.map fun p => (p.1, p.2.1, p.2.2.get e)) <;> rfl
theorem wpI_bslice {z : List AV} {len : Nat} {parts : List (Nat × Nat × Opd)} : wpI X (.bslice z len parts) e σ K Kp = (okK (fillA (List.replicate len z).flatten (parts.map fun p => (p.1, p.2.1, p.2.2.get e))) fun cs => K (.sl (chunks z.length len cs) true) σ) := by
  simp only [wpI, exec]
  cases fillA (List.replicate len z).flatten (parts.map fun p => (p.1, p.2.1, p.2.2.get e)) <;> rfl
theorem wpI_brow {ty : TypeId} {z : List AV} {len : Nat} {parts : List (Nat × Nat × Opd)} : wpI X (.brow ty z len parts) e σ K Kp = (okK (fillA (List.replicate len z).flatten (parts.map fun p => (p.1, p.2.1, p.2.2.get e))) fun cs => K (.ref σ.heap.length 0 z.length 0 len false) (σ.push (.row 0 z.length ty (chunks z.length len cs)))) := by
  simp only [wpI, exec]
  cases fillA (List.replicate len z).flatten (parts.map fun p => (p.1, p.2.1, p.2.2.get e)) <;> rfl
theorem wpI_load {agg : Bool} {n : Nat} {a : Opd} : wpI X (.load agg n a) e σ K Kp = (okK (loadA X σ agg n (a.get e)) fun v => K v σ) := by
  simp only [wpI, exec, outK_okv]
theorem wpI_store {n : Nat} {a : Opd} {v : Opd} : wpI X (.store n a v) e σ K Kp = (okK (storeA σ n (a.get e) (v.get e)) fun σ' => K .undef σ') := by
  simp only [wpI, exec]
  cases storeA σ n (a.get e) (v.get e) <;> rfl
theorem wpI_nilck {x : Opd} : wpI X (.nilck x) e σ K Kp = (okK (nilckA (x.get e)) fun v => K v σ) := by
  simp only [wpI, exec, outK_okv]
theorem wpI_bin {op : BinOp} {x : Opd} {y : Opd} : wpI X (.bin op x y) e σ K Kp = (okK (binA op (x.get e) (y.get e)) fun v => K v σ) := by
  simp only [wpI, exec, outK_okv]
theorem wpI_shf {op : BinOp} {x : Opd} {y : Opd} : wpI X (.shf op x y) e σ K Kp = (okK (shfA op (x.get e) (y.get e)) fun v => K v σ) := by
  simp only [wpI, exec, shfA]
  cases x.get e <;> first | rfl | (cases y.get e <;> first | rfl | exact outK_okv)
theorem wpI_eq {k : EK} {x : Opd} {y : Opd} : wpI X (.eq k x y) e σ K Kp = (okK (eqA k (x.get e) (y.get e)) fun b => K (.bool b) σ) := by
  simp only [wpI, exec]
  cases eqA k (x.get e) (y.get e) <;> rfl
theorem wpI_ne {k : EK} {x : Opd} {y : Opd} : wpI X (.ne k x y) e σ K Kp = (okK (eqA k (x.get e) (y.get e)) fun b => K (.bool !b) σ) := by
  simp only [wpI, exec]
  cases eqA k (x.get e) (y.get e) <;> rfl
theorem wpI_un {op : UnOp} {x : Opd} : wpI X (.un op x) e σ K Kp = (okK (unA op (x.get e)) fun v => K v σ) := by
  simp only [wpI, exec, outK_okv]
theorem wpI_conv {k : IntKind} {x : Opd} : wpI X (.conv k x) e σ K Kp = (okK (intOf? (x.get e)) fun n => K (.int k (k.wrap n)) σ) := by
  simp only [wpI, exec]
  cases x.get e <;> rfl
theorem wpI_convs {x : Opd} : wpI X (.convs x) e σ K Kp = (okK (match x.get e with | .str s => some s | _ => none) fun s => K (.str s) σ) := by
  simp only [wpI, exec]
  cases x.get e <;> rfl
theorem wpI_s2b {x : Opd} : wpI X (.s2b x) e σ K Kp = (okK (match x.get e with | .str s => if s.size ≤ room then some s else none | _ => none) fun s => K (.sl (bytesA s) false) σ) := by
  simp only [wpI, exec]
  cases x.get e <;> first | rfl | (simp only []; split <;> rfl)
theorem wpI_b2s {x : Opd} : wpI X (.b2s x) e σ K Kp = (okK (elems σ 1 (x.get e)) fun els => okK (stringA els) fun l => K (.str ⟨l.toArray⟩) σ) := by
  simp only [wpI, exec]
  cases elems σ 1 (x.get e) with
  | none => rfl
  | some els => simp only [okK]; cases stringA els <;> rfl
theorem wpI_mki {t : TypeId} {x : Opd} : wpI X (.mki t x) e σ K Kp = (K (.ifc t (x.get e)) σ) := by
  rfl
theorem wpI_mkf {f : Fn} {first : List Opd} {cap : List Opd} : wpI X (.mkf f first cap) e σ K Kp = (K (.fn f (first.map (·.get e)) (cap.map (·.get e))) σ) := by
  rfl
theorem wpI_mkmap  : wpI X (.mkmap) e σ K Kp = (K (.mp σ.heap.length) (σ.push (.map []))) := by
  rfl
theorem wpI_mkslice {ty : TypeId} {z : List AV} {bytes : Nat} {l : Opd} {c : Opd} : wpI X (.mkslice ty z bytes l c) e σ K Kp = (okK (mksliceA σ ty z bytes (l.get e) (c.get e)) fun p => K p.1 p.2) := by
  simp only [wpI, exec]
  cases mksliceA σ ty z bytes (l.get e) (c.get e) <;> rfl
theorem wpI_slstr {x : Opd} {lo : Option Opd} {hi : Option Opd} : wpI X (.slstr x lo hi) e σ K Kp = (okK (slstrA (x.get e) (lo.map (·.get e)) (hi.map (·.get e))) fun v => K v σ) := by
  simp only [wpI, exec, outK_okv]
theorem wpI_slsl {n : Nat} {x : Opd} {lo : Option Opd} {hi : Option Opd} {mx : Option Opd} : wpI X (.slsl n x lo hi mx) e σ K Kp = (okK (slslA n (x.get e) (lo.map (·.get e)) (hi.map (·.get e)) (mx.map (·.get e))) fun v => K v σ) := by
  simp only [wpI, exec, outK_okv]
theorem wpI_slarr {n : Nat} {sz : Nat} {x : Opd} {lo : Option Opd} {hi : Option Opd} : wpI X (.slarr n sz x lo hi) e σ K Kp = (okK (slarrA X n sz (x.get e) (lo.map (·.get e)) (hi.map (·.get e))) fun v => K v σ) := by
  simp only [wpI, exec, outK_okv]
theorem wpI_faddr {n : Nat} {x : Opd} : wpI X (.faddr n x) e σ K Kp = (okK (faddrA X n (x.get e)) fun v => K v σ) := by
  simp only [wpI, exec, outK_okv]
theorem wpI_fld {agg : Bool} {n : Nat} {off : Nat} {x : Opd} : wpI X (.fld agg n off x) e σ K Kp = (okK (match x.get e with | .agg cs => part agg n cs off | _ => none) fun v => K v σ) := by
  simp only [wpI, exec]
  cases x.get e <;> first | rfl | exact outK_okv
theorem wpI_iaddra {n : Nat} {sz : Nat} {x : Opd} {i : Opd} : wpI X (.iaddra n sz x i) e σ K Kp = (okK (iaddraA X n sz (x.get e) (i.get e)) fun v => K v σ) := by
  simp only [wpI, exec, outK_okv]
theorem wpI_iaddrs {sz : Nat} {x : Opd} {i : Opd} : wpI X (.iaddrs sz x i) e σ K Kp = (okK (iaddrsA sz (x.get e) (i.get e)) fun v => K v σ) := by
  simp only [wpI, exec, outK_okv]
theorem wpI_idxa {agg : Bool} {n : Nat} {sz : Nat} {x : Opd} {i : Opd} : wpI X (.idxa agg n sz x i) e σ K Kp = (okK (idxaA agg n sz (x.get e) (i.get e)) fun v => K v σ) := by
  simp only [wpI, exec, outK_okv]
theorem wpI_idxs {x : Opd} {i : Opd} : wpI X (.idxs x i) e σ K Kp = (okK (idxsA (x.get e) (i.get e)) fun v => K v σ) := by
  simp only [wpI, exec, outK_okv]
theorem wpI_lookup {kk : EK} {z : AV} {m : Opd} {k : Opd} {ok : Bool} : wpI X (.lookup kk z m k ok) e σ K Kp = (okK (lookupA σ kk z (m.get e) (k.get e) ok) fun v => K v σ) := by
  simp only [wpI, exec, outK_okv]
theorem wpI_mput {kk : EK} {m : Opd} {k : Opd} {v : Opd} : wpI X (.mput kk m k v) e σ K Kp = (okK (mputA σ kk (m.get e) (k.get e) (v.get e)) fun σ' => K .undef σ') := by
  simp only [wpI, exec]
  cases mputA σ kk (m.get e) (k.get e) (v.get e) <;> rfl
theorem wpI_tai {x : Opd} {ok : Bool} {yes : List TypeId} : wpI X (.tai x ok yes) e σ K Kp = (okK (taiA yes (x.get e) ok) fun v => K v σ) := by
  simp only [wpI, exec, outK_okv]
theorem wpI_ta {z : AV} {x : Opd} {t : TypeId} {ok : Bool} : wpI X (.ta z x t ok) e σ K Kp = (okK (taA z (x.get e) t ok) fun v => K v σ) := by
  simp only [wpI, exec, outK_okv]
theorem wpI_ext {x : Opd} {i : Nat} : wpI X (.ext x i) e σ K Kp = (okK (match x.get e with | .tup vs => vs[i]? | _ => none) fun v => K v σ) := by
  simp only [wpI, exec]
  cases x.get e <;> first | rfl | exact outK_okv
theorem wpI_len {k : EK} {x : Opd} : wpI X (.len k x) e σ K Kp = (okK (lenA σ k (x.get e)) fun v => K v σ) := by
  simp only [wpI, exec, outK_okv]
theorem wpI_lenarr {n : Nat} : wpI X (.lenarr n) e σ K Kp = (K (.int .i64 n) σ) := by
  rfl
theorem wpI_append {ty : TypeId} {sz : Nat} {bytes : Nat} {s : Opd} {x : Opd} : wpI X (.append ty sz bytes s x) e σ K Kp = (okK (elems σ sz (x.get e)) fun ys => okK (appendA σ ty sz bytes (s.get e) ys) fun p => K p.1 p.2) := by
  simp only [wpI, exec]
  cases elems σ sz (x.get e) with
  | none => rfl
  | some ys => simp only [okK]; cases appendA σ ty sz bytes (s.get e) ys <;> rfl
theorem wpI_appends {ty : TypeId} {s : Opd} {x : Opd} : wpI X (.appends ty s x) e σ K Kp = (okK (match x.get e with | .str b => some b | _ => none) fun b => okK (appendA σ ty 1 1 (s.get e) (bytesA b)) fun p => K p.1 p.2) := by
  simp only [wpI, exec]
  cases x.get e <;> first | rfl | (rename_i b; simp only [okK]; cases appendA σ ty 1 1 (s.get e) (bytesA b) <;> rfl)
theorem wpI_copy {sz : Nat} {d : Opd} {s : Opd} : wpI X (.copy sz d s) e σ K Kp = (okK (copyA σ sz (d.get e) (s.get e)) fun p => K p.1 p.2) := by
  simp only [wpI, exec]
  cases copyA σ sz (d.get e) (s.get e) <;> rfl
theorem wpI_clear {z : List AV} {x : Opd} : wpI X (.clear z x) e σ K Kp = (okK (clearA σ z (x.get e)) fun σ' => K .undef σ') := by
  simp only [wpI, exec]
  cases clearA σ z (x.get e) <;> rfl
theorem wpI_max {xs : List Opd} : wpI X (.max xs) e σ K Kp = (okK (foldA maxA (xs.map (·.get e))) fun v => K v σ) := by
  simp only [wpI, exec, outK_okv]
theorem wpI_min {xs : List Opd} : wpI X (.min xs) e σ K Kp = (okK (foldA minA (xs.map (·.get e))) fun v => K v σ) := by
  simp only [wpI, exec, outK_okv]
theorem wpI_usd {x : Opd} : wpI X (.usd x) e σ K Kp = (okK (usdA (x.get e)) fun v => K v σ) := by
  simp only [wpI, exec, usdA]
  cases x.get e <;> first | rfl | (simp only []; split <;> rfl)
theorem wpI_ustr {ty : TypeId} {p : Opd} {n : Opd} : wpI X (.ustr ty p n) e σ K Kp = (okK (ustrA σ ty (p.get e) (n.get e)) fun p => K p.1 p.2) := by
  simp only [wpI, exec, ustrA]
  cases p.get e with
  | nilp =>
    cases n.get e with
    | int k m => simp only []; split <;> rfl
    | _ => rfl
  | rptr id ver i off =>
    cases off with
    | zero =>
      cases n.get e with
      | int k m =>
        simp only []
        cases σ.heap[id]? with
        | none => rfl
        | some a =>
          cases a with
          | row v sz ty' els =>
            by_cases h1 : sz = 1
            · subst h1
              simp only []
              split
              · cases stringA (List.take m.toNat (List.drop i els)) <;> rfl
              · rfl
            · have : ∀ {α : Type} (A : Nat → TypeId → List (List AV) → α) (B : α), (match (some (AObj.row v sz ty' els) : Option AObj) with | some (.row v 1 ty' els) => A v ty' els | _ => B) = B := by
                intro α A B
                split
                · rename_i h; simp at h; exact absurd h.2.1 h1
                · rfl
              split
              · rename_i h; simp at h; exact absurd h.2.1 h1
              · split
                · rename_i h; simp at h; exact absurd h.2.1 h1
                · rfl
          | _ => rfl
      | _ => rfl
    | succ k => cases n.get e <;> rfl
  | _ => cases n.get e <;> rfl
theorem wpI_rng {x : Opd} : wpI X (.rng x) e σ K Kp = (okK (match x.get e with | .str s => some s | _ => none) fun s => K (.ptr σ.heap.length 0) (σ.push (.siter s 0))) := by
  simp only [wpI, exec]
  cases x.get e <;> rfl
theorem wpI_nxt {x : Opd} : wpI X (.nxt x) e σ K Kp = (okK (nxtA σ (x.get e)) fun p => K p.1 p.2) := by
  simp only [wpI, exec, nxtA]
  cases x.get e with
  | ptr id off =>
    cases off with
    | zero =>
      simp only []
      cases σ.heap[id]? with
      | none => rfl
      | some a =>
        cases a with
        | siter s pos => simp only []; split <;> rfl
        | _ => rfl
    | succ k => rfl
  | _ => rfl
theorem wpI_panic {x : Opd} : wpI X (.panic x) e σ K Kp = (okK (match x.get e with | .ifc t v => some (AV.ifc t v) | _ => none) fun v => Kp v σ) := by
  simp only [wpI, exec]
  cases x.get e <;> rfl
def selB (b : Bool) (v : AV) (e : Env) (t : Nat) : AV := match b with | true => v | false => e t
theorem selB_true {v : AV} {t : Nat} : selB true v e t = v := rfl
theorem selB_false {v : AV} {t : Nat} : selB false v e t = e t := rfl
theorem set_at {d t : Nat} {v : AV} : (e.set d v) t = selB (d == t) v e t := by
  unfold Env.set selB
  by_cases h : d = t
  · subst h; simp
  · have : (d == t) = false := by simpa using h
    rw [this, if_neg (fun e => h e.symm)]

theorem guardO_bool {t b : Bool} {A B C : Prop} : guardO (.bool t) b A B C = ((t = b → A) ∧ (t = (!b) → B)) := rfl
theorem guardO_undef {b : Bool} {A B C : Prop} : guardO (.tup []) b A B C = C := rfl



theorem dec_true {p : Prop} [Decidable p] : (decide p = true) = p := by simp
theorem dec_false {p : Prop} [Decidable p] : (decide p = false) = ¬ p := by simp

theorem push_mk {H : List AObj} {lo : Option Nat} {o : AObj} : AS.push ⟨H, lo⟩ o = ⟨H ++ [o], lo⟩ := rfl
theorem set_mk {H : List AObj} {lo : Option Nat} {id r : Nat} {o : AObj} : AS.set ⟨H, lo⟩ id o r = ⟨H.set id o, if r ≤ id + 1 then lo else minLo lo id⟩ := rfl

end

section
variable {H L : List AObj} {n k : Nat}
theorem base_get0 (h : H.length = n) : (H ++ L)[n]? = L[0]? := by subst h; simp [List.getElem?_append]
theorem base_get (h : H.length = n) : (H ++ L)[n + k]? = L[k]? := by subst h; rw [List.getElem?_append_right (Nat.le_add_right _ _)]; simp
theorem base_set0 {o : AObj} (h : H.length = n) : (H ++ L).set n o = H ++ L.set 0 o := by subst h; simp [List.set_append]
theorem base_set {o : AObj} (h : H.length = n) : (H ++ L).set (n + k) o = H ++ L.set k o := by subst h; rw [List.set_append_right _ _ (Nat.le_add_right _ _)]; simp
theorem base_take (h : H.length = n) : (H ++ L).take n = H := by subst h; simp
end

/-- How a call ends that leaves what was there as it was. -/
theorem finish_eq {n : Nat} {lo lo' : Option Nat} {v v' : AV} {H : List AObj} (hlo : (match lo' with | none => true | some j => decide (n ≤ j)) = true) (hf : freeze ⟨H, lo'⟩ n 12 v = some v') : finish n lo v ⟨H, lo'⟩ = (v', ⟨H.take n, lo⟩) := by
  cases lo' with
  | none => simp [finish, hf]
  | some j => simp only [decide_eq_true_eq] at hlo; simp [finish, hlo, hf]

theorem freeze_low {σ : AS} {n k : Nat} {v : AV} (h : v.refs ≤ n) : freeze σ n (k + 1) v = some v := by
  unfold freeze; rw [if_pos h]

theorem finish_low {n : Nat} {lo lo' : Option Nat} {v : AV} {H : List AObj} (hlo : (match lo' with | none => true | some j => decide (n ≤ j)) = true) (hf : v.refs ≤ n) : finish n lo v ⟨H, lo'⟩ = (v, ⟨H.take n, lo⟩) :=
  finish_eq hlo (freeze_low hf)

theorem wrap_i64 {n : Int} (h : -9223372036854775808 ≤ n) (h' : n ≤ 9223372036854775807) : IntKind.wrap .i64 n = n := by
  unfold IntKind.wrap IntKind.bits IntKind.signed; simp; omega
theorem wrap_u64 {n : Int} (h : 0 ≤ n) (h' : n ≤ 18446744073709551615) : IntKind.wrap .u64 n = n := by
  unfold IntKind.wrap IntKind.bits IntKind.signed; simp; omega
theorem wrap_u32 {n : Int} (h : 0 ≤ n) (h' : n ≤ 4294967295) : IntKind.wrap .u32 n = n := by
  unfold IntKind.wrap IntKind.bits IntKind.signed; simp; omega
theorem wrap_i32 {n : Int} (h : -2147483648 ≤ n) (h' : n ≤ 2147483647) : IntKind.wrap .i32 n = n := by
  unfold IntKind.wrap IntKind.bits IntKind.signed; simp; omega
theorem wrap_u16 {n : Int} (h : 0 ≤ n) (h' : n ≤ 65535) : IntKind.wrap .u16 n = n := by
  unfold IntKind.wrap IntKind.bits IntKind.signed; simp; omega
theorem wrap_u8 {n : Int} (h : 0 ≤ n) (h' : n ≤ 255) : IntKind.wrap .u8 n = n := by
  unfold IntKind.wrap IntKind.bits IntKind.signed; simp; omega

/-! Strings. -/

def S (l : List UInt8) : AV := .str ⟨l.toArray⟩

theorem S_of (s : ByteArray) : AV.str s = S s.data.toList := by cases s; simp [S]

theorem size_mk (l : List UInt8) : (⟨l.toArray⟩ : ByteArray).size = l.length := by simp [ByteArray.size]

theorem binA_S {op : BinOp} {a b : List UInt8} : binA op (S a) (S b) = match op with
    | .add => if a.length + b.length ≤ strRoom then some (S (a ++ b)) else none
    | .eql => some (.bool (a == b))
    | .neq => some (.bool !(a == b))
    | op => strA op ⟨a.toArray⟩ ⟨b.toArray⟩ := by
  cases op <;> simp only [binA, S, strA, ByteArray.toList_mk, size_mk]
  rfl

/-! Short words of the printed code. -/

def o (d : Nat) (i : I) : Ins := ⟨none, some d, i⟩
def u (i : I) : Ins := ⟨none, none, i⟩
def gt (t : Nat) (d : Option Nat) (i : I) : Ins := ⟨some (t, true), d, i⟩
def gf (t : Nat) (d : Option Nat) (i : I) : Ins := ⟨some (t, false), d, i⟩
def ci (n : Int) : Opd := .c (.int .i64 n)
def cf (f : Nat) : Opd := .c (.fn (.func f) [] [])

/-- Many cells alike. -/
def reps (n : Nat) (v : AV) : List AV := List.replicate n v

def OkF (P : Program) (f : Nat) (pf : PF) : Prop := ∃ rows fn, P.funcs[f]? = some fn ∧ prepF P rows fn = some pf

section
variable {X : Ctx} {f : FuncId} {rd : Bool} {fr : Fr} {σ : AS} {Q : Post} {e : Env} {ms : List Nat} {K Kp : AV → AS → Prop}

theorem wpO_o {d : Nat} {i : I} {os : List Ins} : wpO X (o d i :: os) ⟨e, ms⟩ σ Q = wpI X i e σ (fun v σ' => wpO X os ⟨e.set d v, ms⟩ σ' Q) (fun v σ' => Q (.panic v) ⟨e, ms⟩ σ') := wpO_cons
theorem wpO_u {i : I} {os : List Ins} : wpO X (u i :: os) ⟨e, ms⟩ σ Q = wpI X i e σ (fun v σ' => wpO X os ⟨e, ms⟩ σ' Q) (fun v σ' => Q (.panic v) ⟨e, ms⟩ σ') := wpO_cons
theorem wpO_gt {t : Nat} {d : Option Nat} {i : I} {os : List Ins} : wpO X (gt t d i :: os) ⟨e, ms⟩ σ Q =
    guardO (e t) true (wpI X i (e.set t (.bool true)) σ (fun v σ' => wpO X os (Fr.put ⟨e.set t (.bool true), ms⟩ d v) σ' Q) (fun v σ' => Q (.panic v) ⟨e.set t (.bool true), ms⟩ σ'))
      (wpO X os (Fr.put ⟨e.set t (.bool false), ms⟩ d .undef) σ Q) (wpO X os (Fr.put ⟨e, ms⟩ d .undef) σ Q) := wpO_guard
theorem wpO_gf {t : Nat} {d : Option Nat} {i : I} {os : List Ins} : wpO X (gf t d i :: os) ⟨e, ms⟩ σ Q =
    guardO (e t) false (wpI X i (e.set t (.bool false)) σ (fun v σ' => wpO X os (Fr.put ⟨e.set t (.bool false), ms⟩ d v) σ' Q) (fun v σ' => Q (.panic v) ⟨e.set t (.bool false), ms⟩ σ'))
      (wpO X os (Fr.put ⟨e.set t (.bool true), ms⟩ d .undef) σ Q) (wpO X os (Fr.put ⟨e, ms⟩ d .undef) σ Q) := wpO_guard
end

theorem get_t {e : Env} {i : Nat} : Opd.get e (.t i) = e i := rfl
theorem get_c {e : Env} {v : AV} : Opd.get e (.c v) = v := rfl
theorem get_ci {e : Env} {n : Int} : Opd.get e (ci n) = .int .i64 n := rfl
theorem get_cf {e : Env} {f : Nat} : Opd.get e (cf f) = .fn (.func f) [] [] := rfl

theorem D_fn {X : Ctx} {f : FuncId} (pf : PF) {args : List AV} {H : List AObj} {lo : Option Nat} {cr : CRes} (hp : X.prim f = none) (hc : X.code f = some pf) (hl : Nat.ble args.length pf.ntmps = true)
    (h : ∀ n, H.length = n → wp X f false pf.body ⟨envOf args, []⟩ ⟨H, none⟩ (retK X n lo pf.results (· = cr))) : D X (.fn (.func f) [] []) args ⟨H, lo⟩ = some cr := by
  have hl' := Nat.le_of_ble_eq_true hl
  refine D_ret hp hc (by simpa using hl') ?_
  simpa using h _ rfl

theorem D_fn_ex {X : Ctx} {f : FuncId} (pf : PF) {args : List AV} {H : List AObj} {lo : Option Nat} {R : CRes → Prop} (hp : X.prim f = none) (hc : X.code f = some pf) (hl : Nat.ble args.length pf.ntmps = true)
    (h : ∀ n, H.length = n → wp X f false pf.body ⟨envOf args, []⟩ ⟨H, none⟩ (retK X n lo pf.results R)) : ∃ cr, D X (.fn (.func f) [] []) args ⟨H, lo⟩ = some cr ∧ R cr := by
  have hl' := Nat.le_of_ble_eq_true hl
  refine D_code hp hc (by simpa using hl') ?_
  simpa using h _ rfl

theorem resultsA_one {X : Ctx} {σ : AS} {e : Env} {t : Nat} : resultsA X σ e [.t t] = some (e t) := rfl
theorem resultsA_two {X : Ctx} {σ : AS} {e : Env} {t u : Nat} : resultsA X σ e [.t t, .t u] = some (.tup [e t, e u]) := rfl
theorem resultsA_three {X : Ctx} {σ : AS} {e : Env} {t u v : Nat} : resultsA X σ e [.t t, .t u, .t v] = some (.tup [e t, e u, e v]) := rfl
theorem killMarks_nil {σ : AS} : killMarks σ [] = some σ := rfl



def extA (x : AV) (i : Nat) : Option AV := match x with | .tup vs => vs[i]? | _ => none
def fldA (agg : Bool) (n off : Nat) (x : AV) : Option AV := match x with | .agg cs => part agg n cs off | _ => none
def boxA (σ : AS) (x : AV) : Option (AV × AS) := if x.isTup = false then some (.ptr σ.heap.length 0, σ.push (.box x.cells none)) else none
def buildA (z : List AV) (ps : List (Nat × Nat × AV)) : Option AV := (fillA z ps).map .agg
def bsliceA (z : List AV) (len : Nat) (ps : List (Nat × Nat × AV)) : Option AV := (fillA (List.replicate len z).flatten ps).map fun cs => .sl (chunks z.length len cs) true
def browA (σ : AS) (ty : TypeId) (z : List AV) (len : Nat) (ps : List (Nat × Nat × AV)) : Option (AV × AS) :=
  (fillA (List.replicate len z).flatten ps).map fun cs => (.ref σ.heap.length 0 z.length 0 len false, σ.push (.row 0 z.length ty (chunks z.length len cs)))
def rngA (σ : AS) (x : AV) : Option (AV × AS) := match x with | .str s => some (.ptr σ.heap.length 0, σ.push (.siter s 0)) | _ => none
def panicA (x : AV) : Option AV := match x with | .ifc t v => some (.ifc t v) | _ => none
def b2sA (r : Option (List (List AV))) : Option AV := match r with | some els => (stringA els).map fun l => S l | none => none
def s2bA (x : AV) : Option AV := match x with | .str s => if s.size ≤ room then some (.sl (bytesA s) false) else none | _ => none
def convsA (x : AV) : Option AV := match x with | .str s => some (.str s) | _ => none

/-! Continuations as plain data, so that rewriting does not look into them ahead of time. -/

section
variable (X : Ctx)
def kV (os : List Ins) (d : Nat) (e : Env) (ms : List Nat) (Q : Post) : AV → AS → Prop := fun v σ => wpO X os ⟨e.set d v, ms⟩ σ Q
def kU (os : List Ins) (e : Env) (ms : List Nat) (Q : Post) : AV → AS → Prop := fun _ σ => wpO X os ⟨e, ms⟩ σ Q
def kP (e : Env) (ms : List Nat) (Q : Post) : AV → AS → Prop := fun v σ => Q (.panic v) ⟨e, ms⟩ σ
def okV (r : Option AV) (K : AV → AS → Prop) (σ : AS) : Prop := match r with | some v => K v σ | none => False
def okS (r : Option AS) (K : AV → AS → Prop) : Prop := match r with | some σ => K .undef σ | none => False
def okP (r : Option (AV × AS)) (K : AV → AS → Prop) : Prop := match r with | some p => K p.1 p.2 | none => False
def okB (r : Option Bool) (neg : Bool) (K : AV → AS → Prop) (σ : AS) : Prop := match r with | some b => K (.bool (if neg then !b else b)) σ | none => False
def okN (k : IntKind) (x : AV) (K : AV → AS → Prop) (σ : AS) : Prop := match x with | .int _ n => K (.int k (k.wrap n)) σ | _ => False
def pickK (c a b : AV) (K : AV → AS → Prop) (σ : AS) : Prop := match c with | .bool t => K (if t then a else b) σ | _ => False
def elsK (r : Option (List (List AV))) (ty : TypeId) (sz bytes : Nat) (s : AV) (K : AV → AS → Prop) (σ : AS) : Prop := match r with | some ys => okP (appendA σ ty sz bytes s ys) K | none => False
def strK (x : AV) (ty : TypeId) (s : AV) (K : AV → AS → Prop) (σ : AS) : Prop := match x with | .str b => okP (appendA σ ty 1 1 s (bytesA b)) K | _ => False
def condK (f : FuncId) (rd : Bool) (a b : PC) (fr : Fr) (σ : AS) (Q : Post) (c : AV) : Prop := guardK c true (wp X f rd a fr σ Q) (wp X f rd b fr σ Q)
def gK (t : Nat) (b : Bool) (d : Option Nat) (i : I) (os : List Ins) (e : Env) (ms : List Nat) (σ : AS) (Q : Post) (c : AV) : Prop :=
  guardO c b (wpI X i (e.set t (.bool b)) σ (match d with | some d => kV X os d (e.set t (.bool b)) ms Q | none => kU X os (e.set t (.bool b)) ms Q) (kP (e.set t (.bool b)) ms Q))
      (wpO X os (Fr.put ⟨e.set t (.bool (!b)), ms⟩ d .undef) σ Q) (wpO X os (Fr.put ⟨e, ms⟩ d .undef) σ Q)
end

section
variable {X : Ctx} {f : FuncId} {rd : Bool} {fr : Fr} {σ : AS} {Q : Post} {e : Env} {ms : List Nat} {K Kp : AV → AS → Prop} {t : Nat} {d : Option Nat} {i : I} {os : List Ins} {dd : Nat}

theorem okK_V {r : Option AV} : okK r (fun v => K v σ) = okV r K σ := by cases r <;> rfl
theorem okK_S {r : Option AS} : okK r (fun σ' => K .undef σ') = okS r K := by cases r <;> rfl
theorem okK_P {r : Option (AV × AS)} : okK r (fun p => K p.1 p.2) = okP r K := by cases r <;> rfl
theorem wO_o : wpO X (o dd i :: os) ⟨e, ms⟩ σ Q = wpI X i e σ (kV X os dd e ms Q) (kP e ms Q) := wpO_cons
theorem wO_u : wpO X (u i :: os) ⟨e, ms⟩ σ Q = wpI X i e σ (kU X os e ms Q) (kP e ms Q) := wpO_cons
theorem wO_gt : wpO X (gt t d i :: os) ⟨e, ms⟩ σ Q = gK X t true d i os e ms σ Q (e t) := by
  unfold gK; rw [wpO_gt]; cases d <;> rfl
theorem wO_gf : wpO X (gf t d i :: os) ⟨e, ms⟩ σ Q = gK X t false d i os e ms σ Q (e t) := by
  unfold gK; rw [wpO_gf]; cases d <;> rfl
theorem kV_at {v : AV} : kV X os dd e ms Q v σ = wpO X os ⟨e.set dd v, ms⟩ σ Q := rfl
theorem kU_at {v : AV} : kU X os e ms Q v σ = wpO X os ⟨e, ms⟩ σ Q := rfl
theorem kP_at {v : AV} : kP e ms Q v σ = Q (.panic v) ⟨e, ms⟩ σ := rfl
theorem okV_some {v : AV} : okV (some v) K σ = K v σ := rfl
theorem okV_ite {c : Prop} [Decidable c] {v : Option AV} : okV (if c then v else none) K σ = (c ∧ okV v K σ) := by split <;> simp [*, okV]
theorem okS_some : okS (some σ) K = K .undef σ := rfl
theorem okS_ite {c : Prop} [Decidable c] {v : Option AS} : okS (if c then v else none) K = (c ∧ okS v K) := by split <;> simp [*, okS]
theorem okP_some {v : AV} : okP (some (v, σ)) K = K v σ := rfl
theorem okP_ite {c : Prop} [Decidable c] {v : Option (AV × AS)} : okP (if c then v else none) K = (c ∧ okP v K) := by split <;> simp [*, okP]
theorem okB_eq {b : Bool} : okB (some b) false K σ = K (.bool b) σ := rfl
theorem okB_ne {b : Bool} : okB (some b) true K σ = K (.bool (!b)) σ := rfl
theorem okN_int {k k' : IntKind} {n : Int} : okN k (.int k' n) K σ = K (.int k (k.wrap n)) σ := rfl
theorem pickK_true {a b : AV} : pickK (.bool true) a b K σ = K a σ := rfl
theorem pickK_false {a b : AV} : pickK (.bool false) a b K σ = K b σ := rfl
theorem pickK_if {a b : AV} {c : Bool} : pickK (.bool c) a b K σ = K (if c then a else b) σ := rfl
theorem elsK_some {ys : List (List AV)} {ty : TypeId} {sz bytes : Nat} {s : AV} : elsK (some ys) ty sz bytes s K σ = okP (appendA σ ty sz bytes s ys) K := rfl
theorem strK_S {l : List UInt8} {ty : TypeId} {s : AV} : strK (S l) ty s K σ = okP (appendA σ ty 1 1 s (l.map fun b => [.int .u8 b.toNat])) K := by
  simp [strK, S, bytesA]
theorem wp_cond' {c : Opd} {a b : PC} : wp X f rd (.cond c a b) fr σ Q = condK X f rd a b fr σ Q (c.get fr.env) := wp_cond
theorem condK_true {a b : PC} : condK X f rd a b fr σ Q (.bool true) = wp X f rd a fr σ Q := by simp [condK, guardK_bool]
theorem condK_false {a b : PC} : condK X f rd a b fr σ Q (.bool false) = wp X f rd b fr σ Q := by simp [condK, guardK_bool]
theorem condK_dec {a b : PC} {p : Prop} [Decidable p] : condK X f rd a b fr σ Q (.bool (decide p)) = ((p → wp X f rd a fr σ Q) ∧ (¬ p → wp X f rd b fr σ Q)) := by simp [condK, guardK_bool]
theorem condK_not {a b : PC} {c : Bool} : condK X f rd a b fr σ Q (.bool (!c)) = condK X f rd b a fr σ Q (.bool c) := by cases c <;> simp [condK, guardK_bool]
theorem condK_any {a b : PC} {c : Bool} : condK X f rd a b fr σ Q (.bool c) = ((c = true → wp X f rd a fr σ Q) ∧ (c = false → wp X f rd b fr σ Q)) := by simp [condK, guardK_bool]
theorem gK_undef {b : Bool} {c : List AV} : gK X t b (some dd) i os e ms σ Q (.tup c) = wpO X os ⟨e.set dd .undef, ms⟩ σ Q := rfl
theorem gK_undef' {b : Bool} {c : List AV} : gK X t b none i os e ms σ Q (.tup c) = wpO X os ⟨e, ms⟩ σ Q := rfl
theorem gK_tt : gK X t true (some dd) i os e ms σ Q (.bool true) = wpI X i (e.set t (.bool true)) σ (kV X os dd (e.set t (.bool true)) ms Q) (kP (e.set t (.bool true)) ms Q) := by simp [gK, guardO_bool]
theorem gK_tt' : gK X t true none i os e ms σ Q (.bool true) = wpI X i (e.set t (.bool true)) σ (kU X os (e.set t (.bool true)) ms Q) (kP (e.set t (.bool true)) ms Q) := by simp [gK, guardO_bool]
theorem gK_ff : gK X t false (some dd) i os e ms σ Q (.bool false) = wpI X i (e.set t (.bool false)) σ (kV X os dd (e.set t (.bool false)) ms Q) (kP (e.set t (.bool false)) ms Q) := by simp [gK, guardO_bool]
theorem gK_ff' : gK X t false none i os e ms σ Q (.bool false) = wpI X i (e.set t (.bool false)) σ (kU X os (e.set t (.bool false)) ms Q) (kP (e.set t (.bool false)) ms Q) := by simp [gK, guardO_bool]
theorem gK_tf : gK X t true d i os e ms σ Q (.bool false) = wpO X os (Fr.put ⟨e.set t (.bool false), ms⟩ d .undef) σ Q := by simp [gK, guardO_bool]
theorem gK_ft : gK X t false d i os e ms σ Q (.bool true) = wpO X os (Fr.put ⟨e.set t (.bool true), ms⟩ d .undef) σ Q := by simp [gK, guardO_bool]
theorem gK_dec {b : Bool} {p : Prop} [Decidable p] : gK X t b d i os e ms σ Q (.bool (decide p)) = ((p → gK X t b d i os e ms σ Q (.bool true)) ∧ (¬ p → gK X t b d i os e ms σ Q (.bool false))) := by
  by_cases h : p <;> simp [h]
theorem gK_any {b : Bool} {c : Bool} : gK X t b d i os e ms σ Q (.bool c) = ((c = true → gK X t b d i os e ms σ Q (.bool true)) ∧ (c = false → gK X t b d i os e ms σ Q (.bool false))) := by
  cases c <;> simp
theorem iI_mov {x : Opd} : wpI X (.mov x) e σ K Kp = (K (x.get e) σ) := by
  first | (rw [wpI_mov]; done) | (rw [wpI_mov]; exact okK_V) | (rw [wpI_mov]; exact okK_S) | (rw [wpI_mov]; exact okK_P) | (rw [wpI_mov]; rfl)
theorem iI_pick {c : Opd} {a : Opd} {b : Opd} : wpI X (.pick c a b) e σ K Kp = (pickK (c.get e) (a.get e) (b.get e) K σ) := by
  first | (rw [wpI_pick]; done) | (rw [wpI_pick]; exact okK_V) | (rw [wpI_pick]; exact okK_S) | (rw [wpI_pick]; exact okK_P) | (rw [wpI_pick]; cases c.get e <;> rfl)
theorem iI_alloc {z : List AV} {tg : Option TypeId} : wpI X (.alloc z tg) e σ K Kp = (K (.ptr σ.heap.length 0) (σ.push (.box z tg))) := by
  first | (rw [wpI_alloc]; done) | (rw [wpI_alloc]; exact okK_V) | (rw [wpI_alloc]; exact okK_S) | (rw [wpI_alloc]; exact okK_P) | (rw [wpI_alloc]; rfl)
theorem iI_load {agg : Bool} {n : Nat} {a : Opd} : wpI X (.load agg n a) e σ K Kp = (okV (loadA X σ agg n (a.get e)) K σ) := by
  first | (rw [wpI_load]; done) | (rw [wpI_load]; exact okK_V) | (rw [wpI_load]; exact okK_S) | (rw [wpI_load]; exact okK_P) | (rw [wpI_load]; rfl)
theorem iI_store {n : Nat} {a : Opd} {v : Opd} : wpI X (.store n a v) e σ K Kp = (okS (storeA σ n (a.get e) (v.get e)) K) := by
  first | (rw [wpI_store]; done) | (rw [wpI_store]; exact okK_V) | (rw [wpI_store]; exact okK_S) | (rw [wpI_store]; exact okK_P) | (rw [wpI_store]; rfl)
theorem iI_nilck {x : Opd} : wpI X (.nilck x) e σ K Kp = (okV (nilckA (x.get e)) K σ) := by
  first | (rw [wpI_nilck]; done) | (rw [wpI_nilck]; exact okK_V) | (rw [wpI_nilck]; exact okK_S) | (rw [wpI_nilck]; exact okK_P) | (rw [wpI_nilck]; rfl)
theorem iI_bin {op : BinOp} {x : Opd} {y : Opd} : wpI X (.bin op x y) e σ K Kp = (okV (binA op (x.get e) (y.get e)) K σ) := by
  first | (rw [wpI_bin]; done) | (rw [wpI_bin]; exact okK_V) | (rw [wpI_bin]; exact okK_S) | (rw [wpI_bin]; exact okK_P) | (rw [wpI_bin]; rfl)
theorem iI_shf {op : BinOp} {x : Opd} {y : Opd} : wpI X (.shf op x y) e σ K Kp = (okV (shfA op (x.get e) (y.get e)) K σ) := by
  first | (rw [wpI_shf]; done) | (rw [wpI_shf]; exact okK_V) | (rw [wpI_shf]; exact okK_S) | (rw [wpI_shf]; exact okK_P) | (rw [wpI_shf]; rfl)
theorem iI_eq {k : EK} {x : Opd} {y : Opd} : wpI X (.eq k x y) e σ K Kp = (okB (eqA k (x.get e) (y.get e)) false K σ) := by
  first | (rw [wpI_eq]; done) | (rw [wpI_eq]; exact okK_V) | (rw [wpI_eq]; exact okK_S) | (rw [wpI_eq]; exact okK_P) | (rw [wpI_eq]; cases eqA k (x.get e) (y.get e) <;> rfl)
theorem iI_ne {k : EK} {x : Opd} {y : Opd} : wpI X (.ne k x y) e σ K Kp = (okB (eqA k (x.get e) (y.get e)) true K σ) := by
  first | (rw [wpI_ne]; done) | (rw [wpI_ne]; exact okK_V) | (rw [wpI_ne]; exact okK_S) | (rw [wpI_ne]; exact okK_P) | (rw [wpI_ne]; cases eqA k (x.get e) (y.get e) <;> rfl)
theorem iI_un {op : UnOp} {x : Opd} : wpI X (.un op x) e σ K Kp = (okV (unA op (x.get e)) K σ) := by
  first | (rw [wpI_un]; done) | (rw [wpI_un]; exact okK_V) | (rw [wpI_un]; exact okK_S) | (rw [wpI_un]; exact okK_P) | (rw [wpI_un]; rfl)
theorem iI_conv {k : IntKind} {x : Opd} : wpI X (.conv k x) e σ K Kp = (okN k (x.get e) K σ) := by
  first | (rw [wpI_conv]; done) | (rw [wpI_conv]; exact okK_V) | (rw [wpI_conv]; exact okK_S) | (rw [wpI_conv]; exact okK_P) | (rw [wpI_conv]; cases x.get e <;> rfl)
theorem iI_mki {t : TypeId} {x : Opd} : wpI X (.mki t x) e σ K Kp = (K (.ifc t (x.get e)) σ) := by
  first | (rw [wpI_mki]; done) | (rw [wpI_mki]; exact okK_V) | (rw [wpI_mki]; exact okK_S) | (rw [wpI_mki]; exact okK_P) | (rw [wpI_mki]; rfl)
theorem iI_mkf {f : Fn} {first : List Opd} {cap : List Opd} : wpI X (.mkf f first cap) e σ K Kp = (K (.fn f (first.map (Opd.get e)) (cap.map (Opd.get e))) σ) := by
  first | (rw [wpI_mkf]; done) | (rw [wpI_mkf]; exact okK_V) | (rw [wpI_mkf]; exact okK_S) | (rw [wpI_mkf]; exact okK_P) | (rw [wpI_mkf]; rfl)
theorem iI_mkmap  : wpI X (.mkmap) e σ K Kp = (K (.mp σ.heap.length) (σ.push (.map []))) := by
  first | (rw [wpI_mkmap]; done) | (rw [wpI_mkmap]; exact okK_V) | (rw [wpI_mkmap]; exact okK_S) | (rw [wpI_mkmap]; exact okK_P) | (rw [wpI_mkmap]; rfl)
theorem iI_slstr {x : Opd} {lo : Option Opd} {hi : Option Opd} : wpI X (.slstr x lo hi) e σ K Kp = (okV (slstrA (x.get e) (lo.map (Opd.get e)) (hi.map (Opd.get e))) K σ) := by
  first | (rw [wpI_slstr]; done) | (rw [wpI_slstr]; exact okK_V) | (rw [wpI_slstr]; exact okK_S) | (rw [wpI_slstr]; exact okK_P) | (rw [wpI_slstr]; rfl)
theorem iI_slsl {n : Nat} {x : Opd} {lo : Option Opd} {hi : Option Opd} {mx : Option Opd} : wpI X (.slsl n x lo hi mx) e σ K Kp = (okV (slslA n (x.get e) (lo.map (Opd.get e)) (hi.map (Opd.get e)) (mx.map (Opd.get e))) K σ) := by
  first | (rw [wpI_slsl]; done) | (rw [wpI_slsl]; exact okK_V) | (rw [wpI_slsl]; exact okK_S) | (rw [wpI_slsl]; exact okK_P) | (rw [wpI_slsl]; rfl)
theorem iI_slarr {n : Nat} {sz : Nat} {x : Opd} {lo : Option Opd} {hi : Option Opd} : wpI X (.slarr n sz x lo hi) e σ K Kp = (okV (slarrA X n sz (x.get e) (lo.map (Opd.get e)) (hi.map (Opd.get e))) K σ) := by
  first | (rw [wpI_slarr]; done) | (rw [wpI_slarr]; exact okK_V) | (rw [wpI_slarr]; exact okK_S) | (rw [wpI_slarr]; exact okK_P) | (rw [wpI_slarr]; rfl)
theorem iI_faddr {n : Nat} {x : Opd} : wpI X (.faddr n x) e σ K Kp = (okV (faddrA X n (x.get e)) K σ) := by
  first | (rw [wpI_faddr]; done) | (rw [wpI_faddr]; exact okK_V) | (rw [wpI_faddr]; exact okK_S) | (rw [wpI_faddr]; exact okK_P) | (rw [wpI_faddr]; rfl)
theorem iI_iaddra {n : Nat} {sz : Nat} {x : Opd} {i : Opd} : wpI X (.iaddra n sz x i) e σ K Kp = (okV (iaddraA X n sz (x.get e) (i.get e)) K σ) := by
  first | (rw [wpI_iaddra]; done) | (rw [wpI_iaddra]; exact okK_V) | (rw [wpI_iaddra]; exact okK_S) | (rw [wpI_iaddra]; exact okK_P) | (rw [wpI_iaddra]; rfl)
theorem iI_iaddrs {sz : Nat} {x : Opd} {i : Opd} : wpI X (.iaddrs sz x i) e σ K Kp = (okV (iaddrsA sz (x.get e) (i.get e)) K σ) := by
  first | (rw [wpI_iaddrs]; done) | (rw [wpI_iaddrs]; exact okK_V) | (rw [wpI_iaddrs]; exact okK_S) | (rw [wpI_iaddrs]; exact okK_P) | (rw [wpI_iaddrs]; rfl)
theorem iI_idxa {agg : Bool} {n : Nat} {sz : Nat} {x : Opd} {i : Opd} : wpI X (.idxa agg n sz x i) e σ K Kp = (okV (idxaA agg n sz (x.get e) (i.get e)) K σ) := by
  first | (rw [wpI_idxa]; done) | (rw [wpI_idxa]; exact okK_V) | (rw [wpI_idxa]; exact okK_S) | (rw [wpI_idxa]; exact okK_P) | (rw [wpI_idxa]; rfl)
theorem iI_idxs {x : Opd} {i : Opd} : wpI X (.idxs x i) e σ K Kp = (okV (idxsA (x.get e) (i.get e)) K σ) := by
  first | (rw [wpI_idxs]; done) | (rw [wpI_idxs]; exact okK_V) | (rw [wpI_idxs]; exact okK_S) | (rw [wpI_idxs]; exact okK_P) | (rw [wpI_idxs]; rfl)
theorem iI_lookup {kk : EK} {z : AV} {m : Opd} {k : Opd} {ok : Bool} : wpI X (.lookup kk z m k ok) e σ K Kp = (okV (lookupA σ kk z (m.get e) (k.get e) ok) K σ) := by
  first | (rw [wpI_lookup]; done) | (rw [wpI_lookup]; exact okK_V) | (rw [wpI_lookup]; exact okK_S) | (rw [wpI_lookup]; exact okK_P) | (rw [wpI_lookup]; rfl)
theorem iI_mput {kk : EK} {m : Opd} {k : Opd} {v : Opd} : wpI X (.mput kk m k v) e σ K Kp = (okS (mputA σ kk (m.get e) (k.get e) (v.get e)) K) := by
  first | (rw [wpI_mput]; done) | (rw [wpI_mput]; exact okK_V) | (rw [wpI_mput]; exact okK_S) | (rw [wpI_mput]; exact okK_P) | (rw [wpI_mput]; rfl)
theorem iI_tai {x : Opd} {ok : Bool} {yes : List TypeId} : wpI X (.tai x ok yes) e σ K Kp = (okV (taiA yes (x.get e) ok) K σ) := by
  first | (rw [wpI_tai]; done) | (rw [wpI_tai]; exact okK_V) | (rw [wpI_tai]; exact okK_S) | (rw [wpI_tai]; exact okK_P) | (rw [wpI_tai]; rfl)
theorem iI_ta {z : AV} {x : Opd} {t : TypeId} {ok : Bool} : wpI X (.ta z x t ok) e σ K Kp = (okV (taA z (x.get e) t ok) K σ) := by
  first | (rw [wpI_ta]; done) | (rw [wpI_ta]; exact okK_V) | (rw [wpI_ta]; exact okK_S) | (rw [wpI_ta]; exact okK_P) | (rw [wpI_ta]; rfl)
theorem iI_len {k : EK} {x : Opd} : wpI X (.len k x) e σ K Kp = (okV (lenA σ k (x.get e)) K σ) := by
  first | (rw [wpI_len]; done) | (rw [wpI_len]; exact okK_V) | (rw [wpI_len]; exact okK_S) | (rw [wpI_len]; exact okK_P) | (rw [wpI_len]; rfl)
theorem iI_lenarr {n : Nat} : wpI X (.lenarr n) e σ K Kp = (K (.int .i64 n) σ) := by
  first | (rw [wpI_lenarr]; done) | (rw [wpI_lenarr]; exact okK_V) | (rw [wpI_lenarr]; exact okK_S) | (rw [wpI_lenarr]; exact okK_P) | (rw [wpI_lenarr]; rfl)
theorem iI_append {ty : TypeId} {sz : Nat} {bytes : Nat} {s : Opd} {x : Opd} : wpI X (.append ty sz bytes s x) e σ K Kp = (elsK (elems σ sz (x.get e)) ty sz bytes (s.get e) K σ) := by
  first | (rw [wpI_append]; done) | (rw [wpI_append]; exact okK_V) | (rw [wpI_append]; exact okK_S) | (rw [wpI_append]; exact okK_P) | (rw [wpI_append]; cases elems σ sz (x.get e) <;> first | rfl | exact okK_P)
theorem iI_appends {ty : TypeId} {s : Opd} {x : Opd} : wpI X (.appends ty s x) e σ K Kp = (strK (x.get e) ty (s.get e) K σ) := by
  first | (rw [wpI_appends]; done) | (rw [wpI_appends]; exact okK_V) | (rw [wpI_appends]; exact okK_S) | (rw [wpI_appends]; exact okK_P) | (rw [wpI_appends]; cases x.get e <;> first | rfl | exact okK_P)
theorem iI_copy {sz : Nat} {d : Opd} {s : Opd} : wpI X (.copy sz d s) e σ K Kp = (okP (copyA σ sz (d.get e) (s.get e)) K) := by
  first | (rw [wpI_copy]; done) | (rw [wpI_copy]; exact okK_V) | (rw [wpI_copy]; exact okK_S) | (rw [wpI_copy]; exact okK_P) | (rw [wpI_copy]; rfl)
theorem iI_clear {z : List AV} {x : Opd} : wpI X (.clear z x) e σ K Kp = (okS (clearA σ z (x.get e)) K) := by
  first | (rw [wpI_clear]; done) | (rw [wpI_clear]; exact okK_V) | (rw [wpI_clear]; exact okK_S) | (rw [wpI_clear]; exact okK_P) | (rw [wpI_clear]; rfl)
theorem iI_max {xs : List Opd} : wpI X (.max xs) e σ K Kp = (okV (foldA maxA (xs.map (Opd.get e))) K σ) := by
  first | (rw [wpI_max]; done) | (rw [wpI_max]; exact okK_V) | (rw [wpI_max]; exact okK_S) | (rw [wpI_max]; exact okK_P) | (rw [wpI_max]; rfl)
theorem iI_min {xs : List Opd} : wpI X (.min xs) e σ K Kp = (okV (foldA minA (xs.map (Opd.get e))) K σ) := by
  first | (rw [wpI_min]; done) | (rw [wpI_min]; exact okK_V) | (rw [wpI_min]; exact okK_S) | (rw [wpI_min]; exact okK_P) | (rw [wpI_min]; rfl)
theorem iI_usd {x : Opd} : wpI X (.usd x) e σ K Kp = (okV (usdA (x.get e)) K σ) := by
  first | (rw [wpI_usd]; done) | (rw [wpI_usd]; exact okK_V) | (rw [wpI_usd]; exact okK_S) | (rw [wpI_usd]; exact okK_P) | (rw [wpI_usd]; rfl)
theorem iI_ustr {ty : TypeId} {p : Opd} {n : Opd} : wpI X (.ustr ty p n) e σ K Kp = (okP (ustrA σ ty (p.get e) (n.get e)) K) := by
  first | (rw [wpI_ustr]; done) | (rw [wpI_ustr]; exact okK_V) | (rw [wpI_ustr]; exact okK_S) | (rw [wpI_ustr]; exact okK_P) | (rw [wpI_ustr]; rfl)
theorem iI_nxt {x : Opd} : wpI X (.nxt x) e σ K Kp = (okP (nxtA σ (x.get e)) K) := by
  first | (rw [wpI_nxt]; done) | (rw [wpI_nxt]; exact okK_V) | (rw [wpI_nxt]; exact okK_S) | (rw [wpI_nxt]; exact okK_P) | (rw [wpI_nxt]; rfl)
theorem iI_mkslice {ty : TypeId} {z : List AV} {bytes : Nat} {l : Opd} {c : Opd} : wpI X (.mkslice ty z bytes l c) e σ K Kp = (okP (mksliceA σ ty z bytes (l.get e) (c.get e)) K) := by
  first | (rw [wpI_mkslice]; done) | (rw [wpI_mkslice]; exact okK_V) | (rw [wpI_mkslice]; exact okK_S) | (rw [wpI_mkslice]; exact okK_P) | (rw [wpI_mkslice]; rfl)
theorem iI_ext {x : Opd} {i : Nat} : wpI X (.ext x i) e σ K Kp = (okV (extA (x.get e) i) K σ) := by
  first | (rw [wpI_ext]; done) | (rw [wpI_ext]; exact okK_V) | (rw [wpI_ext]; exact okK_S) | (rw [wpI_ext]; exact okK_P) | (rw [wpI_ext]; cases x.get e <;> rfl)
theorem iI_fld {agg : Bool} {n : Nat} {off : Nat} {x : Opd} : wpI X (.fld agg n off x) e σ K Kp = (okV (fldA agg n off (x.get e)) K σ) := by
  first | (rw [wpI_fld]; done) | (rw [wpI_fld]; exact okK_V) | (rw [wpI_fld]; exact okK_S) | (rw [wpI_fld]; exact okK_P) | (rw [wpI_fld]; cases x.get e <;> rfl)
theorem iI_box {x : Opd} : wpI X (.box x) e σ K Kp = (okP (boxA σ (x.get e)) K) := by
  first | (rw [wpI_box]; done) | (rw [wpI_box]; exact okK_V) | (rw [wpI_box]; exact okK_S) | (rw [wpI_box]; exact okK_P) | (rw [wpI_box]; unfold boxA; cases h : (x.get e).isTup <;> simp [okP])
theorem iI_build {z : List AV} {parts : List (Nat × Nat × Opd)} : wpI X (.build z parts) e σ K Kp = (okV (buildA z (parts.map fun p => (p.1, p.2.1, p.2.2.get e))) K σ) := by
  first | (rw [wpI_build]; done) | (rw [wpI_build]; exact okK_V) | (rw [wpI_build]; exact okK_S) | (rw [wpI_build]; exact okK_P) | (rw [wpI_build]; unfold buildA; cases fillA z (parts.map fun p => (p.1, p.2.1, p.2.2.get e)) <;> rfl)
theorem iI_bslice {z : List AV} {len : Nat} {parts : List (Nat × Nat × Opd)} : wpI X (.bslice z len parts) e σ K Kp = (okV (bsliceA z len (parts.map fun p => (p.1, p.2.1, p.2.2.get e))) K σ) := by
  first | (rw [wpI_bslice]; done) | (rw [wpI_bslice]; exact okK_V) | (rw [wpI_bslice]; exact okK_S) | (rw [wpI_bslice]; exact okK_P) | (rw [wpI_bslice]; unfold bsliceA; cases fillA (List.replicate len z).flatten (parts.map fun p => (p.1, p.2.1, p.2.2.get e)) <;> rfl)
theorem iI_brow {ty : TypeId} {z : List AV} {len : Nat} {parts : List (Nat × Nat × Opd)} : wpI X (.brow ty z len parts) e σ K Kp = (okP (browA σ ty z len (parts.map fun p => (p.1, p.2.1, p.2.2.get e))) K) := by
  first | (rw [wpI_brow]; done) | (rw [wpI_brow]; exact okK_V) | (rw [wpI_brow]; exact okK_S) | (rw [wpI_brow]; exact okK_P) | (rw [wpI_brow]; unfold browA; cases fillA (List.replicate len z).flatten (parts.map fun p => (p.1, p.2.1, p.2.2.get e)) <;> rfl)
theorem iI_rng {x : Opd} : wpI X (.rng x) e σ K Kp = (okP (rngA σ (x.get e)) K) := by
  first | (rw [wpI_rng]; done) | (rw [wpI_rng]; exact okK_V) | (rw [wpI_rng]; exact okK_S) | (rw [wpI_rng]; exact okK_P) | (rw [wpI_rng]; cases x.get e <;> rfl)
theorem iI_panic {x : Opd} : wpI X (.panic x) e σ K Kp = (okV (panicA (x.get e)) Kp σ) := by
  first | (rw [wpI_panic]; done) | (rw [wpI_panic]; exact okK_V) | (rw [wpI_panic]; exact okK_S) | (rw [wpI_panic]; exact okK_P) | (rw [wpI_panic]; cases x.get e <;> rfl)
theorem iI_b2s {x : Opd} : wpI X (.b2s x) e σ K Kp = (okV (b2sA (elems σ 1 (x.get e))) K σ) := by
  first | (rw [wpI_b2s]; done) | (rw [wpI_b2s]; exact okK_V) | (rw [wpI_b2s]; exact okK_S) | (rw [wpI_b2s]; exact okK_P) | (rw [wpI_b2s]; (cases elems σ 1 (x.get e) <;> first | rfl | (rename_i els; simp only [okK, b2sA]; cases stringA els <;> rfl)))
theorem iI_s2b {x : Opd} : wpI X (.s2b x) e σ K Kp = (okV (s2bA (x.get e)) K σ) := by
  first | (rw [wpI_s2b]; done) | (rw [wpI_s2b]; exact okK_V) | (rw [wpI_s2b]; exact okK_S) | (rw [wpI_s2b]; exact okK_P) | (rw [wpI_s2b]; cases x.get e <;> first | rfl | (rename_i q; simp only [s2bA]; by_cases hq : q.size ≤ room <;> simp only [hq, if_true, if_false] <;> rfl))
theorem iI_convs {x : Opd} : wpI X (.convs x) e σ K Kp = (okV (convsA (x.get e)) K σ) := by
  first | (rw [wpI_convs]; done) | (rw [wpI_convs]; exact okK_V) | (rw [wpI_convs]; exact okK_S) | (rw [wpI_convs]; exact okK_P) | (rw [wpI_convs]; cases x.get e <;> rfl)
end

theorem R1 : type_of% @wp_skip ∧ type_of% @wp_exit ∧ type_of% @wp_ret ∧ type_of% @wp_seq ∧ type_of% @wp_block ∧ type_of% @wp_cond' ∧ type_of% @wp_reg ∧ type_of% @seqK_normal ∧ type_of% @seqK_exit ∧ type_of% @seqK_ret ∧ type_of% @seqK_panic ∧ type_of% @blkK_normal ∧ type_of% @blkK_exit ∧ type_of% @blkK_ret ∧ type_of% @blkK_panic ∧ type_of% @wpO_nil ∧ type_of% @wO_o ∧ type_of% @wO_u ∧ type_of% @wO_gt ∧ type_of% @wO_gf ∧ type_of% @kV_at ∧ type_of% @kU_at ∧ type_of% @kP_at ∧ type_of% @wpI_call ∧ type_of% @iI_mov ∧ type_of% @iI_pick ∧ type_of% @iI_alloc ∧ type_of% @iI_load ∧ type_of% @iI_store ∧ type_of% @iI_nilck ∧ type_of% @iI_bin ∧ type_of% @iI_shf ∧ type_of% @iI_eq ∧ type_of% @iI_ne ∧ type_of% @iI_un ∧ type_of% @iI_conv ∧ type_of% @iI_mki ∧ type_of% @iI_mkf ∧ type_of% @iI_mkmap ∧ type_of% @iI_slstr ∧ type_of% @iI_slsl ∧ type_of% @iI_slarr ∧ type_of% @iI_faddr ∧ type_of% @iI_iaddra ∧ type_of% @iI_iaddrs ∧ type_of% @iI_idxa ∧ type_of% @iI_idxs ∧ type_of% @iI_lookup ∧ type_of% @iI_mput ∧ type_of% @iI_tai ∧ type_of% @iI_ta ∧ type_of% @iI_len ∧ type_of% @iI_lenarr ∧ type_of% @iI_append ∧ type_of% @iI_appends ∧ type_of% @iI_copy ∧ type_of% @iI_clear ∧ type_of% @iI_max ∧ type_of% @iI_min ∧ type_of% @iI_usd ∧ type_of% @iI_ustr ∧ type_of% @iI_nxt ∧ type_of% @iI_mkslice ∧ type_of% @iI_ext ∧ type_of% @iI_fld ∧ type_of% @iI_box ∧ type_of% @iI_build ∧ type_of% @iI_bslice ∧ type_of% @iI_brow ∧ type_of% @iI_rng ∧ type_of% @iI_panic ∧ type_of% @iI_b2s ∧ type_of% @iI_s2b ∧ type_of% @iI_convs :=
  ⟨@wp_skip, @wp_exit, @wp_ret, @wp_seq, @wp_block, @wp_cond', @wp_reg, @seqK_normal, @seqK_exit, @seqK_ret, @seqK_panic, @blkK_normal, @blkK_exit, @blkK_ret, @blkK_panic, @wpO_nil, @wO_o, @wO_u, @wO_gt, @wO_gf, @kV_at, @kU_at, @kP_at, @wpI_call, @iI_mov, @iI_pick, @iI_alloc, @iI_load, @iI_store, @iI_nilck, @iI_bin, @iI_shf, @iI_eq, @iI_ne, @iI_un, @iI_conv, @iI_mki, @iI_mkf, @iI_mkmap, @iI_slstr, @iI_slsl, @iI_slarr, @iI_faddr, @iI_iaddra, @iI_iaddrs, @iI_idxa, @iI_idxs, @iI_lookup, @iI_mput, @iI_tai, @iI_ta, @iI_len, @iI_lenarr, @iI_append, @iI_appends, @iI_copy, @iI_clear, @iI_max, @iI_min, @iI_usd, @iI_ustr, @iI_nxt, @iI_mkslice, @iI_ext, @iI_fld, @iI_box, @iI_build, @iI_bslice, @iI_brow, @iI_rng, @iI_panic, @iI_b2s, @iI_s2b, @iI_convs⟩

theorem R2 : type_of% @callK_ret ∧ type_of% @callK_panic ∧ type_of% @okV_some ∧ type_of% @okV_ite ∧ type_of% @okS_some ∧ type_of% @okS_ite ∧ type_of% @okP_some ∧ type_of% @okP_ite ∧ type_of% @okB_eq ∧ type_of% @okB_ne ∧ type_of% @okN_int ∧ type_of% @pickK_true ∧ type_of% @pickK_false ∧ type_of% @elsK_some ∧ type_of% @strK_S ∧ type_of% @condK_true ∧ type_of% @condK_false ∧ type_of% @condK_not ∧ type_of% @gK_undef ∧ type_of% @gK_undef' ∧ type_of% @gK_tt ∧ type_of% @gK_tt' ∧ type_of% @gK_ff ∧ type_of% @gK_ff' ∧ type_of% @gK_tf ∧ type_of% @gK_ft ∧ type_of% @Fr.put_some ∧ type_of% @Fr.put_none ∧ type_of% @get_t ∧ type_of% @get_c ∧ type_of% @get_ci ∧ type_of% @get_cf ∧ type_of% @push_mk ∧ type_of% @set_mk :=
  ⟨@callK_ret, @callK_panic, @okV_some, @okV_ite, @okS_some, @okS_ite, @okP_some, @okP_ite, @okB_eq, @okB_ne, @okN_int, @pickK_true, @pickK_false, @elsK_some, @strK_S, @condK_true, @condK_false, @condK_not, @gK_undef, @gK_undef', @gK_tt, @gK_tt', @gK_ff, @gK_ff', @gK_tf, @gK_ft, @Fr.put_some, @Fr.put_none, @get_t, @get_c, @get_ci, @get_cf, @push_mk, @set_mk⟩

theorem R4 : type_of% @gK_dec ∧ type_of% @condK_dec :=
  ⟨@gK_dec, @condK_dec⟩

end Go.Den

/- Den: rules on values and states, as bundles for rewriting. -/
namespace Go.Den
open Go

section
variable {X : Ctx} {f : FuncId} {rd : Bool} {σ : AS} {Q : Post} {e : Env} {ms : List Nat} {K Kp : AV → AS → Prop} {k : IntKind} {a b c : Int} {l m : List UInt8} {n : Nat} {lo : Option Nat} {H L : List AObj} {R : CRes → Prop}

/-! Integers. -/
theorem bin_add : binA .add (.int k a) (.int k b) = some (.int k (k.wrap (a + b))) := by simp [binA, intA]
theorem bin_sub : binA .sub (.int k a) (.int k b) = some (.int k (k.wrap (a - b))) := by simp [binA, intA]
theorem bin_mul : binA .mul (.int k a) (.int k b) = some (.int k (k.wrap (a * b))) := by simp [binA, intA]
theorem bin_quo : binA .quo (.int k a) (.int k b) = if b ≠ 0 then some (.int k (k.wrap (a.tdiv b))) else none := by
  by_cases h : b = 0 <;> simp [binA, intA, h]
theorem bin_rem : binA .rem (.int k a) (.int k b) = if b ≠ 0 then some (.int k (a.tmod b)) else none := by
  by_cases h : b = 0 <;> simp [binA, intA, h]
theorem bin_lss : binA .lss (.int k a) (.int k b) = some (.bool (decide (a < b))) := by simp [binA, intA]
theorem bin_leq : binA .leq (.int k a) (.int k b) = some (.bool (decide (a ≤ b))) := by simp [binA, intA]
theorem bin_gtr : binA .gtr (.int k a) (.int k b) = some (.bool (decide (b < a))) := by simp [binA, intA]
theorem bin_geq : binA .geq (.int k a) (.int k b) = some (.bool (decide (b ≤ a))) := by simp [binA, intA]
theorem bin_and : binA .and (.int k a) (.int k b) = some (.int k (k.wrap (BitVec.ofInt k.bits a &&& BitVec.ofInt k.bits b).toNat)) := by simp [binA, intA, bitsA]
theorem bin_or : binA .or (.int k a) (.int k b) = some (.int k (k.wrap (BitVec.ofInt k.bits a ||| BitVec.ofInt k.bits b).toNat)) := by simp [binA, intA, bitsA]
theorem bin_xor : binA .xor (.int k a) (.int k b) = some (.int k (k.wrap (BitVec.ofInt k.bits a ^^^ BitVec.ofInt k.bits b).toNat)) := by simp [binA, intA, bitsA]
theorem bin_andNot : binA .andNot (.int k a) (.int k b) = some (.int k (k.wrap (BitVec.ofInt k.bits a &&& ~~~ (BitVec.ofInt k.bits b)).toNat)) := by simp [binA, intA, bitsA]
theorem shf_shl {k' : IntKind} : shfA .shl (.int k a) (.int k' b) = if 0 ≤ b then some (.int k (k.wrap (a * 2 ^ (min b.toNat k.bits)))) else none := by
  by_cases h : 0 ≤ b
  · have : ¬ b < 0 := by omega
    simp [shfA, shiftA, h, this]
  · have : b < 0 := by omega
    simp [shfA, shiftA, h, this]
theorem shf_shr {k' : IntKind} : shfA .shr (.int k a) (.int k' b) = if 0 ≤ b then some (.int k (a.fdiv (2 ^ (min b.toNat k.bits)))) else none := by
  by_cases h : 0 ≤ b
  · have : ¬ b < 0 := by omega
    simp [shfA, shiftA, h, this]
  · have : b < 0 := by omega
    simp [shfA, shiftA, h, this]
theorem eq_int : eqA .int (.int k a) (.int k b) = some (decide (a = b)) := by
  simp only [eqA, eqP, if_true]; rw [Bool.eq_iff_iff.2 (show (a == b) = true ↔ decide (a = b) = true by simp)]
theorem eq_bool {x y : Bool} : eqA .bool (.bool x) (.bool y) = some (x == y) := rfl
theorem un_not {x : Bool} : unA .not (.bool x) = some (.bool !x) := rfl
theorem un_neg : unA .neg (.int k a) = some (.int k (k.wrap (0 - a))) := rfl

/-! Strings. -/
theorem eq_str : eqA .str (S l) (S m) = some (decide (l = m)) := by
  simp only [eqA, eqP, S, ByteArray.toList_mk]; rw [Bool.eq_iff_iff.2 (show (l == m) = true ↔ decide (l = m) = true by simp)]
theorem S_add : binA .add (S l) (S m) = if l.length + m.length ≤ strRoom then some (S (l ++ m)) else none := binA_S
theorem len_S : lenA σ .str (S l) = some (.int .i64 l.length) := by simp [lenA, S, size_mk]
theorem idx_S : idxsA (S l) (.int k a) = if 0 ≤ a ∧ a < l.length then some (.int .u8 (l.getD a.toNat 0).toNat) else none := by
  simp only [idxsA, intOf?, S]
  by_cases h : 0 ≤ a
  · by_cases h' : a < l.length
    · have : a.toNat < l.length := by omega
      simp [h, h', this]
    · have : ¬ a.toNat < l.length := by omega
      simp [h, h', this]
  · simp [h]
theorem extract_S (i j : Nat) : (⟨l.toArray⟩ : ByteArray).extract i j = ⟨((l.take j).drop i).toArray⟩ := by
  apply ByteArray.ext
  simp [ByteArray.data_extract, List.drop_take]
theorem sl_S : slstrA (S l) (some (.int k a)) (some (.int k b)) = if 0 ≤ a ∧ a ≤ b ∧ b ≤ l.length then some (S ((l.take b.toNat).drop a.toNat)) else none := by
  simp only [slstrA, S, boundsA, upTo, size_mk]
  by_cases h : 0 ≤ b ∧ b ≤ l.length
  · rw [if_pos h]
    by_cases h' : 0 ≤ a ∧ a ≤ b
    · have e1 : 0 ≤ a ∧ a ≤ (b.toNat : Int) := by omega
      have e2 : 0 ≤ a ∧ a ≤ b ∧ b ≤ l.length := by omega
      simp only [if_pos e1, if_pos e2, extract_S]
    · have e1 : ¬ (0 ≤ a ∧ a ≤ (b.toNat : Int)) := by omega
      have e2 : ¬ (0 ≤ a ∧ a ≤ b ∧ b ≤ l.length) := by omega
      simp only [if_neg e1, if_neg e2]
  · have e2 : ¬ (0 ≤ a ∧ a ≤ b ∧ b ≤ l.length) := by omega
    rw [if_neg h, if_neg e2]
theorem sl_S0 : slstrA (S l) none (some (.int k b)) = if 0 ≤ b ∧ b ≤ l.length then some (S (l.take b.toNat)) else none := by
  simp only [slstrA, S, boundsA, upTo, size_mk]
  by_cases h : 0 ≤ b ∧ b ≤ l.length
  · simp only [if_pos h, extract_S, List.drop_zero]
  · simp only [if_neg h]
theorem sl_S1 : slstrA (S l) (some (.int k a)) none = if 0 ≤ a ∧ a ≤ l.length then some (S (l.drop a.toNat)) else none := by
  simp only [slstrA, S, boundsA, upTo, size_mk]
  by_cases h : 0 ≤ a ∧ a ≤ l.length
  · simp only [if_pos h, extract_S]
    rw [List.take_of_length_le (Nat.le_refl _)]
  · simp only [if_neg h]
theorem sl_S2 : slstrA (S l) none none = some (S l) := by
  simp only [slstrA, S, boundsA, upTo, size_mk, extract_S, List.drop_zero]
  rw [List.take_of_length_le (Nat.le_refl _)]
theorem isTup_S : (S l).isTup = false := rfl
theorem cells_S : (S l).cells = [S l] := rfl
theorem refs_S : (S l).refs = 0 := rfl

/-! Ends. -/
theorem retK_one {t : Nat} : retK X n lo [.t t] R .ret ⟨e, []⟩ σ = R (.ret (finish n lo (e t) σ).1 (finish n lo (e t) σ).2) := by
  simp [retK, killMarks, resultsA_one]
theorem retK_two {t u : Nat} : retK X n lo [.t t, .t u] R .ret ⟨e, []⟩ σ = R (.ret (finish n lo (.tup [e t, e u]) σ).1 (finish n lo (.tup [e t, e u]) σ).2) := by
  simp [retK, killMarks, resultsA_two]
theorem retK_three {t u v : Nat} : retK X n lo [.t t, .t u, .t v] R .ret ⟨e, []⟩ σ = R (.ret (finish n lo (.tup [e t, e u, e v]) σ).1 (finish n lo (.tup [e t, e u, e v]) σ).2) := by
  simp [retK, killMarks, resultsA_three]
theorem retK_none : retK X n lo [] R .ret ⟨e, []⟩ σ = R (.ret (finish n lo (.tup []) σ).1 (finish n lo (.tup []) σ).2) := by
  simp [retK, killMarks, resultsA, resultsL]
theorem retK_none' : retK X n lo [] R .normal ⟨e, []⟩ σ = R (.ret (finish n lo (.tup []) σ).1 (finish n lo (.tup []) σ).2) := by
  simp [retK, killMarks, resultsA, resultsL]

theorem finish_0 {v : AV} : finish n lo v ⟨H, none⟩ = if v.refs ≤ n then (v, ⟨H.take n, lo⟩) else match freeze ⟨H, none⟩ n 12 v with | some v' => (v', ⟨H.take n, lo⟩) | none => (v, ⟨H, joinLo lo none⟩) := by
  by_cases h : v.refs ≤ n
  · rw [if_pos h, finish_low rfl h]
  · rw [if_neg h]; rfl
theorem finish_1 {v : AV} {j : Nat} : finish n lo v ⟨H, some j⟩ = if n ≤ j then (if v.refs ≤ n then (v, ⟨H.take n, lo⟩) else match freeze ⟨H, some j⟩ n 12 v with | some v' => (v', ⟨H.take n, lo⟩) | none => (v, ⟨H, joinLo lo (some j)⟩)) else (v, ⟨H, joinLo lo (some j)⟩) := by
  by_cases hj : n ≤ j
  · rw [if_pos hj]
    by_cases h : v.refs ≤ n
    · rw [if_pos h, finish_low (by simpa using hj) h]
    · rw [if_neg h]; simp only [finish, decide_eq_true_eq, if_pos hj]; rfl
  · rw [if_neg hj]; simp only [finish, decide_eq_true_eq, if_neg hj]
theorem take_self (h : H.length = n) : H.take n = H := by subst h; simp

/-! Boxes. -/
theorem load_ptr {agg : Bool} {m id off : Nat} {lo : Option Nat} : loadA X ⟨H, lo⟩ agg m (.ptr id off) = match H[id]? with
    | some (.box cs _) => part agg m cs off
    | _ => none := rfl
theorem load_eptr {agg : Bool} {m off : Nat} {cs : List AV} : loadA X σ agg m (.eptr cs off) = part agg m cs off := rfl
theorem store_ptr {m id off : Nat} {v : AV} {lo : Option Nat} : storeA ⟨H, lo⟩ m (.ptr id off) v = match H[id]? with
    | some (.box cs tg) => if v.isTup = false ∧ v.cells.length = m ∧ off + m ≤ cs.length then some (AS.set ⟨H, lo⟩ id (.box (splice cs off v.cells) tg) v.refs) else none
    | _ => none := rfl
theorem part_1 {m : Nat} {cs : List AV} {off : Nat} : part false m cs off = cs[off]? := rfl
theorem part_n {m : Nat} {cs : List AV} {off : Nat} : part true m cs off = if off + m ≤ cs.length then some (.agg ((cs.drop off).take m)) else none := rfl
theorem nilck_ptr {id off : Nat} : nilckA (.ptr id off) = some (.ptr id off) := rfl
theorem nilck_rptr {id ver i off : Nat} : nilckA (.rptr id ver i off) = some (.rptr id ver i off) := rfl
theorem nilck_eptr {cs : List AV} {off : Nat} : nilckA (.eptr cs off) = some (.eptr cs off) := rfl
theorem faddr_ptr {id off m : Nat} : faddrA X m (.ptr id off) = some (.ptr id (off + m)) := rfl
theorem faddr_rptr {id ver i off m : Nat} : faddrA X m (.rptr id ver i off) = some (.rptr id ver i (off + m)) := rfl
theorem faddr_eptr {cs : List AV} {off m : Nat} : faddrA X m (.eptr cs off) = some (.eptr cs (off + m)) := rfl
theorem box_int : boxA σ (.int k a) = some (.ptr σ.heap.length 0, σ.push (.box [.int k a] none)) := rfl
theorem box_bool {b : Bool} : boxA σ (.bool b) = some (.ptr σ.heap.length 0, σ.push (.box [.bool b] none)) := rfl
theorem box_S : boxA σ (S l) = some (.ptr σ.heap.length 0, σ.push (.box [S l] none)) := rfl
theorem box_agg {cs : List AV} : boxA σ (.agg cs) = some (.ptr σ.heap.length 0, σ.push (.box cs none)) := rfl
theorem splice_0 {cs vs : List AV} : splice cs 0 vs = vs ++ cs.drop vs.length := by simp [splice]
theorem splice_s {cs vs : List AV} {c : AV} {off : Nat} : splice (c :: cs) (off + 1) vs = c :: splice cs off vs := by
  simp [splice, Nat.add_right_comm]
theorem isTup_int {k : IntKind} {n : Int} : AV.isTup (.int k n) = false := rfl
theorem cells_int {k : IntKind} {n : Int} : AV.cells (.int k n) = [.int k n] := rfl
theorem isTup_bool {b : Bool} : AV.isTup (.bool b) = false := rfl
theorem cells_bool {b : Bool} : AV.cells (.bool b) = [.bool b] := rfl
theorem isTup_ptr {i o : Nat} : AV.isTup (.ptr i o) = false := rfl
theorem cells_ptr {i o : Nat} : AV.cells (.ptr i o) = [.ptr i o] := rfl
theorem isTup_rptr {i v j o : Nat} : AV.isTup (.rptr i v j o) = false := rfl
theorem cells_rptr {i v j o : Nat} : AV.cells (.rptr i v j o) = [.rptr i v j o] := rfl
theorem isTup_eptr {cs : List AV} {o : Nat} : AV.isTup (.eptr cs o) = false := rfl
theorem cells_eptr {cs : List AV} {o : Nat} : AV.cells (.eptr cs o) = [.eptr cs o] := rfl
theorem isTup_nilp  : AV.isTup (.nilp) = false := rfl
theorem cells_nilp  : AV.cells (.nilp) = [.nilp] := rfl
theorem isTup_nils  : AV.isTup (.nils) = false := rfl
theorem cells_nils  : AV.cells (.nils) = [.nils] := rfl
theorem isTup_sl {els : List (List AV)} {c : Bool} : AV.isTup (.sl els c) = false := rfl
theorem cells_sl {els : List (List AV)} {c : Bool} : AV.cells (.sl els c) = [.sl els c] := rfl
theorem isTup_ref {i v z o l : Nat} {c : Bool} : AV.isTup (.ref i v z o l c) = false := rfl
theorem cells_ref {i v z o l : Nat} {c : Bool} : AV.cells (.ref i v z o l c) = [.ref i v z o l c] := rfl
theorem isTup_aref {i z o l : Nat} : AV.isTup (.aref i z o l) = false := rfl
theorem cells_aref {i z o l : Nat} : AV.cells (.aref i z o l) = [.aref i z o l] := rfl
theorem isTup_nilm  : AV.isTup (.nilm) = false := rfl
theorem cells_nilm  : AV.cells (.nilm) = [.nilm] := rfl
theorem isTup_mp {i : Nat} : AV.isTup (.mp i) = false := rfl
theorem cells_mp {i : Nat} : AV.cells (.mp i) = [.mp i] := rfl
theorem isTup_fn {f : Fn} {a b : List AV} : AV.isTup (.fn f a b) = false := rfl
theorem cells_fn {f : Fn} {a b : List AV} : AV.cells (.fn f a b) = [.fn f a b] := rfl
theorem isTup_nilf  : AV.isTup (.nilf) = false := rfl
theorem cells_nilf  : AV.cells (.nilf) = [.nilf] := rfl
theorem isTup_ifc {t : TypeId} {v : AV} : AV.isTup (.ifc t v) = false := rfl
theorem cells_ifc {t : TypeId} {v : AV} : AV.cells (.ifc t v) = [.ifc t v] := rfl
theorem isTup_nili  : AV.isTup (.nili) = false := rfl
theorem cells_nili  : AV.cells (.nili) = [.nili] := rfl
theorem isTup_glob {g : Nat} : AV.isTup (.glob g) = false := rfl
theorem cells_glob {g : Nat} : AV.cells (.glob g) = [.glob g] := rfl
theorem isTup_agg {cs : List AV} : AV.isTup (.agg cs) = false := rfl
theorem cells_agg {cs : List AV} : AV.cells (.agg cs) = cs := rfl
theorem refs_int {k : IntKind} {n : Int} : AV.refs (.int k n) = 0 := by simp [AV.refs]
theorem refs_bool {b : Bool} : AV.refs (.bool b) = 0 := by simp [AV.refs]
theorem refs_ptr {i o : Nat} : AV.refs (.ptr i o) = i + 1 := by simp [AV.refs]
theorem refs_rptr {i v j o : Nat} : AV.refs (.rptr i v j o) = i + 1 := by simp [AV.refs]
theorem refs_nilp  : AV.refs (.nilp) = 0 := by simp [AV.refs]
theorem refs_nils  : AV.refs (.nils) = 0 := by simp [AV.refs]
theorem refs_ref {i v z o l : Nat} {c : Bool} : AV.refs (.ref i v z o l c) = i + 1 := by simp [AV.refs]
theorem refs_aref {i z o l : Nat} : AV.refs (.aref i z o l) = i + 1 := by simp [AV.refs]
theorem refs_nilm  : AV.refs (.nilm) = 0 := by simp [AV.refs]
theorem refs_mp {i : Nat} : AV.refs (.mp i) = i + 1 := by simp [AV.refs]
theorem refs_nilf  : AV.refs (.nilf) = 0 := by simp [AV.refs]
theorem refs_nili  : AV.refs (.nili) = 0 := by simp [AV.refs]
theorem refs_glob {g : Nat} : AV.refs (.glob g) = 0 := by simp [AV.refs]
theorem refs_fn {f : Nat} {a b : List AV} : AV.refs (.fn (.func f) a b) = max (refsL a) (refsL b) := by simp [AV.refs]
theorem refs_ifc {t : TypeId} {v : AV} : AV.refs (.ifc t v) = v.refs := by simp [AV.refs]
theorem refs_agg {cs : List AV} : AV.refs (.agg cs) = refsL cs := by simp [AV.refs]
theorem refs_tup {cs : List AV} : AV.refs (.tup cs) = refsL cs := by simp [AV.refs]
theorem refs_sl {els : List (List AV)} {c : Bool} : AV.refs (.sl els c) = refsLL els := by simp [AV.refs]
theorem refs_eptr {cs : List AV} {o : Nat} : AV.refs (.eptr cs o) = refsL cs := by simp [AV.refs]
theorem refsL_nil : refsL [] = 0 := by simp [refsL]
theorem refsL_cons {a : AV} {as : List AV} : refsL (a :: as) = max a.refs (refsL as) := by simp [refsL]

theorem envOf_0 {a : AV} {as : List AV} : envOf (a :: as) 0 = a := rfl
theorem envOf_s {a : AV} {as : List AV} {n : Nat} : envOf (a :: as) (n + 1) = envOf as n := rfl
theorem envOf_nil {n : Nat} : envOf [] n = .undef := rfl
theorem not_not_t : (!true) = false := rfl
theorem not_not_f : (!false) = true := rfl
end

/-! Slices that are read. -/
structure Rd (σ : AS) (v : AV) (sz : Nat) (els : List (List AV)) : Prop where
  kind : match v with | .nils | .sl .. | .ref .. => True | _ => False
  eq : elems σ sz v = some els
  sizes : ∀ el ∈ els, el.length = sz

def elA (v : AV) (j off : Nat) : AV :=
  match v with
  | .sl els _ => .eptr (els.getD j []) off
  | .ref id ver _ o _ _ => .rptr id ver (o + j) off
  | _ => .junk

section
variable {X : Ctx} {σ : AS} {v : AV} {sz : Nat} {els : List (List AV)} {k : IntKind} {a : Int}

theorem Rd.len (h : Rd σ v sz els) : lenA σ .sl v = some (.int .i64 els.length) := by
  obtain ⟨h1, h2, h3⟩ := h
  cases v <;> simp only [] at h1
  · simp only [elems] at h2; cases h2; rfl
  · simp only [elems] at h2; split at h2 <;> cases h2; rfl
  · simp only [elems] at h2
    split at h2
    · split at h2
      · rename_i hc; cases h2; simp only [lenA]; congr 3; rw [List.length_take, List.length_drop]; omega
      · cases h2
    · cases h2

theorem Rd.addr (h : Rd σ v sz els) : iaddrsA sz v (.int k a) = if 0 ≤ a ∧ a < els.length then some (elA v a.toNat 0) else none := by
  obtain ⟨h1, h2, h3⟩ := h
  cases v <;> simp only [] at h1
  · simp only [elems] at h2; cases h2
    have : ¬ (0 ≤ a ∧ a < (([] : List (List AV)).length : Int)) := by simp
    rw [if_neg this]; rfl
  · simp only [elems] at h2; split at h2 <;> cases h2
    simp only [iaddrsA, intOf?, elA]
    by_cases h0 : 0 ≤ a
    · rw [if_pos h0]
      by_cases hl : a < els.length
      · rw [if_pos ⟨h0, hl⟩]
        have hl' : a.toNat < els.length := by omega
        rw [List.getElem?_eq_getElem hl']
        have := h3 _ (List.getElem_mem hl')
        simp [this, hl']
      · have hl' : els.length ≤ a.toNat := by omega
        rw [List.getElem?_eq_none hl', if_neg (by omega)]
    · rw [if_neg h0, if_neg (by omega)]
  · rename_i id ver z off len clip
    simp only [elems] at h2
    split at h2
    · split at h2
      · rename_i hc; cases h2
        simp only [iaddrsA, intOf?, elA]
        have e : ((List.take len (List.drop off (by assumption))).length : Nat) = len := by rw [List.length_take, List.length_drop]; omega
        rw [e]
        by_cases hl : 0 ≤ a ∧ a < len
        · rw [if_pos ⟨hl.1, hl.2, hc.2.2.1⟩, if_pos hl]
        · rw [if_neg (fun h => hl ⟨h.1, h.2.1⟩), if_neg hl]
      · cases h2
    · cases h2

theorem Rd.load (h : Rd σ v sz els) {j off n : Nat} {agg : Bool} (hj : j < els.length) : loadA X σ agg n (elA v j off) = part agg n (els.getD j []) off := by
  obtain ⟨h1, h2, h3⟩ := h
  cases v <;> simp only [] at h1
  · simp only [elems] at h2; cases h2; simp at hj
  · simp only [elems] at h2; split at h2 <;> cases h2; rfl
  · rename_i id ver z o len clip
    simp only [elems] at h2
    split at h2
    · rename_i v' sz' ty els' hr
      split at h2
      · rename_i hc; cases h2
        have hjl : j < len := by rw [List.length_take] at hj; omega
        have hg : els'[o + j]? = some ((List.take len (List.drop o els')).getD j []) := by
          rw [List.getElem?_eq_getElem (by omega)]
          simp [List.getD_eq_getElem?_getD, List.getElem?_take, hjl, List.getElem?_drop]
          rw [List.getElem?_eq_getElem (by omega)]; rfl
        have hs : ((List.take len (List.drop o els')).getD j []).length = sz := by
          apply h3
          rw [List.getD_eq_getElem?_getD, List.getElem?_eq_getElem hj]
          exact List.getElem_mem hj
        simp only [elA, loadA, hr]
        rw [if_pos hc.1, hg]
        simp only [Option.bind_some]
        rw [hc.2.1, if_pos hs]
      · cases h2
    · cases h2

theorem Rd.faddr (h : Rd σ v sz els) {j off n : Nat} (hj : j < els.length) : faddrA X n (elA v j off) = some (elA v j (off + n)) := by
  obtain ⟨h1, h2, h3⟩ := h
  cases v <;> simp only [] at h1
  · simp only [elems] at h2; cases h2; simp at hj
  · rfl
  · rfl

theorem Rd.sl {els : List (List AV)} {c : Bool} (h : ∀ el ∈ els, el.length = sz) : Rd σ (.sl els c) sz els :=
  ⟨trivial, by simp only [elems]; rw [if_pos]; simpa using h, h⟩
theorem Rd.nils : Rd σ .nils sz [] := ⟨trivial, rfl, by simp⟩

theorem Rd.ext {H L : List AObj} {lo lo' : Option Nat} (h : Rd ⟨H, lo⟩ v sz els) : Rd ⟨H ++ L, lo'⟩ v sz els := by
  obtain ⟨h1, h2, h3⟩ := h
  refine ⟨h1, ?_, h3⟩
  cases v <;> simp only [] at h1
  · exact h2
  · exact h2
  · rename_i id ver z o len clip
    simp only [elems] at h2 ⊢
    split at h2
    · rename_i hr
      rw [List.getElem?_append_left (List.getElem?_eq_some_iff.1 hr).1, hr]; exact h2
    · cases h2
end

theorem foldA_one {f : AV → AV → Option AV} {x : AV} : foldA f [x] = some x := by rw [foldA]
theorem foldA_more {f : AV → AV → Option AV} {x y z : AV} {r : List AV} (h : f x y = some z) : foldA f (x :: y :: r) = foldA f (z :: r) := by rw [foldA, h]
theorem max_2 {k k' : IntKind} {a b : Int} {r : List AV} : foldA maxA (.int k a :: .int k' b :: r) = foldA maxA (.int k (max a b) :: r) := by
  refine foldA_more ?_
  simp only [maxA]; congr 2; omega
theorem min_2 {k k' : IntKind} {a b : Int} {r : List AV} : foldA minA (.int k a :: .int k' b :: r) = foldA minA (.int k (min a b) :: r) := by
  refine foldA_more ?_
  simp only [minA]; congr 2; omega

/-! What was there stays. -/
theorem take_pre {H H' : List AObj} {n : Nat} (h : H.length = n) (hp : H <+: H') : H'.take n = H := by
  subst h; exact List.prefix_iff_eq_take.1 hp |>.symm

theorem Rd.mono {H H' : List AObj} {lo lo' : Option Nat} {v : AV} {sz : Nat} {els : List (List AV)} (h : Rd ⟨H, lo⟩ v sz els) (hp : H <+: H') : Rd ⟨H', lo'⟩ v sz els := by
  obtain ⟨L, rfl⟩ := hp; exact h.ext

/-- A slice that is never written again. -/
def Rv (v : AV) (sz : Nat) (els : List (List AV)) : Prop := ∀ σ, Rd σ v sz els

theorem Rv.len {v : AV} {sz : Nat} {els : List (List AV)} (h : Rv v sz els) {σ : AS} : lenA σ .sl v = some (.int .i64 els.length) := (h σ).len
theorem Rv.addr {v : AV} {sz : Nat} {els : List (List AV)} (h : Rv v sz els) {k : IntKind} {a : Int} : iaddrsA sz v (.int k a) = if 0 ≤ a ∧ a < els.length then some (elA v a.toNat 0) else none := (h ⟨[], none⟩).addr
theorem Rv.load {X : Ctx} {v : AV} {sz : Nat} {els : List (List AV)} (h : Rv v sz els) {σ : AS} {j off n : Nat} {agg : Bool} (hj : j < els.length) : loadA X σ agg n (elA v j off) = part agg n (els.getD j []) off := (h σ).load hj
theorem Rv.faddr {X : Ctx} {v : AV} {sz : Nat} {els : List (List AV)} (h : Rv v sz els) {j off n : Nat} (hj : j < els.length) : faddrA X n (elA v j off) = some (elA v j (off + n)) := (h ⟨[], none⟩).faddr hj
theorem Rv.elems {v : AV} {sz : Nat} {els : List (List AV)} (h : Rv v sz els) {σ : AS} : Den.elems σ sz v = some els := (h σ).eq
theorem Rv.sl {sz : Nat} {els : List (List AV)} {c : Bool} (h : ∀ el ∈ els, el.length = sz) : Rv (.sl els c) sz els := fun _ => .sl h
theorem Rv.nils {sz : Nat} : Rv .nils sz [] := fun _ => .nils

theorem ret_eq {v v' : AV} {H H' : List AObj} {lo : Option Nat} (h : v = v') (h' : H = H') : CRes.ret v ⟨H, lo⟩ = CRes.ret v' ⟨H', lo⟩ := by rw [h, h']

theorem cast_succ {k m : Nat} : ((k + m : Nat) : Int) = (k : Int) + (m : Int) := Int.natCast_add k m

theorem castN {n : Nat} : ((OfNat.ofNat n : Nat) : Int) = OfNat.ofNat n := rfl
theorem cast_zero : ((0 : Nat) : Int) = 0 := rfl

theorem map_getD {α : Type} [Inhabited α] {g : α → List AV} {l : List α} {j : Nat} (h : j < l.length) : (l.map g).getD j [] = g (l.getD j default) := by
  simp [List.getD_eq_getElem?_getD, List.getElem?_eq_getElem h]

section
variable {α : Type} {g : α → List AV} {l : List α} {v : AV} {sz : Nat}
theorem Rv.lenM (h : Rv v sz (l.map g)) {σ : AS} : lenA σ .sl v = some (.int .i64 l.length) := by rw [h.len, List.length_map]
theorem Rv.addrM (h : Rv v sz (l.map g)) {k : IntKind} {a : Int} : iaddrsA sz v (.int k a) = if 0 ≤ a ∧ a < l.length then some (elA v a.toNat 0) else none := by rw [h.addr, List.length_map]
theorem Rv.loadM [Inhabited α] {X : Ctx} (h : Rv v sz (l.map g)) {σ : AS} {j off n : Nat} {agg : Bool} (hj : j < l.length) : loadA X σ agg n (elA v j off) = part agg n (g (l.getD j default)) off := by
  rw [h.load (by simpa using hj), map_getD hj]
theorem Rv.faddrM {X : Ctx} (h : Rv v sz (l.map g)) {j off n : Nat} (hj : j < l.length) : faddrA X n (elA v j off) = some (elA v j (off + n)) := h.faddr (by simpa using hj)
theorem Rd.lenM {σ : AS} (h : Rd σ v sz (l.map g)) : lenA σ .sl v = some (.int .i64 l.length) := by rw [h.len, List.length_map]
theorem Rd.addrM {σ : AS} (h : Rd σ v sz (l.map g)) {k : IntKind} {a : Int} : iaddrsA sz v (.int k a) = if 0 ≤ a ∧ a < l.length then some (elA v a.toNat 0) else none := by rw [h.addr, List.length_map]
theorem Rd.loadM [Inhabited α] {X : Ctx} {σ : AS} (h : Rd σ v sz (l.map g)) {j off n : Nat} {agg : Bool} (hj : j < l.length) : loadA X σ agg n (elA v j off) = part agg n (g (l.getD j default)) off := by
  rw [h.load (by simpa using hj), map_getD hj]
theorem Rd.faddrM {X : Ctx} {σ : AS} (h : Rd σ v sz (l.map g)) {j off n : Nat} (hj : j < l.length) : faddrA X n (elA v j off) = some (elA v j (off + n)) := h.faddr (by simpa using hj)
end

theorem V1 : type_of% @bin_add ∧ type_of% @bin_sub ∧ type_of% @bin_mul ∧ type_of% @bin_quo ∧ type_of% @bin_rem ∧ type_of% @bin_lss ∧ type_of% @bin_leq ∧ type_of% @bin_gtr ∧ type_of% @bin_geq ∧ type_of% @bin_and ∧ type_of% @bin_or ∧ type_of% @bin_xor ∧ type_of% @bin_andNot ∧ type_of% @shf_shl ∧ type_of% @shf_shr ∧ type_of% @eq_int ∧ type_of% @eq_bool ∧ type_of% @un_not ∧ type_of% @un_neg ∧ type_of% @eq_str ∧ type_of% @S_add ∧ type_of% @len_S ∧ type_of% @idx_S ∧ type_of% @sl_S ∧ type_of% @sl_S0 ∧ type_of% @sl_S1 ∧ type_of% @sl_S2 ∧ type_of% @isTup_S ∧ type_of% @cells_S ∧ type_of% @refs_S ∧ type_of% @retK_one ∧ type_of% @retK_two ∧ type_of% @retK_three ∧ type_of% @retK_none ∧ type_of% @retK_none' ∧ type_of% @load_ptr ∧ type_of% @load_eptr ∧ type_of% @store_ptr ∧ type_of% @part_1 ∧ type_of% @part_n ∧ type_of% @nilck_ptr ∧ type_of% @nilck_rptr ∧ type_of% @nilck_eptr ∧ type_of% @faddr_ptr ∧ type_of% @faddr_rptr ∧ type_of% @faddr_eptr ∧ type_of% @box_int ∧ type_of% @box_bool ∧ type_of% @box_S ∧ type_of% @box_agg ∧ type_of% @splice_0 ∧ type_of% @splice_s ∧ type_of% @set_at ∧ type_of% @selB_true ∧ type_of% @selB_false :=
  ⟨@bin_add, @bin_sub, @bin_mul, @bin_quo, @bin_rem, @bin_lss, @bin_leq, @bin_gtr, @bin_geq, @bin_and, @bin_or, @bin_xor, @bin_andNot, @shf_shl, @shf_shr, @eq_int, @eq_bool, @un_not, @un_neg, @eq_str, @S_add, @len_S, @idx_S, @sl_S, @sl_S0, @sl_S1, @sl_S2, @isTup_S, @cells_S, @refs_S, @retK_one, @retK_two, @retK_three, @retK_none, @retK_none', @load_ptr, @load_eptr, @store_ptr, @part_1, @part_n, @nilck_ptr, @nilck_rptr, @nilck_eptr, @faddr_ptr, @faddr_rptr, @faddr_eptr, @box_int, @box_bool, @box_S, @box_agg, @splice_0, @splice_s, @set_at, @selB_true, @selB_false⟩

theorem V3 : type_of% @envOf_0 ∧ type_of% @cast_zero ∧ type_of% @cast_succ ∧ type_of% @Int.toNat_natCast ∧ type_of% @Int.natCast_nonneg ∧ type_of% @foldA_one ∧ type_of% @max_2 ∧ type_of% @min_2 ∧ type_of% @envOf_s ∧ type_of% @envOf_nil ∧ type_of% @not_not_t ∧ type_of% @not_not_f ∧ type_of% @Option.map_some.{0,0} ∧ type_of% @Option.map_none.{0,0} ∧ type_of% @List.map_cons.{0,0} ∧ type_of% @List.map_nil.{0,0} ∧ type_of% @not_false_eq_true ∧ type_of% @true_and ∧ type_of% @and_true ∧ type_of% @Nat.zero_le ∧ type_of% @List.length_cons.{0} ∧ type_of% @List.length_nil.{0} ∧ type_of% @List.length_append.{0} ∧ type_of% @List.length_map.{0,0} ∧ type_of% @if_true.{1} ∧ type_of% @if_false.{1} ∧ type_of% @if_true.{0} ∧ type_of% @if_false.{0} ∧ type_of% @ne_eq.{1} ∧ type_of% @List.cons_append.{0} ∧ type_of% @List.nil_append.{0} ∧ type_of% @List.append_nil.{0} ∧ type_of% @Nat.zero_add ∧ type_of% @List.length_set.{0} ∧ type_of% @List.append_assoc.{0} ∧ type_of% @List.getElem?_cons_zero.{0} ∧ type_of% @List.getElem?_cons_succ.{0} ∧ type_of% @List.set_cons_zero.{0} ∧ type_of% @List.set_cons_succ.{0} ∧ type_of% @List.drop_succ_cons.{0} ∧ type_of% @List.drop_zero.{0} ∧ type_of% @List.take_succ_cons.{0} ∧ type_of% @List.take_zero.{0} ∧ type_of% @Nat.max_self ∧ type_of% @Nat.zero_max ∧ type_of% @Nat.max_zero :=
  ⟨@envOf_0, @cast_zero, @cast_succ, @Int.toNat_natCast, @Int.natCast_nonneg, @foldA_one, @max_2, @min_2, @envOf_s, @envOf_nil, @not_not_t, @not_not_f, @Option.map_some.{0,0}, @Option.map_none.{0,0}, @List.map_cons.{0,0}, @List.map_nil.{0,0}, @not_false_eq_true, @true_and, @and_true, @Nat.zero_le, @List.length_cons.{0}, @List.length_nil.{0}, @List.length_append.{0}, @List.length_map.{0,0}, @if_true.{1}, @if_false.{1}, @if_true.{0}, @if_false.{0}, @ne_eq.{1}, @List.cons_append.{0}, @List.nil_append.{0}, @List.append_nil.{0}, @Nat.zero_add, @List.length_set.{0}, @List.append_assoc.{0}, @List.getElem?_cons_zero.{0}, @List.getElem?_cons_succ.{0}, @List.set_cons_zero.{0}, @List.set_cons_succ.{0}, @List.drop_succ_cons.{0}, @List.drop_zero.{0}, @List.take_succ_cons.{0}, @List.take_zero.{0}, @Nat.max_self, @Nat.zero_max, @Nat.max_zero⟩

theorem F1 : type_of% @finish_0 ∧ type_of% @finish_1 := ⟨@finish_0, @finish_1⟩

theorem V2 : type_of% @isTup_int ∧ type_of% @isTup_bool ∧ type_of% @isTup_ptr ∧ type_of% @isTup_rptr ∧ type_of% @isTup_eptr ∧ type_of% @isTup_nilp ∧ type_of% @isTup_nils ∧ type_of% @isTup_sl ∧ type_of% @isTup_ref ∧ type_of% @isTup_aref ∧ type_of% @isTup_nilm ∧ type_of% @isTup_mp ∧ type_of% @isTup_fn ∧ type_of% @isTup_nilf ∧ type_of% @isTup_ifc ∧ type_of% @isTup_nili ∧ type_of% @isTup_glob ∧ type_of% @isTup_agg ∧ type_of% @cells_int ∧ type_of% @cells_bool ∧ type_of% @cells_ptr ∧ type_of% @cells_rptr ∧ type_of% @cells_eptr ∧ type_of% @cells_nilp ∧ type_of% @cells_nils ∧ type_of% @cells_sl ∧ type_of% @cells_ref ∧ type_of% @cells_aref ∧ type_of% @cells_nilm ∧ type_of% @cells_mp ∧ type_of% @cells_fn ∧ type_of% @cells_nilf ∧ type_of% @cells_ifc ∧ type_of% @cells_nili ∧ type_of% @cells_glob ∧ type_of% @cells_agg ∧ type_of% @refs_int ∧ type_of% @refs_bool ∧ type_of% @refs_ptr ∧ type_of% @refs_rptr ∧ type_of% @refs_nilp ∧ type_of% @refs_nils ∧ type_of% @refs_ref ∧ type_of% @refs_aref ∧ type_of% @refs_nilm ∧ type_of% @refs_mp ∧ type_of% @refs_nilf ∧ type_of% @refs_nili ∧ type_of% @refs_glob ∧ type_of% @refs_fn ∧ type_of% @refs_ifc ∧ type_of% @refs_agg ∧ type_of% @refs_tup ∧ type_of% @refs_sl ∧ type_of% @refs_eptr ∧ type_of% @refsL_nil ∧ type_of% @refsL_cons :=
  ⟨@isTup_int, @isTup_bool, @isTup_ptr, @isTup_rptr, @isTup_eptr, @isTup_nilp, @isTup_nils, @isTup_sl, @isTup_ref, @isTup_aref, @isTup_nilm, @isTup_mp, @isTup_fn, @isTup_nilf, @isTup_ifc, @isTup_nili, @isTup_glob, @isTup_agg, @cells_int, @cells_bool, @cells_ptr, @cells_rptr, @cells_eptr, @cells_nilp, @cells_nils, @cells_sl, @cells_ref, @cells_aref, @cells_nilm, @cells_mp, @cells_fn, @cells_nilf, @cells_ifc, @cells_nili, @cells_glob, @cells_agg, @refs_int, @refs_bool, @refs_ptr, @refs_rptr, @refs_nilp, @refs_nils, @refs_ref, @refs_aref, @refs_nilm, @refs_mp, @refs_nilf, @refs_nili, @refs_glob, @refs_fn, @refs_ifc, @refs_agg, @refs_tup, @refs_sl, @refs_eptr, @refsL_nil, @refsL_cons⟩

end Go.Den

/- Den: what code leaves alone; cuts. -/
namespace Go.Den
open Go

def dsts : List Ins → List Nat
  | [] => []
  | o :: os => match o.dst with
    | some d => d :: dsts os
    | none => dsts os

def dstsD : List (Ins × List Nat) → List Nat
  | [] => []
  | o :: os => match o.1.dst with
    | some d => d :: dstsD os
    | none => dstsD os

def wrs : PC → List Nat
  | .skip | .exit _ | .ret => []
  | .reg os => dsts os
  | .dreg os => dstsD os
  | .seq a b => wrs a ++ wrs b
  | .cond _ a b => wrs a ++ wrs b
  | .block _ b => wrs b
  | .loop b => wrs b
  | .rfun .. => []

theorem Fr.put_env {fr : Fr} {d : Option Nat} {v : AV} {t : Nat} (h : d ≠ some t) : (fr.put d v).env t = fr.env t := by
  cases d with
  | none => rfl
  | some d =>
    simp only [Fr.put, Env.set]
    rw [if_neg]; intro e; exact h (by rw [e])

section
variable {X : Ctx} {C : Caller} {L : Loops}

theorem runOps_frame : ∀ (os : List Ins) (fr fr' : Fr) (σ σ' : AS) (ex : Ex), runOps X C os fr σ = some (ex, fr', σ') → ∀ t, t ∉ dsts os → fr'.env t = fr.env t
  | [], fr, fr', σ, σ', ex, h, t, ht => by simp only [runOps, Option.some.injEq, Prod.mk.injEq] at h; rw [h.2.1]
  | o :: os, fr, fr', σ, σ', ex, h, t, ht => by
    have hd : o.dst ≠ some t := by
      intro e; apply ht; simp [dsts, e]
    have ht' : t ∉ dsts os := by
      intro e; apply ht; simp only [dsts]; split
      · exact List.mem_cons_of_mem _ e
      · exact e
    simp only [runOps] at h
    split at h
    · split at h
      · rw [runOps_frame os _ _ _ _ _ h t ht', Fr.put_env hd]
      · simp only [Option.some.injEq, Prod.mk.injEq] at h; rw [h.2.1]
      · cases h
    · rw [runOps_frame os _ _ _ _ _ h t ht', Fr.put_env hd]

theorem runOpsD_frame : ∀ (os : List (Ins × List Nat)) (fps : List FP) (fr fr' : Fr) (σ σ' : AS) (ex : Ex), runOpsD X C fps os fr σ = some (ex, fr', σ') → ∀ t, t ∉ dstsD os → fr'.env t = fr.env t
  | [], fps, fr, fr', σ, σ', ex, h, t, ht => by simp only [runOpsD, Option.some.injEq, Prod.mk.injEq] at h; rw [h.2.1]
  | o :: os, fps, fr, fr', σ, σ', ex, h, t, ht => by
    have hd : o.1.dst ≠ some t := by
      intro e; apply ht; simp [dstsD, e]
    have ht' : t ∉ dstsD os := by
      intro e; apply ht; simp only [dstsD]; split
      · exact List.mem_cons_of_mem _ e
      · exact e
    simp only [runOpsD] at h
    split at h
    · split at h
      · split at h
        · rw [runOpsD_frame os _ _ _ _ _ _ h t ht', Fr.put_env hd]
        · cases h
      · cases h
    · rw [runOpsD_frame os _ _ _ _ _ _ h t ht', Fr.put_env hd]

theorem runCode_frame {fid : FuncId} {rd : Bool} : ∀ (pc : PC) (fr fr' : Fr) (σ σ' : AS) (ex : Ex), runCode X C Lw fid rd pc fr σ = some (ex, fr', σ') → ∀ t, t ∉ wrs pc → fr'.env t = fr.env t
  | .skip, fr, fr', σ, σ', ex, h, t, ht => by simp only [runCode, Option.some.injEq, Prod.mk.injEq] at h; rw [h.2.1]
  | .exit _, fr, fr', σ, σ', ex, h, t, ht => by simp only [runCode, Option.some.injEq, Prod.mk.injEq] at h; rw [h.2.1]
  | .ret, fr, fr', σ, σ', ex, h, t, ht => by simp only [runCode, Option.some.injEq, Prod.mk.injEq] at h; rw [h.2.1]
  | .seq a b, fr, fr', σ, σ', ex, h, t, ht => by
    simp only [wrs, List.mem_append, not_or] at ht
    simp only [runCode] at h
    split at h
    · rename_i hx
      rw [runCode_frame b _ _ _ _ _ h t ht.2, runCode_frame a _ _ _ _ _ hx t ht.1]
    · exact runCode_frame a _ _ _ _ _ h t ht.1
  | .cond c a b, fr, fr', σ, σ', ex, h, t, ht => by
    simp only [wrs, List.mem_append, not_or] at ht
    simp only [runCode] at h
    split at h
    · split at h
      · exact runCode_frame a _ _ _ _ _ h t ht.1
      · exact runCode_frame b _ _ _ _ _ h t ht.2
    · cases h
  | .block id body, fr, fr', σ, σ', ex, h, t, ht => by
    simp only [wrs] at ht
    simp only [runCode] at h
    split at h
    · rename_i hx
      split at h <;> simp only [Option.some.injEq, Prod.mk.injEq] at h <;> rw [← h.2.1] <;> exact runCode_frame body _ _ _ _ _ hx t ht
    · exact runCode_frame body _ _ _ _ _ h t ht
  | .loop body, fr, fr', σ, σ', ex, h, t, ht => by
    simp only [wrs] at ht
    simp only [runCode] at h
    obtain ⟨n, hn⟩ := Lw_fuel h
    clear h
    induction n generalizing fr σ with
    | zero => simp [iter] at hn
    | succ n ih =>
      rw [iter] at hn
      split at hn
      · rename_i hx
        rw [ih _ _ hn, runCode_frame body _ _ _ _ _ hx t ht]
      · exact runCode_frame body _ _ _ _ _ hn t ht
  | .reg os, fr, fr', σ, σ', ex, h, t, ht => by
    simp only [runCode] at h
    exact runOps_frame os _ _ _ _ _ h t ht
  | .dreg os, fr, fr', σ, σ', ex, h, t, ht => by
    simp only [runCode] at h
    exact runOpsD_frame os _ _ _ _ _ _ h t ht
  | .rfun g ps as bd, fr, fr', σ, σ', ex, h, t, ht => by
    simp only [runCode] at h
    split at h
    · cases h
    · split at h
      · split at h
        · simp only [endLoop] at h
          split at h
          · split at h
            · cases h
            · split at h
              · simp only [Option.some.injEq, Prod.mk.injEq] at h; rw [← h.2.1]
              · split at h
                · simp only [Option.some.injEq, Prod.mk.injEq] at h; rw [← h.2.1]
                · cases h
          · cases h
        · simp only [Option.some.injEq, Prod.mk.injEq] at h; rw [← h.2.1]
        · cases h
      · cases h
end

def inW : List Nat → Nat → Bool
  | [], _ => false
  | a :: as, t => a == t || inW as t

theorem inW_iff {t : Nat} : ∀ {W : List Nat}, inW W t = true ↔ t ∈ W
  | [] => by simp [inW]
  | a :: as => by
    simp only [inW, Bool.or_eq_true, beq_iff_eq, List.mem_cons]
    rw [inW_iff]
    constructor
    · rintro (e | e)
      · exact .inl e.symm
      · exact .inr e
    · rintro (e | e)
      · exact .inl e.symm
      · exact .inr e

/-- Nothing is known of these temporaries any more. -/
def Env.over (W : List Nat) (e0 e : Env) : Env := fun t => if inW W t then e0 t else e t

def selE (b : Bool) (e0 e : Env) (t : Nat) : AV := match b with | true => e0 t | false => e t
theorem selE_true {e0 e : Env} {t : Nat} : selE true e0 e t = e0 t := rfl
theorem selE_false {e0 e : Env} {t : Nat} : selE false e0 e t = e t := rfl
theorem over_at {W : List Nat} {e0 e : Env} {t : Nat} : Env.over W e0 e t = selE (inW W t) e0 e t := by
  unfold Env.over selE; cases inW W t <;> rfl

theorem over_frame {W : List Nat} {e e' : Env} (h : ∀ t, t ∉ W → e' t = e t) : e' = Env.over W e' e := by
  funext t
  unfold Env.over
  split
  · rfl
  · rename_i hn; exact h t (fun hm => hn (inW_iff.2 hm))

theorem set_frame {W : List Nat} {e e' : Env} {r : Nat} {v : AV} (h : ∀ t, t ∉ W → e' t = e t) (hr : e' r = v) : e' = (Env.over W e' e).set r v := by
  funext t
  unfold Env.set
  split
  · rename_i ht; subst ht; exact hr
  · exact congrFun (over_frame h) t

section
variable {X : Ctx} {f : FuncId} {rd : Bool} {σ σ₂ : AS} {Q : Post} {e : Env} {ms : List Nat} {t : Nat} {b c : Bool} {d : Option Nat} {i : I} {os : List Ins}

def cutK (r : Nat) (v : AV) (ms : List Nat) (σ₂ : AS) (Q : Post) : Post
  | .normal, fr, σ' => fr.env r = v ∧ fr.marks = ms ∧ σ' = σ₂
  | ex, fr, σ' => Q ex fr σ'

theorem cutK_normal {r : Nat} {v : AV} {ms ms' : List Nat} : cutK r v ms σ₂ Q .normal ⟨e, ms'⟩ σ = (e r = v ∧ ms' = ms ∧ σ = σ₂) := rfl

theorem wpO_cut (r : Nat) (v : AV) (h1 : wpO X os ⟨e, ms⟩ σ (cutK r v ms σ₂ Q)) (h2 : ∀ e0, Q .normal ⟨(Env.over (dsts os) e0 e).set r v, ms⟩ σ₂) : wpO X os ⟨e, ms⟩ σ Q := by
  obtain ⟨ex, fr', σ', hr, hq⟩ := h1
  have hf := runOps_frame os _ _ _ _ _ hr
  refine ⟨ex, fr', σ', hr, ?_⟩
  cases ex with
  | normal =>
    obtain ⟨h3, h4, h5⟩ := hq
    have e1 := set_frame (e' := fr'.env) hf h3
    have := h2 fr'.env
    rw [← e1, ← h4, ← h5] at this
    exact this
  | _ => exact hq

/-- The rest of a region from a guard on: its end's one value. -/
theorem gK_cutS (σ₂ : AS) (r : Nat) (v : AV) {cc : AV} (hc : e t = cc) (h1 : gK X t b d i os e ms σ (cutK r v ms σ₂ Q) cc) (h2 : ∀ e0, Q .normal ⟨(Env.over (dsts (⟨none, d, i⟩ :: os)) e0 e).set r v, ms⟩ σ₂) : gK X t b d i os e ms σ Q cc := by
  subst hc
  have key : ∀ Q, gK X t b d i os e ms σ Q (e t) = wpO X (⟨some (t, b), d, i⟩ :: os) ⟨e, ms⟩ σ Q := by
    intro Q
    cases b
    · exact wO_gf.symm
    · exact wO_gt.symm
  rw [key] at h1 ⊢
  exact wpO_cut r v h1 h2

theorem gK_cut (r : Nat) (v : AV) {cc : AV} (hc : e t = cc) (h1 : gK X t b d i os e ms σ (cutK r v ms σ Q) cc) (h2 : ∀ e0, Q .normal ⟨(Env.over (dsts (⟨none, d, i⟩ :: os)) e0 e).set r v, ms⟩ σ) : gK X t b d i os e ms σ Q cc := gK_cutS σ r v hc h1 h2

theorem wp_cut {p q : PC} (r : Nat) (v : AV) (σ₂ : AS) (h1 : wp X f rd p ⟨e, ms⟩ σ (cutK r v ms σ₂ (seqK X f rd q Q))) (h2 : ∀ e0, wp X f rd q ⟨(Env.over (wrs p) e0 e).set r v, ms⟩ σ₂ Q) : wp X f rd (.seq p q) ⟨e, ms⟩ σ Q := by
  rw [wp_seq]
  obtain ⟨ex, fr', σ', hr, hq⟩ := h1
  have hf := runCode_frame p _ _ _ _ _ hr
  refine ⟨ex, fr', σ', hr, ?_⟩
  cases ex with
  | normal =>
    obtain ⟨h3, h4, h5⟩ := hq
    have e1 := set_frame (e' := fr'.env) hf h3
    have := h2 fr'.env
    rw [← e1, ← h4, ← h5] at this
    exact this
  | _ => exact hq
end

/-- Of an environment, these alone. -/
def keepE (e : Env) : List Nat → Env → Env
  | [], e0 => e0
  | t :: ts, e0 => (keepE e ts e0).set t (e t)

theorem keepE_eq {W : List Nat} {e e' : Env} (h : ∀ t, t ∉ W → e' t = e t) : ∀ ks : List Nat, ks.all (fun k => !inW W k) = true → keepE e ks e' = e'
  | [], _ => rfl
  | k :: ks, hk => by
    simp only [List.all_cons, Bool.and_eq_true] at hk
    have hn : k ∉ W := by
      intro hm
      have := inW_iff.2 hm
      rw [this] at hk; simp at hk
    simp only [keepE]
    rw [keepE_eq h ks hk.2, ← h k hn, Env.set_self]

section
variable {X : Ctx} {f : FuncId} {rd : Bool} {σ : AS} {Q : Post} {e : Env} {ms : List Nat} {t : Nat} {b c : Bool} {d : Option Nat} {i : I} {os : List Ins}

theorem wpO_keep (σ₂ : AS) (r : Nat) (v : AV) (ks : List Nat) (hk : ks.all (fun k => !inW (dsts os) k) = true) (h1 : wpO X os ⟨e, ms⟩ σ (cutK r v ms σ₂ Q)) (h2 : ∀ e0, Q .normal ⟨(keepE e ks e0).set r v, ms⟩ σ₂) : wpO X os ⟨e, ms⟩ σ Q := by
  obtain ⟨ex, fr', σ', hr, hq⟩ := h1
  have hf := runOps_frame os _ _ _ _ _ hr
  refine ⟨ex, fr', σ', hr, ?_⟩
  cases ex with
  | normal =>
    obtain ⟨h3, h4, h5⟩ := hq
    have := h2 fr'.env
    rw [keepE_eq hf ks hk, ← h3, Env.set_self, ← h4, ← h5] at this
    exact this
  | _ => exact hq

theorem gK_keep (r : Nat) (v : AV) (ks : List Nat) {cc : AV} (hc : e t = cc) (hk : ks.all (fun k => !inW (dsts (⟨none, d, i⟩ :: os)) k) = true) (h1 : gK X t b d i os e ms σ (cutK r v ms σ Q) cc) (h2 : ∀ e0, Q .normal ⟨(keepE e ks e0).set r v, ms⟩ σ) : gK X t b d i os e ms σ Q cc := by
  subst hc
  have key : ∀ Q, gK X t b d i os e ms σ Q (e t) = wpO X (⟨some (t, b), d, i⟩ :: os) ⟨e, ms⟩ σ Q := by
    intro Q
    cases b
    · exact wO_gf.symm
    · exact wO_gt.symm
  rw [key] at h1 ⊢
  exact wpO_keep σ r v ks hk h1 h2

theorem condK_keepS {p q : PC} {cc : AV} (r : Nat) (v : AV) (ks : List Nat) (σ₂ : AS) (hk : ks.all (fun k => !inW (wrs p ++ wrs q) k) = true) (h1 : condK X f rd p q ⟨e, ms⟩ σ (cutK r v ms σ₂ Q) cc) (h2 : ∀ e0, Q .normal ⟨(keepE e ks e0).set r v, ms⟩ σ₂) : condK X f rd p q ⟨e, ms⟩ σ Q cc := by
  have key : ∀ Q, condK X f rd p q ⟨e, ms⟩ σ Q cc = wp X f rd (.cond (.c cc) p q) ⟨e, ms⟩ σ Q := fun Q => by rw [wp_cond']; rfl
  rw [key] at h1 ⊢
  obtain ⟨ex, fr', σ', hr, hq⟩ := h1
  have hf := runCode_frame (.cond (.c cc) p q) _ _ _ _ _ hr
  refine ⟨ex, fr', σ', hr, ?_⟩
  cases ex with
  | normal =>
    obtain ⟨h3, h4, h5⟩ := hq
    have := h2 fr'.env
    rw [keepE_eq hf ks hk, ← h3, Env.set_self, ← h4, ← h5] at this
    exact this
  | _ => exact hq

theorem condK_keep {p q : PC} {cc : AV} (r : Nat) (v : AV) (ks : List Nat) (hk : ks.all (fun k => !inW (wrs p ++ wrs q) k) = true) (h1 : condK X f rd p q ⟨e, ms⟩ σ (cutK r v ms σ Q) cc) (h2 : ∀ e0, Q .normal ⟨(keepE e ks e0).set r v, ms⟩ σ) : condK X f rd p q ⟨e, ms⟩ σ Q cc := condK_keepS r v ks σ hk h1 h2

def cutP (r : Nat) (v : AV) (ms : List Nat) (P : AS → Prop) (Q : Post) : Post
  | .normal, fr, σ' => fr.env r = v ∧ fr.marks = ms ∧ P σ'
  | ex, fr, σ' => Q ex fr σ'

theorem cutP_normal {r : Nat} {v : AV} {ms ms' : List Nat} {P : AS → Prop} : cutP r v ms P Q .normal ⟨e, ms'⟩ σ = (e r = v ∧ ms' = ms ∧ P σ) := rfl

theorem condK_keepP {p q : PC} {cc : AV} (r : Nat) (v : AV) (ks : List Nat) (P : AS → Prop) (hk : ks.all (fun k => !inW (wrs p ++ wrs q) k) = true) (h1 : condK X f rd p q ⟨e, ms⟩ σ (cutP r v ms P Q) cc) (h2 : ∀ e0 σ₂, P σ₂ → Q .normal ⟨(keepE e ks e0).set r v, ms⟩ σ₂) : condK X f rd p q ⟨e, ms⟩ σ Q cc := by
  have key : ∀ Q, condK X f rd p q ⟨e, ms⟩ σ Q cc = wp X f rd (.cond (.c cc) p q) ⟨e, ms⟩ σ Q := fun Q => by rw [wp_cond']; rfl
  rw [key] at h1 ⊢
  obtain ⟨ex, fr', σ', hr, hq⟩ := h1
  have hf := runCode_frame (.cond (.c cc) p q) _ _ _ _ _ hr
  refine ⟨ex, fr', σ', hr, ?_⟩
  cases ex with
  | normal =>
    obtain ⟨h3, h4, h5⟩ := hq
    have := h2 fr'.env σ' h5
    rw [keepE_eq hf ks hk, ← h3, Env.set_self, ← h4] at this
    exact this
  | _ => exact hq

/-- Where ways meet again: what holds there of all of them. -/
def midK (P : Env → List AObj → Option Nat → Prop) (Q : Post) : Post
  | .normal, fr, σ' => fr.marks = [] ∧ P fr.env σ'.heap σ'.lo
  | ex, fr, σ' => Q ex fr σ'
theorem midK_normal {P : Env → List AObj → Option Nat → Prop} {H : List AObj} {lo : Option Nat} : midK P Q .normal ⟨e, []⟩ ⟨H, lo⟩ = P e H lo := by simp [midK]
theorem midK_exit {P : Env → List AObj → Option Nat → Prop} {j : Nat} {fr : Fr} : midK P Q (.exit j) fr σ = Q (.exit j) fr σ := rfl
theorem midK_ret {P : Env → List AObj → Option Nat → Prop} {fr : Fr} : midK P Q .ret fr σ = Q .ret fr σ := rfl

theorem condK_mid {p q : PC} {cc : AV} (P : Env → List AObj → Option Nat → Prop) (h1 : condK X f rd p q ⟨e, []⟩ σ (midK P Q) cc) (h2 : ∀ e H lo, P e H lo → Q .normal ⟨e, []⟩ ⟨H, lo⟩) : condK X f rd p q ⟨e, []⟩ σ Q cc := by
  have key : ∀ Q, condK X f rd p q ⟨e, []⟩ σ Q cc = wp X f rd (.cond (.c cc) p q) ⟨e, []⟩ σ Q := fun Q => by rw [wp_cond']; rfl
  rw [key] at h1 ⊢
  refine wp_mono h1 ?_
  rintro ex ⟨e', ms⟩ ⟨H, lo⟩ h
  cases ex with
  | normal => obtain ⟨h3, h4⟩ := h; simp only at h3 h4; subst h3; exact h2 _ _ _ h4
  | _ => exact h

theorem wp_keepP {p q : PC} (r : Nat) (v : AV) (ks : List Nat) (P : AS → Prop) (hk : ks.all (fun k => !inW (wrs p) k) = true) (h1 : wp X f rd p ⟨e, ms⟩ σ (cutP r v ms P (seqK X f rd q Q))) (h2 : ∀ e0 σ₂, P σ₂ → wp X f rd q ⟨(keepE e ks e0).set r v, ms⟩ σ₂ Q) : wp X f rd (.seq p q) ⟨e, ms⟩ σ Q := by
  rw [wp_seq]
  obtain ⟨ex, fr', σ', hr, hq⟩ := h1
  have hf := runCode_frame p _ _ _ _ _ hr
  refine ⟨ex, fr', σ', hr, ?_⟩
  cases ex with
  | normal =>
    obtain ⟨h3, h4, h5⟩ := hq
    have := h2 fr'.env σ' h5
    rw [keepE_eq hf ks hk, ← h3, Env.set_self, ← h4] at this
    exact this
  | _ => exact hq

theorem wp_keep {p q : PC} (r : Nat) (v : AV) (ks : List Nat) (σ₂ : AS) (hk : ks.all (fun k => !inW (wrs p) k) = true) (h1 : wp X f rd p ⟨e, ms⟩ σ (cutK r v ms σ₂ (seqK X f rd q Q))) (h2 : ∀ e0, wp X f rd q ⟨(keepE e ks e0).set r v, ms⟩ σ₂ Q) : wp X f rd (.seq p q) ⟨e, ms⟩ σ Q := by
  rw [wp_seq]
  obtain ⟨ex, fr', σ', hr, hq⟩ := h1
  have hf := runCode_frame p _ _ _ _ _ hr
  refine ⟨ex, fr', σ', hr, ?_⟩
  cases ex with
  | normal =>
    obtain ⟨h3, h4, h5⟩ := hq
    have := h2 fr'.env
    rw [keepE_eq hf ks hk, ← h3, Env.set_self, ← h4, ← h5] at this
    exact this
  | _ => exact hq
end

/-! Regions of which Go leaves the order open. -/
def fpL (n : Nat) (a : AV) : FP := match a with
  | .ptr id off => .rd id off (Nat.max n 1)
  | .eptr .. => .no
  | .glob _ => .no
  | _ => .all
def fpS (n : Nat) (a : AV) : FP := match a with
  | .ptr id off => .wr id off n
  | _ => .all
noncomputable def fpC (σ σ' : AS) : FP := open Classical in if σ' = σ then .q else .all
section
variable {e : Env} {σ σ' : AS}
theorem fp_mov {x : Opd} : fpOf (.mov x) e σ σ' = .no := rfl
theorem fp_pick {c : Opd} {a : Opd} {b : Opd} : fpOf (.pick c a b) e σ σ' = .no := rfl
theorem fp_build {z : List AV} {ps : List (Nat × Nat × Opd)} : fpOf (.build z ps) e σ σ' = .no := rfl
theorem fp_bslice {z : List AV} {n : Nat} {ps : List (Nat × Nat × Opd)} : fpOf (.bslice z n ps) e σ σ' = .no := rfl
theorem fp_nilck {x : Opd} : fpOf (.nilck x) e σ σ' = .no := rfl
theorem fp_bin {op : BinOp} {x : Opd} {y : Opd} : fpOf (.bin op x y) e σ σ' = .no := rfl
theorem fp_shf {op : BinOp} {x : Opd} {y : Opd} : fpOf (.shf op x y) e σ σ' = .no := rfl
theorem fp_eq {k : EK} {x : Opd} {y : Opd} : fpOf (.eq k x y) e σ σ' = .no := rfl
theorem fp_ne {k : EK} {x : Opd} {y : Opd} : fpOf (.ne k x y) e σ σ' = .no := rfl
theorem fp_un {uo : UnOp} {x : Opd} : fpOf (.un uo x) e σ σ' = .no := rfl
theorem fp_conv {ik : IntKind} {x : Opd} : fpOf (.conv ik x) e σ σ' = .no := rfl
theorem fp_convs {x : Opd} : fpOf (.convs x) e σ σ' = .no := rfl
theorem fp_s2b {x : Opd} : fpOf (.s2b x) e σ σ' = .no := rfl
theorem fp_mki {ty : TypeId} {x : Opd} : fpOf (.mki ty x) e σ σ' = .no := rfl
theorem fp_mkf {fn : Fn} {l1 : List Opd} {l2 : List Opd} : fpOf (.mkf fn l1 l2) e σ σ' = .no := rfl
theorem fp_slstr {x : Opd} {lo : Option Opd} {hi : Option Opd} : fpOf (.slstr x lo hi) e σ σ' = .no := rfl
theorem fp_slsl {n : Nat} {x : Opd} {lo : Option Opd} {hi : Option Opd} {mx : Option Opd} : fpOf (.slsl n x lo hi mx) e σ σ' = .no := rfl
theorem fp_slarr {n : Nat} {m : Nat} {x : Opd} {lo : Option Opd} {hi : Option Opd} : fpOf (.slarr n m x lo hi) e σ σ' = .no := rfl
theorem fp_faddr {n : Nat} {x : Opd} : fpOf (.faddr n x) e σ σ' = .no := rfl
theorem fp_fld {ag : Bool} {n : Nat} {m : Nat} {x : Opd} : fpOf (.fld ag n m x) e σ σ' = .no := rfl
theorem fp_iaddra {n : Nat} {m : Nat} {x : Opd} {y : Opd} : fpOf (.iaddra n m x y) e σ σ' = .no := rfl
theorem fp_iaddrs {n : Nat} {x : Opd} {y : Opd} : fpOf (.iaddrs n x y) e σ σ' = .no := rfl
theorem fp_idxa {ag : Bool} {n : Nat} {m : Nat} {x : Opd} {y : Opd} : fpOf (.idxa ag n m x y) e σ σ' = .no := rfl
theorem fp_idxs {x : Opd} {y : Opd} : fpOf (.idxs x y) e σ σ' = .no := rfl
theorem fp_tai {x : Opd} {ok : Bool} {tl : List TypeId} : fpOf (.tai x ok tl) e σ σ' = .no := rfl
theorem fp_ta {zv : AV} {x : Opd} {ty : TypeId} {ok : Bool} : fpOf (.ta zv x ty ok) e σ σ' = .no := rfl
theorem fp_ext {x : Opd} {n : Nat} : fpOf (.ext x n) e σ σ' = .no := rfl
theorem fp_lenarr {n : Nat} : fpOf (.lenarr n) e σ σ' = .no := rfl
theorem fp_max {l1 : List Opd} : fpOf (.max l1) e σ σ' = .no := rfl
theorem fp_min {l1 : List Opd} : fpOf (.min l1) e σ σ' = .no := rfl
theorem fp_usd {x : Opd} : fpOf (.usd x) e σ σ' = .no := rfl
theorem fp_lookup {k : EK} {zv : AV} {x : Opd} {y : Opd} {ok : Bool} : fpOf (.lookup k zv x y ok) e σ σ' = .q := rfl
theorem fp_len {k : EK} {x : Opd} : fpOf (.len k x) e σ σ' = .q := rfl
theorem fp_b2s {x : Opd} : fpOf (.b2s x) e σ σ' = .q := rfl
theorem fp_append {ty : TypeId} {n : Nat} {m : Nat} {x : Opd} {y : Opd} : fpOf (.append ty n m x y) e σ σ' = .app := rfl
theorem fp_appends {ty : TypeId} {x : Opd} {y : Opd} : fpOf (.appends ty x y) e σ σ' = .app := rfl
theorem fp_alloc {z : List AV} {tg : Option TypeId} : fpOf (.alloc z tg) e σ σ' = .all := rfl
theorem fp_box {x : Opd} : fpOf (.box x) e σ σ' = .all := rfl
theorem fp_brow {ty : TypeId} {z : List AV} {n : Nat} {ps : List (Nat × Nat × Opd)} : fpOf (.brow ty z n ps) e σ σ' = .all := rfl
theorem fp_mkmap  : fpOf (.mkmap) e σ σ' = .all := rfl
theorem fp_mkslice {ty : TypeId} {z : List AV} {n : Nat} {x : Opd} {y : Opd} : fpOf (.mkslice ty z n x y) e σ σ' = .all := rfl
theorem fp_mput {k : EK} {x : Opd} {y : Opd} {c : Opd} : fpOf (.mput k x y c) e σ σ' = .all := rfl
theorem fp_copy {n : Nat} {x : Opd} {y : Opd} : fpOf (.copy n x y) e σ σ' = .all := rfl
theorem fp_clear {z : List AV} {x : Opd} : fpOf (.clear z x) e σ σ' = .all := rfl
theorem fp_ustr {ty : TypeId} {x : Opd} {y : Opd} : fpOf (.ustr ty x y) e σ σ' = .all := rfl
theorem fp_rng {x : Opd} : fpOf (.rng x) e σ σ' = .all := rfl
theorem fp_nxt {x : Opd} : fpOf (.nxt x) e σ σ' = .all := rfl
theorem fp_panic {x : Opd} : fpOf (.panic x) e σ σ' = .all := rfl
theorem fp_load {ag : Bool} {n : Nat} {x : Opd} : fpOf (.load ag n x) e σ σ' = fpL n (x.get e) := by
  simp only [fpOf, fpL]; cases x.get e <;> rfl
theorem fp_store {n : Nat} {x y : Opd} : fpOf (.store n x y) e σ σ' = fpS n (x.get e) := by
  simp only [fpOf, fpS]; cases x.get e <;> rfl
theorem fp_call {x : Opd} {l1 : List Opd} : fpOf (.call x l1) e σ σ' = fpC σ σ' := rfl
theorem fpC_same : fpC σ σ = .q := by simp [fpC]
theorem fpL_ptr {n id off : Nat} : fpL n (.ptr id off) = .rd id off (Nat.max n 1) := rfl
theorem fpL_eptr {n off : Nat} {cs : List AV} : fpL n (.eptr cs off) = .no := rfl
theorem fpL_glob {n g : Nat} : fpL n (.glob g) = .no := rfl
theorem fpS_ptr {n id off : Nat} : fpS n (.ptr id off) = .wr id off n := rfl
theorem Rv.fpL {v : AV} {sz : Nat} {els : List (List AV)} (h : Rv v sz els) {n j off : Nat} (hj : j < els.length) : Den.fpL n (elA v j off) = .no := by
  obtain ⟨h1, h2, h3⟩ := h ⟨[], none⟩
  cases v <;> simp only [] at h1
  · simp only [Den.elems] at h2; cases h2; simp at hj
  · rfl
  · simp [Den.elems] at h2
theorem Rv.fpLM {α : Type} {g : α → List AV} {l : List α} {v : AV} {sz : Nat} (h : Rv v sz (l.map g)) {n j off : Nat} (hj : j < l.length) : Den.fpL n (elA v j off) = .no := h.fpL (by simpa using hj)
theorem ok_no {x : FP} : FP.ok .no x = true := by cases x <;> rfl
theorem ok_no' {x : FP} : FP.ok x .no = true := by cases x <;> rfl
theorem ok_rd {a b c a' b' c' : Nat} : FP.ok (.rd a b c) (.rd a' b' c') = true := rfl
theorem ok_rq {a b c : Nat} : FP.ok (.rd a b c) .q = true := rfl
theorem ok_qr {a b c : Nat} : FP.ok .q (.rd a b c) = true := rfl
theorem ok_qq : FP.ok .q .q = true := rfl
theorem ok_ra {a b c : Nat} : FP.ok (.rd a b c) .app = true := rfl
theorem ok_ar {a b c : Nat} : FP.ok .app (.rd a b c) = true := rfl
theorem ok_rw {a b c a' b' c' : Nat} : FP.ok (.rd a b c) (.wr a' b' c') = (a != a' || b + c ≤ b' || b' + c' ≤ b) := rfl
theorem ok_wr {a b c a' b' c' : Nat} : FP.ok (.wr a b c) (.rd a' b' c') = (a != a' || b + c ≤ b' || b' + c' ≤ b) := rfl
end

def allF (fps : List FP) (x : FP) : List Nat → Bool
  | [] => true
  | j :: js => (fps.getD j .all).ok x && allF fps x js

theorem allF_eq {fps : List FP} {x : FP} : ∀ js : List Nat, js.all (fun j => (fps.getD j .all).ok x) = allF fps x js
  | [] => rfl
  | j :: js => by simp only [List.all_cons, allF, allF_eq js]

def kD (X : Ctx) (i : I) (σ₀ : AS) (fps : List FP) (js : List Nat) (os : List (Ins × List Nat)) (d : Option Nat) (e : Env) (ms : List Nat) (Q : Post) : AV → AS → Prop := fun v σ =>
  allF fps (fpOf i e σ₀ σ) js = true ∧ wpD X (fps ++ [fpOf i e σ₀ σ]) os (Fr.put ⟨e, ms⟩ d v) σ Q
def kF : AV → AS → Prop := fun _ _ => False

theorem wpD_cons {X : Ctx} {σ : AS} {Q : Post} {e : Env} {ms : List Nat} {fps : List FP} {js : List Nat} {os : List (Ins × List Nat)} {d : Option Nat} {i : I} : wpD X fps ((⟨none, d, i⟩, js) :: os) ⟨e, ms⟩ σ Q = wpI X i e σ (kD X i σ fps js os d e ms Q) kF := by
  apply propext
  simp only [wpD, wpI, runOpsD, wantedA, if_true, kD]
  cases hx : exec X (D X) i e σ with
  | none => simp [outK]
  | some o =>
    cases o with
    | ok v σ' =>
      simp only [outK, allF_eq]
      by_cases hc : allF fps (fpOf i e σ σ') js = true
      · rw [if_pos hc]; exact ⟨fun h => ⟨hc, h⟩, fun h => h.2⟩
      · simp [kD, hc]
    | panic v σ' => simp [outK, kF]

section
variable {X : Ctx} {f : FuncId} {rd : Bool} {σ σ₀ : AS} {Q : Post} {e : Env} {ms : List Nat} {fps : List FP} {js : List Nat} {os : List (Ins × List Nat)} {i : I} {d : Nat} {v : AV}
theorem wD_nil : wpD X fps [] ⟨e, ms⟩ σ Q = Q .normal ⟨e, ms⟩ σ := propext (by simp only [wpD, runOpsD]; exact ex_some)
theorem wD_o : wpD X fps ((o d i, js) :: os) ⟨e, ms⟩ σ Q = wpI X i e σ (kD X i σ fps js os (some d) e ms Q) kF := wpD_cons
theorem wD_u : wpD X fps ((u i, js) :: os) ⟨e, ms⟩ σ Q = wpI X i e σ (kD X i σ fps js os none e ms Q) kF := wpD_cons
theorem kD_at : kD X i σ₀ fps js os (some d) e ms Q v σ = (allF fps (fpOf i e σ₀ σ) js = true ∧ wpD X (fps ++ [fpOf i e σ₀ σ]) os ⟨e.set d v, ms⟩ σ Q) := rfl
theorem kD_at' : kD X i σ₀ fps js os none e ms Q v σ = (allF fps (fpOf i e σ₀ σ) js = true ∧ wpD X (fps ++ [fpOf i e σ₀ σ]) os ⟨e, ms⟩ σ Q) := rfl
theorem allF_nil {x : FP} : allF fps x [] = true := rfl
theorem allF_cons {x : FP} {j : Nat} : allF fps x (j :: js) = ((fps.getD j .all).ok x && allF fps x js) := rfl
theorem wp_dreg' : wp X f rd (.dreg os) ⟨e, ms⟩ σ Q = wpD X [] os ⟨e, ms⟩ σ Q := wp_dreg
theorem getD_0 {x y : FP} {l : List FP} : (x :: l).getD 0 y = x := rfl
theorem getD_s {x y : FP} {l : List FP} {n : Nat} : (x :: l).getD (n + 1) y = l.getD n y := by simp
end

theorem P1 : type_of% @wp_dreg' ∧ type_of% @wD_nil ∧ type_of% @wD_o ∧ type_of% @wD_u ∧ type_of% @kD_at ∧ type_of% @kD_at' ∧ type_of% @allF_nil ∧ type_of% @allF_cons ∧ type_of% @getD_0 ∧ type_of% @getD_s ∧ type_of% @fp_load ∧ type_of% @fp_store ∧ type_of% @fp_call ∧ type_of% @fpC_same ∧ type_of% @fpL_ptr ∧ type_of% @fpL_eptr ∧ type_of% @fpL_glob ∧ type_of% @fpS_ptr ∧ type_of% @ok_no ∧ type_of% @ok_no' ∧ type_of% @ok_rd ∧ type_of% @ok_rq ∧ type_of% @ok_qr ∧ type_of% @ok_qq ∧ type_of% @ok_ra ∧ type_of% @ok_ar ∧ type_of% @ok_rw ∧ type_of% @ok_wr ∧ type_of% @fp_mov ∧ type_of% @fp_pick ∧ type_of% @fp_build ∧ type_of% @fp_bslice ∧ type_of% @fp_nilck ∧ type_of% @fp_bin ∧ type_of% @fp_shf ∧ type_of% @fp_eq ∧ type_of% @fp_ne ∧ type_of% @fp_un ∧ type_of% @fp_conv ∧ type_of% @fp_convs ∧ type_of% @fp_s2b ∧ type_of% @fp_mki ∧ type_of% @fp_mkf ∧ type_of% @fp_slstr ∧ type_of% @fp_slsl ∧ type_of% @fp_slarr ∧ type_of% @fp_faddr ∧ type_of% @fp_fld ∧ type_of% @fp_iaddra ∧ type_of% @fp_iaddrs ∧ type_of% @fp_idxa ∧ type_of% @fp_idxs ∧ type_of% @fp_tai ∧ type_of% @fp_ta ∧ type_of% @fp_ext ∧ type_of% @fp_lenarr ∧ type_of% @fp_max ∧ type_of% @fp_min ∧ type_of% @fp_usd ∧ type_of% @fp_lookup ∧ type_of% @fp_len ∧ type_of% @fp_b2s ∧ type_of% @fp_append ∧ type_of% @fp_appends ∧ type_of% @fp_alloc ∧ type_of% @fp_box ∧ type_of% @fp_brow ∧ type_of% @fp_mkmap ∧ type_of% @fp_mkslice ∧ type_of% @fp_mput ∧ type_of% @fp_copy ∧ type_of% @fp_clear ∧ type_of% @fp_ustr ∧ type_of% @fp_rng ∧ type_of% @fp_nxt ∧ type_of% @fp_panic :=
  ⟨@wp_dreg', @wD_nil, @wD_o, @wD_u, @kD_at, @kD_at', @allF_nil, @allF_cons, @getD_0, @getD_s, @fp_load, @fp_store, @fp_call, @fpC_same, @fpL_ptr, @fpL_eptr, @fpL_glob, @fpS_ptr, @ok_no, @ok_no', @ok_rd, @ok_rq, @ok_qr, @ok_qq, @ok_ra, @ok_ar, @ok_rw, @ok_wr, @fp_mov, @fp_pick, @fp_build, @fp_bslice, @fp_nilck, @fp_bin, @fp_shf, @fp_eq, @fp_ne, @fp_un, @fp_conv, @fp_convs, @fp_s2b, @fp_mki, @fp_mkf, @fp_slstr, @fp_slsl, @fp_slarr, @fp_faddr, @fp_fld, @fp_iaddra, @fp_iaddrs, @fp_idxa, @fp_idxs, @fp_tai, @fp_ta, @fp_ext, @fp_lenarr, @fp_max, @fp_min, @fp_usd, @fp_lookup, @fp_len, @fp_b2s, @fp_append, @fp_appends, @fp_alloc, @fp_box, @fp_brow, @fp_mkmap, @fp_mkslice, @fp_mput, @fp_copy, @fp_clear, @fp_ustr, @fp_rng, @fp_nxt, @fp_panic⟩

theorem D_clo {X : Ctx} {f : FuncId} (pf : PF) {args cap : List AV} {H : List AObj} {lo : Option Nat} {cr : CRes} (hp : X.prim f = none) (hc : X.code f = some pf) (hl : Nat.ble (args ++ cap).length pf.ntmps = true)
    (h : ∀ n, H.length = n → wp X f false pf.body ⟨envOf (args ++ cap), []⟩ ⟨H, none⟩ (retK X n lo pf.results (· = cr))) : D X (.fn (.func f) [] cap) args ⟨H, lo⟩ = some cr := by
  have hl' := Nat.le_of_ble_eq_true hl
  refine D_ret hp hc (by simpa using hl') ?_
  simpa using h _ rfl

/-- A loop over numbers: what holds at its head. -/
theorem wp_for {X : Ctx} {f : FuncId} {rd : Bool} {σ : AS} {Q : Post} {e : Env} {b : PC} (m : Nat) (I : Nat → Env → List AObj → Prop) {H : List AObj} (k : Nat) (hk : k ≤ m) (h0 : I k e H)
    (hb : ∀ k, k ≤ m → ∀ e H, I k e H → wp X f rd b ⟨e, []⟩ ⟨H, none⟩ (fun ex fr' σ' => match ex with | .normal => k < m ∧ ∃ e' H', fr' = ⟨e', []⟩ ∧ σ' = ⟨H', none⟩ ∧ I (k + 1) e' H' | ex => Q ex fr' σ')) : wp X f rd (.loop b) ⟨e, []⟩ ⟨H, none⟩ Q := by
  refine wp_loop (S := Nat) (fun k fr σ => k ≤ m ∧ ∃ e H, fr = ⟨e, []⟩ ∧ σ = ⟨H, none⟩ ∧ I k e H) (fun k => m - k) k ⟨hk, e, H, rfl, rfl, h0⟩ ?_
  rintro k fr σ ⟨hk, e, H, rfl, rfl, hi⟩
  refine wp_mono (hb k hk e H hi) ?_
  intro ex fr σ h
  cases ex with
  | normal =>
    obtain ⟨h1, e', H', h2, h3, h4⟩ := h
    exact ⟨k + 1, by omega, by omega, e', H', h2, h3, h4⟩
  | _ => exact h

def forK (k m : Nat) (I : Nat → Env → List AObj → Prop) (Q : Post) : Post := fun ex fr' σ' => match ex with | .normal => k < m ∧ ∃ e' H', fr' = ⟨e', []⟩ ∧ σ' = ⟨H', none⟩ ∧ I (k + 1) e' H' | ex => Q ex fr' σ'
theorem forK_normal {k m : Nat} {I : Nat → Env → List AObj → Prop} {Q : Post} {e : Env} {H : List AObj} : forK k m I Q .normal ⟨e, []⟩ ⟨H, none⟩ = (k < m ∧ I (k + 1) e H) := by
  simp only [forK]
  exact propext ⟨fun ⟨h, _, _, h1, h2, h3⟩ => by cases h1; cases h2; exact ⟨h, h3⟩, fun ⟨h, h1⟩ => ⟨h, _, _, rfl, rfl, h1⟩⟩
theorem forK_exit {k m i : Nat} {I : Nat → Env → List AObj → Prop} {Q : Post} {fr : Fr} {σ : AS} : forK k m I Q (.exit i) fr σ = Q (.exit i) fr σ := rfl
theorem forK_ret {k m : Nat} {I : Nat → Env → List AObj → Prop} {Q : Post} {fr : Fr} {σ : AS} : forK k m I Q .ret fr σ = Q .ret fr σ := rfl
theorem forK_panic {k m : Nat} {v : AV} {I : Nat → Env → List AObj → Prop} {Q : Post} {fr : Fr} {σ : AS} : forK k m I Q (.panic v) fr σ = Q (.panic v) fr σ := rfl

/-- The same, to be walked by rewriting. -/
theorem wp_loopN {X : Ctx} {f : FuncId} {rd : Bool} {Q : Post} {e : Env} {b : PC} (m : Nat) (I : Nat → Env → List AObj → Prop) {H : List AObj} (k : Nat) (hk : k ≤ m) (h0 : I k e H)
    (hb : ∀ k, k ≤ m → ∀ e H, I k e H → ∀ n, H.length = n → wp X f rd b ⟨e, []⟩ ⟨H, none⟩ (forK k m I Q)) : wp X f rd (.loop b) ⟨e, []⟩ ⟨H, none⟩ Q :=
  wp_for (σ := ⟨H, none⟩) m I k hk h0 fun k hk e H hi => hb k hk e H hi _ rfl

/-- A loop whose rounds may store younger things into older ones. -/
def forL (k m : Nat) (I : Nat → Env → List AObj → Option Nat → Prop) (Q : Post) : Post := fun ex fr' σ' => match ex with | .normal => k < m ∧ fr'.marks = [] ∧ I (k + 1) fr'.env σ'.heap σ'.lo | ex => Q ex fr' σ'
theorem forL_normal {k m : Nat} {I : Nat → Env → List AObj → Option Nat → Prop} {Q : Post} {e : Env} {H : List AObj} {lo : Option Nat} : forL k m I Q .normal ⟨e, []⟩ ⟨H, lo⟩ = (k < m ∧ I (k + 1) e H lo) := by
  simp [forL]
theorem forL_exit {k m i : Nat} {I : Nat → Env → List AObj → Option Nat → Prop} {Q : Post} {fr : Fr} {σ : AS} : forL k m I Q (.exit i) fr σ = Q (.exit i) fr σ := rfl
theorem forL_ret {k m : Nat} {I : Nat → Env → List AObj → Option Nat → Prop} {Q : Post} {fr : Fr} {σ : AS} : forL k m I Q .ret fr σ = Q .ret fr σ := rfl
theorem wp_loopL {X : Ctx} {f : FuncId} {rd : Bool} {Q : Post} {e : Env} {b : PC} (m : Nat) (I : Nat → Env → List AObj → Option Nat → Prop) {H : List AObj} {lo : Option Nat} (k : Nat) (hk : k ≤ m) (h0 : I k e H lo)
    (hb : ∀ k, k ≤ m → ∀ e H lo, I k e H lo → ∀ n, H.length = n → wp X f rd b ⟨e, []⟩ ⟨H, lo⟩ (forL k m I Q)) : wp X f rd (.loop b) ⟨e, []⟩ ⟨H, lo⟩ Q := by
  refine wp_loop (S := Nat) (fun k fr σ => k ≤ m ∧ fr.marks = [] ∧ I k fr.env σ.heap σ.lo) (fun k => m - k) k ⟨hk, rfl, h0⟩ ?_
  rintro k ⟨e, ms⟩ ⟨H, lo⟩ ⟨hk, hms, hi⟩
  simp only at hms hi
  subst hms
  refine wp_mono (hb k hk e H lo hi _ rfl) ?_
  intro ex fr σ h
  cases ex with
  | normal =>
    obtain ⟨h1, h2, h3⟩ := h
    exact ⟨k + 1, by omega, by omega, h2, h3⟩
  | _ => exact h

/-- A loop with a measure. -/
def forM {S : Type} (I : S → Env → List AObj → Prop) (μ : S → Nat) (s : S) (Q : Post) : Post := fun ex fr' σ' => match ex with | .normal => fr'.marks = [] ∧ σ'.lo = none ∧ ∃ s', μ s' < μ s ∧ I s' fr'.env σ'.heap | ex => Q ex fr' σ'
section
variable {S : Type} {I : S → Env → List AObj → Prop} {μ : S → Nat} {s : S} {Q : Post}
theorem forM_normal {e : Env} {H : List AObj} : forM I μ s Q .normal ⟨e, []⟩ ⟨H, none⟩ = ∃ s', μ s' < μ s ∧ I s' e H := by simp [forM]
theorem forM_exit {i : Nat} {fr : Fr} {σ : AS} : forM I μ s Q (.exit i) fr σ = Q (.exit i) fr σ := rfl
theorem forM_ret {fr : Fr} {σ : AS} : forM I μ s Q .ret fr σ = Q .ret fr σ := rfl
theorem wp_loopM {X : Ctx} {f : FuncId} {rd : Bool} {e : Env} {b : PC} (I : S → Env → List AObj → Prop) (μ : S → Nat) {H : List AObj} (s : S) (h0 : I s e H)
    (hb : ∀ s e H, I s e H → ∀ n, H.length = n → wp X f rd b ⟨e, []⟩ ⟨H, none⟩ (forM I μ s Q)) : wp X f rd (.loop b) ⟨e, []⟩ ⟨H, none⟩ Q := by
  refine wp_loop (S := S) (fun s fr σ => fr.marks = [] ∧ σ.lo = none ∧ I s fr.env σ.heap) μ s ⟨rfl, rfl, h0⟩ ?_
  rintro s ⟨e, ms⟩ ⟨H, lo⟩ ⟨hms, hlo, hi⟩
  simp only at hms hlo hi
  subst hms hlo
  refine wp_mono (hb s e H hi _ rfl) ?_
  intro ex fr σ h
  cases ex with
  | normal =>
    obtain ⟨h1, h2, s', h3, h4⟩ := h
    exact ⟨s', h3, h1, h2, h4⟩
  | _ => exact h
end

def loopK (X : Ctx) (f : FuncId) (rd : Bool) (b : PC) (Q : Post) : Post
  | .normal, fr, σ => wp X f rd (.loop b) fr σ Q
  | ex, fr, σ => Q ex fr σ

/-- A loop, once unrolled. -/
theorem wp_unroll {X : Ctx} {f : FuncId} {rd : Bool} {b : PC} {fr : Fr} {σ : AS} {Q : Post} : wp X f rd (.loop b) fr σ Q = wp X f rd b fr σ (loopK X f rd b Q) := by
  apply propext
  simp only [wp, runCode]
  constructor
  · rintro ⟨ex, fr', σ', h, hq⟩
    rw [Lw_eq] at h
    split at h
    · rename_i fr₁ σ₁ hx
      exact ⟨_, _, _, hx, ex, fr', σ', by simp only [runCode]; exact h, hq⟩
    · rename_i hx
      refine ⟨_, _, _, h, ?_⟩
      cases ex with
      | normal => exact absurd h (hx _ _)
      | _ => exact hq
  · rintro ⟨ex, fr', σ', h, hq⟩
    rw [Lw_eq, h]
    cases ex with
    | normal =>
      obtain ⟨ex, fr₂, σ₂, h2, hq⟩ := hq
      simp only [runCode] at h2
      exact ⟨_, _, _, h2, hq⟩
    | exit _ => exact ⟨_, _, _, rfl, hq⟩
    | ret => exact ⟨_, _, _, rfl, hq⟩
    | panic _ => exact ⟨_, _, _, rfl, hq⟩
section
variable {X : Ctx} {f : FuncId} {rd : Bool} {b : PC} {fr : Fr} {σ : AS} {Q : Post} {i : Nat} {v : AV}
theorem loopK_normal : loopK X f rd b Q .normal fr σ = wp X f rd (.loop b) fr σ Q := rfl
theorem loopK_exit : loopK X f rd b Q (.exit i) fr σ = Q (.exit i) fr σ := rfl
theorem loopK_ret : loopK X f rd b Q .ret fr σ = Q .ret fr σ := rfl
theorem loopK_panic : loopK X f rd b Q (.panic v) fr σ = Q (.panic v) fr σ := rfl
end

theorem keepE_nil {e e0 : Env} : keepE e [] e0 = e0 := rfl
theorem keepE_cons {e e0 : Env} {t : Nat} {ts : List Nat} : keepE e (t :: ts) e0 = (keepE e ts e0).set t (e t) := rfl
theorem not_dec {p : Prop} [Decidable p] : (!decide p) = decide (¬ p) := by simp

theorem dsts_nil : dsts [] = [] := rfl
theorem dsts_o {dd : Nat} {i : I} {os : List Ins} : dsts (o dd i :: os) = dd :: dsts os := rfl
theorem dsts_u {i : I} {os : List Ins} : dsts (u i :: os) = dsts os := rfl
theorem dsts_gt {t dd : Nat} {i : I} {os : List Ins} : dsts (gt t (some dd) i :: os) = dd :: dsts os := rfl
theorem dsts_gf {t dd : Nat} {i : I} {os : List Ins} : dsts (gf t (some dd) i :: os) = dd :: dsts os := rfl
theorem dsts_gt' {t : Nat} {i : I} {os : List Ins} : dsts (gt t none i :: os) = dsts os := rfl
theorem dsts_gf' {t : Nat} {i : I} {os : List Ins} : dsts (gf t none i :: os) = dsts os := rfl
theorem dsts_i {dd : Nat} {i : I} {os : List Ins} : dsts (⟨none, some dd, i⟩ :: os) = dd :: dsts os := rfl
theorem dsts_i' {i : I} {os : List Ins} : dsts (⟨none, none, i⟩ :: os) = dsts os := rfl
theorem inW_nil {t : Nat} : inW [] t = false := rfl
theorem inW_cons {a t : Nat} {as : List Nat} : inW (a :: as) t = (a == t || inW as t) := rfl
theorem ff : (false = true) = False := by simp
theorem tt : (true = true) = True := by simp

theorem C1 : type_of% @cutP_normal ∧ type_of% @forL_normal ∧ type_of% @forL_exit ∧ type_of% @forL_ret ∧ type_of% @loopK_normal ∧ type_of% @loopK_exit ∧ type_of% @loopK_ret ∧ type_of% @loopK_panic ∧ type_of% @forK_normal ∧ type_of% @forK_exit ∧ type_of% @forK_ret ∧ type_of% @forK_panic ∧ type_of% @selE_true ∧ type_of% @selE_false ∧ type_of% @Bool.true_or ∧ type_of% @Bool.false_or ∧ type_of% @Bool.and_true ∧ type_of% @Bool.true_and ∧ type_of% @keepE_nil ∧ type_of% @keepE_cons ∧ type_of% @not_dec ∧ type_of% @dsts_nil ∧ type_of% @dsts_o ∧ type_of% @dsts_u ∧ type_of% @dsts_gt ∧ type_of% @dsts_gf ∧ type_of% @dsts_gt' ∧ type_of% @dsts_gf' ∧ type_of% @dsts_i ∧ type_of% @dsts_i' ∧ type_of% @inW_nil ∧ type_of% @inW_cons ∧ type_of% @over_at ∧ type_of% @ff ∧ type_of% @tt ∧ type_of% @cutK_normal :=
  ⟨@cutP_normal, @forL_normal, @forL_exit, @forL_ret, @loopK_normal, @loopK_exit, @loopK_ret, @loopK_panic, @forK_normal, @forK_exit, @forK_ret, @forK_panic, @selE_true, @selE_false, @Bool.true_or, @Bool.false_or, @Bool.and_true, @Bool.true_and, @keepE_nil, @keepE_cons, @not_dec, @dsts_nil, @dsts_o, @dsts_u, @dsts_gt, @dsts_gf, @dsts_gt', @dsts_gf', @dsts_i, @dsts_i', @inW_nil, @inW_cons, @over_at, @ff, @tt, @cutK_normal⟩

end Go.Den

/- Den: slices that a function has made itself. -/
namespace Go.Den
open Go

/-- A slice of this function's own (its row lies at N or behind): what it holds. -/
def Own (N : Nat) (H : List AObj) (v : AV) (sz : Nat) (ty : TypeId) (els : List (List AV)) : Prop :=
  (∀ el ∈ els, el.length = sz) ∧ ((v = .nils ∧ els = []) ∨ ∃ id ver, N ≤ id ∧ v = .ref id ver sz 0 els.length false ∧ H[id]? = some (.row ver sz ty els))

def frz (v : AV) (els : List (List AV)) : AV := match v with
  | .nils => .nils
  | _ => .sl els false

section
variable {N : Nat} {H H' : List AObj} {v : AV} {sz bytes : Nat} {ty : TypeId} {els ys : List (List AV)} {lo : Option Nat}

theorem Own.nils : Own N H .nils sz ty [] := ⟨by simp, .inl ⟨rfl, rfl⟩⟩

theorem Own.mono (h : Own N H v sz ty els) (hp : H <+: H') : Own N H' v sz ty els := by
  obtain ⟨h1, h2⟩ := h
  refine ⟨h1, ?_⟩
  rcases h2 with h2 | ⟨id, ver, hn, hv, hr⟩
  · exact .inl h2
  · refine .inr ⟨id, ver, hn, hv, ?_⟩
    obtain ⟨L, rfl⟩ := hp
    rw [List.getElem?_append_left (List.getElem?_eq_some_iff.1 hr).1]; exact hr

theorem Own.ext {L : List AObj} (h : Own N H v sz ty els) : Own N (H ++ L) v sz ty els := h.mono (List.prefix_append _ _)

theorem Own.rd (h : Own N H v sz ty els) : Rd ⟨H, lo⟩ v sz els := by
  obtain ⟨h1, h2⟩ := h
  rcases h2 with ⟨rfl, rfl⟩ | ⟨id, ver, hn, rfl, hr⟩
  · exact .nils
  · refine ⟨trivial, ?_, h1⟩
    simp only [elems, hr, true_and]
    rw [if_pos (by omega)]
    simp

theorem prefix_set {H0 : List AObj} {id : Nat} {o : AObj} (hp : H0 <+: H) (hi : H0.length ≤ id) : H0 <+: H.set id o := by
  obtain ⟨L, rfl⟩ := hp
  rw [List.set_append_right _ _ hi]
  exact List.prefix_append _ _

theorem Own.append {H0 : List AObj} (h : Own N H v sz ty els) (hp : H0 <+: H) (hN : H0.length = N) (hz : 0 < sz) (hy : ∀ el ∈ ys, el.length = sz) (hr : refsLL ys = 0) (hb : (els.length + ys.length) * bytes ≤ room) :
    ∃ v' H', appendA ⟨H, lo⟩ ty sz bytes v ys = some (v', ⟨H', lo⟩) ∧ Own N H' v' sz ty (els ++ ys) ∧ H0 <+: H' ∧ H.length ≤ H'.length ∧ (∀ id, id < N → H'[id]? = H[id]?) := by
  have hc : 0 < sz ∧ ys.all (fun el => el.length == sz) = true := ⟨hz, by simpa using hy⟩
  obtain ⟨h1, h2⟩ := h
  have h3 : ∀ el ∈ els ++ ys, el.length = sz := by
    intro el hm; rcases List.mem_append.1 hm with hm | hm
    · exact h1 _ hm
    · exact hy _ hm
  by_cases he : ys.length = 0
  · have he' : ys = [] := List.length_eq_zero_iff.1 he
    subst he'
    refine ⟨v, H, ?_, by simpa using ⟨h1, h2⟩, hp, Nat.le_refl _, fun _ _ => rfl⟩
    unfold appendA
    rw [if_pos hc]
    rcases h2 with ⟨rfl, rfl⟩ | ⟨id, ver, hn, rfl, hr'⟩
    · simp
    · simp only [hr']
      rw [if_pos ⟨trivial, trivial, trivial, trivial, by omega, by simpa using hb⟩]
      simp
  rcases h2 with ⟨rfl, rfl⟩ | ⟨id, ver, hn, rfl, hr'⟩
  · refine ⟨.ref H.length 0 sz 0 ys.length false, H ++ [.row 0 sz ty ys], ?_, ⟨by simpa using hy, .inr ⟨H.length, 0, ?_, by simp, by simp⟩⟩, hp.trans (List.prefix_append _ _), by simp, fun id hid => ?_⟩
    · unfold appendA
      rw [if_pos hc]
      simp only [if_neg he]
      rw [if_pos (by simpa using hb)]
      rfl
    · rw [← hN]; exact hp.length_le
    · rw [List.getElem?_append_left (by have := hp.length_le; omega)]
  · have hlt := (List.getElem?_eq_some_iff.1 hr').1
    refine ⟨.ref id (ver + 1) sz 0 (els.length + ys.length) false, H.set id (.row (ver + 1) sz ty (els ++ ys)), ?_, ⟨h3, .inr ⟨id, ver + 1, hn, by simp, by simp [hlt]⟩⟩, prefix_set hp (by omega), by simp, fun j hj => ?_⟩
    · unfold appendA
      rw [if_pos hc]
      simp only [hr']
      rw [if_pos ⟨trivial, trivial, trivial, trivial, by omega, hb⟩, if_neg he]
      simp [AS.set, hr]
    · rw [List.getElem?_set_ne (by omega)]

theorem okP_append {K : AV → AS → Prop} {H0 : List AObj} (h : Own N H v sz ty els) (hp : H0 <+: H) (hN : H0.length = N) (hz : 0 < sz) (hy : ∀ el ∈ ys, el.length = sz) (hr : refsLL ys = 0) (hb : (els.length + ys.length) * bytes ≤ room)
    (hK : ∀ v' H', Own N H' v' sz ty (els ++ ys) → H0 <+: H' → K v' ⟨H', lo⟩) : okP (appendA ⟨H, lo⟩ ty sz bytes v ys) K := by
  obtain ⟨v', H', h1, h2, h3, _⟩ := h.append hp hN hz hy hr hb
  rw [h1]; exact hK v' H' h2 h3

/-- What Own.append leaves as it was: boxes. -/
theorem Own.append2 (h : Own N H v sz ty els) (hN : N ≤ H.length) (hz : 0 < sz) (hy : ∀ el ∈ ys, el.length = sz) (hr : refsLL ys = 0) (hb : (els.length + ys.length) * bytes ≤ room) :
    ∃ v' H', appendA ⟨H, lo⟩ ty sz bytes v ys = some (v', ⟨H', lo⟩) ∧ Own N H' v' sz ty (els ++ ys) ∧ H.length ≤ H'.length ∧ (∀ id, id < N → H'[id]? = H[id]?) ∧ (∀ (id : Nat) cs tg, H[id]? = some (.box cs tg) → H'[id]? = some (.box cs tg)) := by
  have hp : H.take N <+: H := List.take_prefix _ _
  obtain ⟨v', H', h1, h2, h3, h4, h5⟩ := h.append hp (by rw [List.length_take]; omega) hz hy hr hb
  refine ⟨v', H', h1, h2, h4, h5, fun id cs tg hc => ?_⟩
  have hid := (List.getElem?_eq_some_iff.1 hc).1
  unfold appendA at h1
  have hc' : 0 < sz ∧ ys.all (fun el => el.length == sz) = true := ⟨hz, by simpa using hy⟩
  rw [if_pos hc'] at h1
  rcases h.2 with ⟨rfl, rfl⟩ | ⟨j, ver, hn, rfl, hr'⟩
  · simp only at h1
    split at h1
    · simp only [Option.some.injEq, Prod.mk.injEq, AS.mk.injEq] at h1; rw [← h1.2.1]; exact hc
    · split at h1
      · simp only [AS.push, Option.some.injEq, Prod.mk.injEq, AS.mk.injEq] at h1
        rw [← h1.2.1, List.getElem?_append_left hid]; exact hc
      · cases h1
  · simp only [hr'] at h1
    split at h1
    · split at h1
      · simp only [Option.some.injEq, Prod.mk.injEq, AS.mk.injEq] at h1; rw [← h1.2.1]; exact hc
      · simp only [Bool.false_eq_true, if_false, AS.set, Option.some.injEq, Prod.mk.injEq, AS.mk.injEq] at h1
        rw [← h1.2.1]
        have hne : j ≠ id := by rintro rfl; rw [hr'] at hc; cases hc
        rw [List.getElem?_set_ne hne]; exact hc
    · cases h1

/-- What Own.append leaves as it was: whatever is no row. -/
theorem Own.append3 (h : Own N H v sz ty els) (hN : N ≤ H.length) (hz : 0 < sz) (hy : ∀ el ∈ ys, el.length = sz) (hr : refsLL ys = 0) (hb : (els.length + ys.length) * bytes ≤ room) :
    ∃ v' H', appendA ⟨H, lo⟩ ty sz bytes v ys = some (v', ⟨H', lo⟩) ∧ Own N H' v' sz ty (els ++ ys) ∧ H.length ≤ H'.length ∧ (∀ id, id < N → H'[id]? = H[id]?) ∧ (∀ (id : Nat) o, (∀ a d, o ≠ .row a sz ty d) → H[id]? = some o → H'[id]? = some o) := by
  have hp : H.take N <+: H := List.take_prefix _ _
  obtain ⟨v', H', h1, h2, h3, h4, h5⟩ := h.append hp (by rw [List.length_take]; omega) hz hy hr hb
  refine ⟨v', H', h1, h2, h4, h5, fun id o hno hc => ?_⟩
  have hid := (List.getElem?_eq_some_iff.1 hc).1
  unfold appendA at h1
  have hc' : 0 < sz ∧ ys.all (fun el => el.length == sz) = true := ⟨hz, by simpa using hy⟩
  rw [if_pos hc'] at h1
  rcases h.2 with ⟨rfl, rfl⟩ | ⟨j, ver, hn, rfl, hr'⟩
  · simp only at h1
    split at h1
    · simp only [Option.some.injEq, Prod.mk.injEq, AS.mk.injEq] at h1; rw [← h1.2.1]; exact hc
    · split at h1
      · simp only [AS.push, Option.some.injEq, Prod.mk.injEq, AS.mk.injEq] at h1
        rw [← h1.2.1, List.getElem?_append_left hid]; exact hc
      · cases h1
  · simp only [hr'] at h1
    split at h1
    · split at h1
      · simp only [Option.some.injEq, Prod.mk.injEq, AS.mk.injEq] at h1; rw [← h1.2.1]; exact hc
      · simp only [Bool.false_eq_true, if_false, AS.set, Option.some.injEq, Prod.mk.injEq, AS.mk.injEq] at h1
        rw [← h1.2.1]
        have hne : j ≠ id := by rintro rfl; rw [hr'] at hc; cases hc; exact hno _ _ rfl
        rw [List.getElem?_set_ne hne]; exact hc
    · cases h1

theorem okP_append3 {K : AV → AS → Prop} {H0 : List AObj} (h : Own N H v sz ty els) (hp : H0 <+: H) (hN : H0.length = N) (hz : 0 < sz) (hy : ∀ el ∈ ys, el.length = sz) (hr : refsLL ys = 0) (hb : (els.length + ys.length) * bytes ≤ room)
    (hK : ∀ v' H', Own N H' v' sz ty (els ++ ys) → H0 <+: H' → H.length ≤ H'.length → (∀ (id : Nat) o, (∀ a d, o ≠ .row a sz ty d) → H[id]? = some o → H'[id]? = some o) → K v' ⟨H', lo⟩) : okP (appendA ⟨H, lo⟩ ty sz bytes v ys) K := by
  obtain ⟨v', H', h1, h2, h3, h4, h5⟩ := h.append3 (by rw [← hN]; exact hp.length_le) hz hy hr hb
  obtain ⟨v2, H2, g1, _, g3, _⟩ := h.append hp hN hz hy hr hb
  rw [h1] at g1
  cases g1
  rw [h1]; exact hK v' H' h2 g3 h3 h5

theorem freeze_tup {σ : AS} {n k : Nat} {vs : List AV} : freeze σ n (k + 1) (.tup vs) = if (AV.tup vs).refs ≤ n then some (.tup vs) else match freezeL σ n k vs with | some cs' => some (.tup cs') | none => none := by
  rw [freeze]
  split
  · rfl
  · cases freezeL σ n k vs <;> rfl

theorem freezeL_low {σ : AS} {n k : Nat} : ∀ l : List AV, refsL l ≤ n → freezeL σ n (k + 2) l = some l
  | [], _ => by rw [freezeL]
  | b :: bs, hl => by
    simp only [refsL] at hl
    rw [freezeL, freeze_low (by omega)]
    simp only
    rw [freezeL_low bs (by omega)]

theorem freezeLL_low {σ : AS} {n k : Nat} : ∀ els : List (List AV), refsLL els ≤ n → freezeLL σ n (k + 3) els = some els
  | [], _ => by rw [freezeLL]
  | a :: as, h => by
    simp only [refsLL] at h
    rw [freezeLL, freezeL_low a (by omega)]
    simp only
    rw [freezeLL_low as (by omega)]

theorem Own.freeze {k : Nat} (h : Own N H v sz ty els) (hr : refsLL els ≤ N) : Den.freeze ⟨H, lo⟩ N (k + 4) v = some (frz v els) := by
  obtain ⟨h1, h2⟩ := h
  rcases h2 with ⟨rfl, rfl⟩ | ⟨id, ver, hn, rfl, hr'⟩
  · exact freeze_low (Nat.zero_le _)
  · have hn' : ¬ (AV.ref id ver sz 0 els.length false).refs ≤ N := by simp only [AV.refs]; omega
    rw [Den.freeze, if_neg hn']
    simp only [hr']
    rw [if_pos ⟨trivial, trivial, by omega⟩]
    simp only [List.drop_zero, List.take_length]
    rw [freezeLL_low els hr]
    rfl

theorem Own.finish1 (h : Own N H v sz ty els) (hr : refsLL els ≤ N) : finish N lo v ⟨H, none⟩ = (frz v els, ⟨H.take N, lo⟩) :=
  finish_eq rfl (h.freeze hr)

theorem Own.finish2 {b : AV} (h : Own N H v sz ty els) (hr : refsLL els ≤ N) (hb : b.refs ≤ N) : finish N lo (.tup [v, b]) ⟨H, none⟩ = (.tup [frz v els, b], ⟨H.take N, lo⟩) := by
  refine finish_eq rfl ?_
  rw [freeze_tup]
  have e1 : freezeL ⟨H, none⟩ N 11 [v, b] = some [frz v els, b] := by
    rw [freezeL, h.freeze hr]; simp only
    rw [freezeL, freeze_low hb]; simp only
    rw [freezeL]
  rw [e1]
  split
  · rename_i hle
    have hv : frz v els = v := by
      obtain ⟨h1, h2⟩ := h
      rcases h2 with ⟨rfl, rfl⟩ | ⟨id, ver, hn, rfl, hr'⟩
      · rfl
      · simp only [AV.refs, refsL] at hle; omega
    rw [hv]
  · rfl

theorem Own.finish3 {b c : AV} (h : Own N H v sz ty els) (hr : refsLL els ≤ N) (hb : b.refs ≤ N) (hc : c.refs ≤ N) : finish N lo (.tup [v, b, c]) ⟨H, none⟩ = (.tup [frz v els, b, c], ⟨H.take N, lo⟩) := by
  refine finish_eq rfl ?_
  rw [freeze_tup]
  have e1 : freezeL ⟨H, none⟩ N 11 [v, b, c] = some [frz v els, b, c] := by
    rw [freezeL, h.freeze hr]; simp only
    rw [freezeL, freeze_low hb]; simp only
    rw [freezeL, freeze_low hc]; simp only
    rw [freezeL]
  rw [e1]
  split
  · rename_i hle
    have hv : frz v els = v := by
      obtain ⟨h1, h2⟩ := h
      rcases h2 with ⟨rfl, rfl⟩ | ⟨id, ver, hn, rfl, hr'⟩
      · rfl
      · simp only [AV.refs, refsL] at hle; omega
    rw [hv]
  · rfl

theorem Own.frz_rv (h : Own N H v sz ty els) : Rv (frz v els) sz els := by
  obtain ⟨h1, h2⟩ := h
  rcases h2 with ⟨rfl, rfl⟩ | ⟨id, ver, hn, rfl, hr'⟩
  · exact .nils
  · exact .sl h1

theorem refsLL_map {α : Type} {g : α → List AV} (hg : ∀ x, refsL (g x) = 0) : ∀ l : List α, refsLL (l.map g) = 0
  | [] => rfl
  | x :: xs => by simp only [List.map_cons, refsLL, hg, refsLL_map hg xs]; rfl

theorem elems_sl {σ : AS} {c : Bool} (h : els.all (fun el => el.length == sz) = true) : Den.elems σ sz (.sl els c) = some els := by
  simp only [Den.elems]; rw [if_pos h]
end
theorem eqAL_int {k : IntKind} {a b : Int} {ks : List EK} {as bs : List AV} : eqAL (.int :: ks) (.int k a :: as) (.int k b :: bs) = if a = b then eqAL ks as bs else some false := by
  simp only [eqAL, eqP, if_true]
  by_cases h : a = b
  · subst h; simp
  · have : (a == b) = false := by simpa using h
    simp only [this, if_neg h]
theorem eqAL_str {a b : List UInt8} {ks : List EK} {as bs : List AV} : eqAL (.str :: ks) (S a :: as) (S b :: bs) = if a = b then eqAL ks as bs else some false := by
  simp only [eqAL, eqP, S, ByteArray.toList_mk]
  by_cases h : a = b
  · subst h; simp
  · have : (a == b) = false := by simpa using h
    simp only [this, if_neg h]
theorem eqAL_bool {a b : Bool} {ks : List EK} {as bs : List AV} : eqAL (.bool :: ks) (.bool a :: as) (.bool b :: bs) = if a = b then eqAL ks as bs else some false := by
  simp only [eqAL, eqP]
  cases a <;> cases b <;> rfl
theorem eqAL_nil : eqAL [] [] [] = some true := rfl
/-- Something new goes out: nothing is cut back. -/
theorem finish_none {N : Nat} {v : AV} {lo : Option Nat} {H : List AObj} (h1 : ¬ v.refs ≤ N) (h2 : freeze ⟨H, none⟩ N 12 v = none) : finish N lo v ⟨H, none⟩ = (v, ⟨H, lo⟩) := by
  rw [finish_0, if_neg h1, h2]; rfl
theorem freeze_ptr {N id o k : Nat} {σ : AS} (h : N ≤ id) : freeze σ N k (.ptr id o) = none := by
  cases k with
  | zero => rw [freeze]
  | succ k =>
    have h1 : ¬ (AV.ptr id o).refs ≤ N := by simp only [AV.refs]; omega
    simp [freeze, h1]
theorem freeze_ifc {N k : Nat} {t : TypeId} {v : AV} {σ : AS} (h : ¬ v.refs ≤ N) : freeze σ N k (.ifc t v) = none := by
  cases k with
  | zero => rw [freeze]
  | succ k =>
    have h1 : ¬ (AV.ifc t v).refs ≤ N := by simpa only [AV.refs] using h
    simp [freeze, h1]
theorem finish_ptr {N id o : Nat} {lo : Option Nat} {H : List AObj} (h : N ≤ id) : finish N lo (.ptr id o) ⟨H, none⟩ = (.ptr id o, ⟨H, lo⟩) :=
  finish_none (by simp only [AV.refs]; omega) (freeze_ptr h)
theorem finish_ifc {N id o : Nat} {t : TypeId} {lo : Option Nat} {H : List AObj} (h : N ≤ id) : finish N lo (.ifc t (.ptr id o)) ⟨H, none⟩ = (.ifc t (.ptr id o), ⟨H, lo⟩) :=
  finish_none (by simp only [AV.refs]; omega) (freeze_ifc (by simp only [AV.refs]; omega))
theorem finish_tup_ifc {N id o : Nat} {t : TypeId} {k : IntKind} {a : Int} {lo : Option Nat} {H : List AObj} (h : N ≤ id) : finish N lo (.tup [.int k a, .ifc t (.ptr id o)]) ⟨H, none⟩ = (.tup [.int k a, .ifc t (.ptr id o)], ⟨H, lo⟩) := by
  have h1 : ¬ (AV.tup [.int k a, .ifc t (.ptr id o)]).refs ≤ N := by simp only [AV.refs, refsL]; omega
  refine finish_none h1 ?_
  rw [freeze_tup, if_neg h1, freezeL, freeze_low (Nat.zero_le _)]
  simp only
  rw [freezeL, freeze_ifc (by simp only [AV.refs]; omega)]

theorem D_prim {X : Ctx} {f : FuncId} {p : List AV → AS → Option CRes} {args : List AV} {σ : AS} {cr : CRes} (hp : X.prim f = some p) (h : p args σ = some cr) : D X (.fn (.func f) [] []) args σ = some cr := by
  refine D_step ?_
  simp only [step, hp, List.nil_append, List.append_nil]
  exact h

theorem fillA_nil {cs : List AV} : fillA cs [] = some cs := rfl
theorem fillA_cons {cs : List AV} {off n : Nat} {v : AV} {r : List (Nat × Nat × AV)} : fillA cs ((off, n, v) :: r) = if v.isTup = false ∧ v.cells.length = n ∧ off + n ≤ cs.length then fillA (splice cs off v.cells) r else none := rfl
theorem bsliceA_eq {z : List AV} {len : Nat} {ps : List (Nat × Nat × AV)} : bsliceA z len ps = (fillA (List.replicate len z).flatten ps).map fun cs => .sl (chunks z.length len cs) true := rfl
theorem browA_eq {σ : AS} {ty : TypeId} {z : List AV} {len : Nat} {ps : List (Nat × Nat × AV)} : browA σ ty z len ps = (fillA (List.replicate len z).flatten ps).map fun cs => (.ref σ.heap.length 0 z.length 0 len false, σ.push (.row 0 z.length ty (chunks z.length len cs))) := rfl
theorem buildA_eq {z : List AV} {ps : List (Nat × Nat × AV)} : buildA z ps = (fillA z ps).map .agg := rfl
theorem chunks_0 {sz : Nat} {cs : List AV} : chunks sz 0 cs = [] := rfl
theorem chunks_s {sz k : Nat} {cs : List AV} : chunks sz (k + 1) cs = cs.take sz :: chunks sz k (cs.drop sz) := rfl
theorem elems_sl' {σ : AS} {sz : Nat} {els : List (List AV)} {c : Bool} : Den.elems σ sz (.sl els c) = if els.all (fun el => el.length == sz) then some els else none := rfl
theorem elsK_ite {c : Prop} [Decidable c] {r : Option (List (List AV))} {ty : TypeId} {sz b : Nat} {s : AV} {K : AV → AS → Prop} {σ : AS} : elsK (if c then r else none) ty sz b s K σ = (c ∧ elsK r ty sz b s K σ) := by
  split <;> simp [*, elsK]
theorem addr_sl {sz : Nat} {els : List (List AV)} {c : Bool} {k : IntKind} {a : Int} : iaddrsA sz (.sl els c) (.int k a) = if 0 ≤ a ∧ a < els.length ∧ (els.getD a.toNat []).length = sz then some (.eptr (els.getD a.toNat []) 0) else none := by
  simp only [iaddrsA, intOf?]
  by_cases h0 : 0 ≤ a
  · by_cases h1 : a < els.length
    · have h2 : a.toNat < els.length := by omega
      have e : els.getD a.toNat [] = els[a.toNat] := by simp [List.getD_eq_getElem?_getD, List.getElem?_eq_getElem h2]
      rw [if_pos h0, List.getElem?_eq_getElem h2, e]
      simp only []
      by_cases h3 : els[a.toNat].length = sz
      · rw [if_pos h3, if_pos ⟨h0, h1, h3⟩]
      · rw [if_neg h3, if_neg (fun h => h3 h.2.2)]
    · rw [if_pos h0, List.getElem?_eq_none (by omega), if_neg (fun h => h1 h.2.1)]
  · rw [if_neg h0, if_neg (fun h => h0 h.1)]
theorem addra_ptr {X : Ctx} {n sz id off : Nat} {k : IntKind} {a : Int} : iaddraA X n sz (.ptr id off) (.int k a) = if 0 ≤ a ∧ a < n then some (.ptr id (off + a.toNat * sz)) else none := rfl
theorem addra_rptr {X : Ctx} {n sz id ver j off : Nat} {k : IntKind} {a : Int} : iaddraA X n sz (.rptr id ver j off) (.int k a) = if 0 ≤ a ∧ a < n then some (.rptr id ver j (off + a.toNat * sz)) else none := rfl
theorem addra_eptr {X : Ctx} {n sz off : Nat} {cs : List AV} {k : IntKind} {a : Int} : iaddraA X n sz (.eptr cs off) (.int k a) = if 0 ≤ a ∧ a < n then some (.eptr cs (off + a.toNat * sz)) else none := rfl
theorem addra_glob {X : Ctx} {n sz g : Nat} {k : IntKind} {a : Int} : iaddraA X n sz (.glob g) (.int k a) = if 0 ≤ a ∧ a < n then (match X.glob g with | some cs => some (.eptr cs (a.toNat * sz)) | none => none) else none := rfl
theorem fldA_agg {ag : Bool} {n off : Nat} {cs : List AV} : fldA ag n off (.agg cs) = Den.part ag n cs off := rfl
theorem extA_tup {vs : List AV} {i : Nat} : extA (.tup vs) i = vs[i]? := rfl
theorem fst_mk {a b : AV} : (a, b).1 = a := rfl
theorem len_sl {σ : AS} {els : List (List AV)} {c : Bool} : lenA σ .sl (.sl els c) = some (.int .i64 els.length) := rfl
theorem len_nils {σ : AS} : lenA σ .sl .nils = some (.int .i64 0) := rfl
theorem len_ref {σ : AS} {id v z o n : Nat} {c : Bool} : lenA σ .sl (.ref id v z o n c) = some (.int .i64 n) := rfl
theorem len_aref {σ : AS} {id sz off n : Nat} : lenA σ .sl (.aref id sz off n) = some (.int .i64 n) := rfl
theorem addrs_aref {m id sz off n : Nat} {k : IntKind} {a : Int} : iaddrsA m (.aref id sz off n) (.int k a) = if 0 ≤ a ∧ a < n ∧ sz = m then some (.ptr id (off + a.toNat * m)) else none := rfl
theorem slarr_ptr {X : Ctx} {n sz id off : Nat} {k k' : IntKind} {a b : Int} : slarrA X n sz (.ptr id off) (some (.int k a)) (some (.int k' b)) = if 0 ≤ a ∧ a ≤ b ∧ b ≤ n then some (.aref id sz (off + a.toNat * sz) (b.toNat - a.toNat)) else none := by
  simp only [slarrA, boundsA, upTo]
  by_cases h : 0 ≤ b ∧ b ≤ n
  · rw [if_pos h]
    by_cases h' : 0 ≤ a ∧ a ≤ b
    · have e1 : 0 ≤ a ∧ a ≤ (b.toNat : Int) := by omega
      have e2 : 0 ≤ a ∧ a ≤ b ∧ b ≤ n := by omega
      simp only [if_pos e1, if_pos e2]
    · have e1 : ¬ (0 ≤ a ∧ a ≤ (b.toNat : Int)) := by omega
      have e2 : ¬ (0 ≤ a ∧ a ≤ b ∧ b ≤ n) := by omega
      simp only [if_neg e1, if_neg e2]
  · have e2 : ¬ (0 ≤ a ∧ a ≤ b ∧ b ≤ n) := by omega
    rw [if_neg h, if_neg e2]
theorem slarr_ptr0 {X : Ctx} {n sz id off : Nat} {k' : IntKind} {b : Int} : slarrA X n sz (.ptr id off) none (some (.int k' b)) = if 0 ≤ b ∧ b ≤ n then some (.aref id sz off b.toNat) else none := by
  simp only [slarrA, boundsA, upTo]
  by_cases h : 0 ≤ b ∧ b ≤ n
  · simp only [if_pos h, Nat.zero_mul, Nat.add_zero, Nat.sub_zero]
  · simp only [if_neg h]
theorem elems_aref {H : List AObj} {lo : Option Nat} {id sz m off n : Nat} : Den.elems ⟨H, lo⟩ m (.aref id sz off n) = match H[id]? with
    | some (.box cs _) => if sz = m ∧ off + n * m ≤ cs.length then some (chunks m n (cs.drop off)) else none
    | _ => none := rfl
theorem b2s_some {els : List (List AV)} : b2sA (some els) = (stringA els).map fun l => S l := rfl
theorem b2s_ite {c : Prop} [Decidable c] {r : Option (List (List AV))} : b2sA (if c then r else none) = if c then b2sA r else none := by split <;> rfl
theorem stringA_nil : stringA [] = some [] := rfl
theorem stringA_cons {n : Int} {r : List (List AV)} : stringA ([.int .u8 n] :: r) = (stringA r).map (UInt8.ofNat n.toNat :: ·) := rfl
theorem take_app1 {H : List AObj} {x : AObj} {n m : Nat} (h : H.length = n) (hm : m = n + 1) : (H ++ [x]).take m = H ++ [x] := by
  subst h; subst hm; rw [List.take_of_length_le (by simp)]
theorem dT {h : Decidable True} : @decide True h = true := by simp
theorem dF {h : Decidable False} : @decide False h = false := by simp
theorem iT {p : Prop} : (True → p) = p := by simp
theorem iF {p : Prop} : (False → p) = True := by simp
theorem iN {p : Prop} : (¬ True → p) = True := by simp
theorem iM {p : Prop} : (¬ False → p) = p := by simp
theorem O1 : type_of% @fillA_nil ∧ type_of% @fillA_cons ∧ type_of% @bsliceA_eq ∧ type_of% @browA_eq ∧ type_of% @buildA_eq ∧ type_of% @chunks_0 ∧ type_of% @chunks_s ∧ type_of% @elems_sl' ∧ type_of% @elsK_ite ∧ type_of% @fldA_agg ∧ type_of% @len_aref ∧ type_of% @len_sl ∧ type_of% @len_nils ∧ type_of% @len_ref ∧ type_of% @addrs_aref ∧ type_of% @slarr_ptr ∧ type_of% @slarr_ptr0 ∧ type_of% @elems_aref ∧ type_of% @b2s_some ∧ type_of% @b2s_ite ∧ type_of% @stringA_nil ∧ type_of% @stringA_cons ∧ type_of% @dT ∧ type_of% @dF ∧ type_of% @iT ∧ type_of% @iF ∧ type_of% @iN ∧ type_of% @iM ∧ type_of% @List.getD_cons_zero.{0} ∧ type_of% @List.getD_cons_succ.{0} ∧ type_of% @addr_sl ∧ type_of% @addra_ptr ∧ type_of% @addra_rptr ∧ type_of% @addra_eptr ∧ type_of% @addra_glob ∧ type_of% @Nat.mul_one ∧ type_of% @extA_tup ∧ type_of% @List.replicate_succ.{0} ∧ type_of% @List.replicate_zero.{0} ∧ type_of% @List.flatten_cons.{0} ∧ type_of% @List.flatten_nil.{0} ∧ type_of% @List.all_cons.{0} ∧ type_of% @List.all_nil.{0} :=
  ⟨@fillA_nil, @fillA_cons, @bsliceA_eq, @browA_eq, @buildA_eq, @chunks_0, @chunks_s, @elems_sl', @elsK_ite, @fldA_agg, @len_aref, @len_sl, @len_nils, @len_ref, @addrs_aref, @slarr_ptr, @slarr_ptr0, @elems_aref, @b2s_some, @b2s_ite, @stringA_nil, @stringA_cons, @dT, @dF, @iT, @iF, @iN, @iM, @List.getD_cons_zero, @List.getD_cons_succ, @addr_sl, @addra_ptr, @addra_rptr, @addra_eptr, @addra_glob, @Nat.mul_one, @extA_tup, @List.replicate_succ, @List.replicate_zero, @List.flatten_cons, @List.flatten_nil, @List.all_cons, @List.all_nil⟩
end Go.Den

/- Den: what a law's arguments and listed variables hold. -/
namespace Go.Den
open Go Go.RowKit

def spotOk : Value → Prop
  | .slice (some a) _ _ => a.spot = none
  | _ => True

section
variable {H : Type} {enc : TypeId × Value → H} {P : Program} {w : World} {sp : Nat → Bool} {held : Bool}

/-- Fields one behind the other. -/
def FsOk (R : TypeId → DataW H → List AV → Prop) : List Field → List (DataW H) → List AV → Prop
  | [], ds, xs => ds = [] ∧ xs = []
  | x :: r, ds, xs => ∃ d ds' a b, ds = d :: ds' ∧ xs = a ++ b ∧ R x.type d a ∧ FsOk R r ds' b

/-- A datum of a type, as Den has it. -/
def AtOk (P : Program) : Nat → TypeId → DataW H → List AV → Prop
  | 0, _, _, _ => False
  | f + 1, t, d, xs => match P.underlying t with
    | some .bool => ∃ b, d = .lit (.bool b) ∧ xs = [.bool b]
    | some (.int k) => ∃ n, d = .lit (.int k n) ∧ xs = [.int k n] ∧ (Lit.int k n).wf = true
    | some .string => ∃ s : ByteArray, d = .lit (.string s.data.toList) ∧ xs = [.str s] ∧ s.size ≤ maxLen
    | some (.slice e) => (d = .nil ∧ xs = [.nils]) ∨ ∃ (es rest : List (DataW H)) (els : List (List AV)), d = .slice es rest ∧ xs = [.sl els false] ∧ es.length = els.length ∧ els.length ≤ maxLen ∧
        ∀ (i : Nat) (a : DataW H) (b : List AV), es[i]? = some a → els[i]? = some b → b.length = P.cellsOf e ∧ AtOk P f e a b
    | some (.struct fs) => ∃ ds, d = .agg ds ∧ FsOk (AtOk P f) fs.toList ds xs
    | some (.array n e) => ∃ (ds : List (DataW H)) (els : List (List AV)), d = .agg ds ∧ xs = els.flatten ∧ ds.length = n ∧ els.length = n ∧ ∀ (i : Nat) (a : DataW H) (b : List AV), ds[i]? = some a → els[i]? = some b → AtOk P f e a b
    | _ => False

/-- Fields lie one behind the other. -/
def fsIn (P : Program) (g : TypeId → Bool) : List Field → Nat → Nat → Bool
  | [], off, n => off == n
  | x :: r, off, n => x.offset == off && g x.type && fsIn P g r (off + P.cellsOf x.type) n

/-- A type that is read here. -/
def rdb (P : Program) (nest : Bool) : Nat → TypeId → Bool
  | 0, _ => false
  | f + 1, t => match P.underlying t with
    | some .bool => true
    | some (.int _) => true
    | some .string => true
    | some (.slice e) => nest && rdb P nest f e
    | some (.struct fs) => fsIn P (rdb P nest f) fs.toList 0 (P.cellsOf t)
    | some (.array n e) => rdb P nest f e && P.cellsOf t == n * P.cellsOf e
    | _ => false

def frz0 (w : World) (b o : Nat) : Option Value := if b < w.heap.size then w.cell? ⟨b, o, none⟩ else none

theorem frz0_of {b o : Nat} {v : Value} (h : w.cell? ⟨b, o, none⟩ = some v) : frz0 w b o = some v := by
  unfold frz0
  rw [if_pos, h]
  unfold World.cell? at h
  cases hh : w.heap[b]? with
  | none => rw [hh] at h; cases h
  | some o => exact (Array.getElem?_eq_some_iff.1 hh).1

theorem add_spot {a : Addr} (h : a.spot = none) (n : Nat) : a.add n = ⟨a.block, a.off + n, none⟩ := by
  unfold Addr.add
  split
  · rename_i e; subst e; obtain ⟨b, o, s⟩ := a; simp at h; subst h; rfl
  · rfl

theorem cells_get {a : Addr} (hs : a.spot = none) {k c : Nat} {cs : List Value} (h : w.cells? 0 (a.add k) c = some cs) : cs.length = c ∧ ∀ (j : Nat) (v : Value), cs[j]? = some v → w.cell? ⟨a.block, a.off + k + j, none⟩ = some v := by
  unfold World.cells? at h
  rw [if_pos (Nat.zero_le _)] at h
  have hl := mapM_some_length h
  rw [List.length_range] at hl
  refine ⟨hl, fun j v hv => ?_⟩
  have hj : j < c := by rw [← hl]; exact (List.getElem?_eq_some_iff.1 hv).1
  have := mapM_some_get h j j (by simp [hj])
  rw [hv] at this
  rw [add_spot hs, add_spot rfl] at this
  exact this

/-- A slice's elements, by the value itself. -/
def Rv0 (x : AV) (sz : Nat) (els : List (List AV)) : Prop := (x = .nils ∧ els = []) ∨ (x = .sl els false ∧ ∀ el ∈ els, el.length = sz)

/-- Rows of cells, one behind the other. -/
theorem rows_at {e : TypeId} {n : Nat} {R : DataW H → List AV → Prop} {a : Addr} (hs : a.spot = none)
    (hR : ∀ (cs : List Value) d ps, (∀ (j : Nat) (v : Value), cs[j]? = some v → ∃ o, w.cell? ⟨a.block, o, none⟩ = some v) → DataW.trod enc P w 0 sp held n e cs = some (d, ps) → ∃ xs, R d xs ∧ LRel (Gh.start w) xs cs ∧ Leaves cs ∧ xs.length = cs.length)
    {es : List (DataW H × List MemPlace)} (len : Nat) (hl : len ≤ es.length)
    (h : ∀ i, i < len → (w.cells? 0 (a.add (i * P.cellsOf e)) (P.cellsOf e)).bind (DataW.trod enc P w 0 sp held n e) = es[i]?) :
    ∃ (els : List (List AV)) (vs : List Value), els.length = len ∧ (∀ (i : Nat) (x : DataW H × List MemPlace) (b : List AV), es[i]? = some x → els[i]? = some b → b.length = P.cellsOf e ∧ R x.1 b) ∧ LRel (Gh.start w) els.flatten vs ∧ Leaves vs ∧ vs.length = len * P.cellsOf e ∧ Frz (Gh.start w) a.block a.off vs := by
  induction len with
  | zero => exact ⟨[], [], rfl, fun i x b _ hb => by simp at hb, rfl, fun v hv => by simp at hv, by simp, fun j v hv => by simp at hv⟩
  | succ m ih =>
    obtain ⟨els, vs, h1, h2, h3, h4, h5, h6⟩ := ih (by omega) (fun i hi => h i (by omega))
    have hm := h m (Nat.lt_succ_self m)
    have hme : es[m]? = some es[m] := List.getElem?_eq_getElem (by omega)
    rw [hme, Option.bind_eq_some_iff] at hm
    obtain ⟨cs, hc, ht⟩ := hm
    obtain ⟨c1, c2⟩ := cells_get hs hc
    obtain ⟨xs, x1, x2, x3, x4⟩ := hR cs es[m].1 es[m].2 (fun j v hv => ⟨_, c2 j v hv⟩) ht
    refine ⟨els ++ [xs], vs ++ cs, by simp [h1], fun i x b hx hb => ?_, by rw [List.flatten_append]; simpa using h3.append x2, h4.append x3, by simp [h5, c1, Nat.succ_mul], fun j v hv => ?_⟩
    · by_cases hi : i < els.length
      · rw [List.getElem?_append_left hi] at hb
        exact h2 i x b hx hb
      · have hlt := (List.getElem?_eq_some_iff.1 hb).1
        rw [List.length_append, List.length_singleton] at hlt
        have : i = m := by omega
        subst this
        rw [List.getElem?_append_right (by omega), h1, Nat.sub_self] at hb
        simp only [List.getElem?_cons_zero, Option.some.injEq] at hb
        rw [hme] at hx
        cases hx; cases hb
        exact ⟨by omega, x1⟩
    · by_cases hj : j < vs.length
      · rw [List.getElem?_append_left hj] at hv
        exact h6 j v hv
      · rw [List.getElem?_append_right (by omega)] at hv
        have := c2 _ _ hv
        have e1 : a.off + m * P.cellsOf e + (j - vs.length) = a.off + j := by omega
        rw [e1] at this
        exact frz0_of this

theorem fields_at {n : Nat} {R : TypeId → DataW H → List AV → Prop} {g : TypeId → Bool} {cs : List Value}
    (hR : ∀ t c d ps, g t = true → (∀ v ∈ c, v ∈ cs) → DataW.trod enc P w 0 sp held n t c = some (d, ps) → ∃ xs, R t d xs ∧ LRel (Gh.start w) xs c ∧ Leaves c ∧ xs.length = c.length)
    (N : Nat) (hN : cs.length = N) :
    ∀ (fs : List Field) (ys : List (DataW H × List MemPlace)) (off : Nat), fsIn P g fs off N = true → ys.length = fs.length → (∀ (i : Nat) (f : Field), fs[i]? = some f → DataW.trod enc P w 0 sp held n f.type ((cs.drop f.offset).take (P.cellsOf f.type)) = ys[i]?) →
      ∃ xs, FsOk R fs (ys.map (·.1)) xs ∧ LRel (Gh.start w) xs (cs.drop off) ∧ Leaves (cs.drop off) ∧ xs.length = (cs.drop off).length
  | [], ys, off, hf, hy, _ => by
    simp only [fsIn, beq_iff_eq] at hf
    have : cs.drop off = [] := List.drop_eq_nil_of_le (by omega)
    rw [this]
    cases ys with
    | nil => exact ⟨[], ⟨rfl, rfl⟩, rfl, fun v hv => by simp at hv, rfl⟩
    | cons _ _ => simp at hy
  | x :: r, ys, off, hf, hy, h => by
    simp only [fsIn, Bool.and_eq_true, beq_iff_eq] at hf
    obtain ⟨⟨rfl, hg⟩, hr⟩ := hf
    cases ys with
    | nil => simp at hy
    | cons y ys =>
      have h0 := h 0 x rfl
      simp only [List.getElem?_cons_zero] at h0
      obtain ⟨a, a1, a2, a3, a4⟩ := hR x.type _ y.1 y.2 hg (fun v hv => List.mem_of_mem_drop (List.mem_of_mem_take hv)) h0
      obtain ⟨b, b1, b2, b3, b4⟩ := fields_at hR N hN r ys (x.offset + P.cellsOf x.type) hr (by simpa using hy) (fun i f hi => by have := h (i + 1) f hi; simpa using this)
      have e : cs.drop x.offset = (cs.drop x.offset).take (P.cellsOf x.type) ++ cs.drop (x.offset + P.cellsOf x.type) := by
        rw [← List.drop_drop]; exact (List.take_append_drop _ _).symm
      refine ⟨a ++ b, ⟨y.1, ys.map (·.1), a, b, rfl, rfl, a1, b1⟩, ?_, ?_, ?_⟩
      · rw [e]; exact a2.append b2
      · rw [e]; exact a3.append b3
      · rw [e, List.length_append, List.length_append, a4, b4]

theorem parts_at {e : TypeId} {n : Nat} {R : DataW H → List AV → Prop} {cs : List Value}
    (hR : ∀ (c : List Value) d ps, (∀ v ∈ c, v ∈ cs) → DataW.trod enc P w 0 sp held n e c = some (d, ps) → ∃ xs, R d xs ∧ LRel (Gh.start w) xs c ∧ Leaves c ∧ xs.length = c.length)
    {ys : List (DataW H × List MemPlace)} (k : Nat) (hk : k * P.cellsOf e ≤ cs.length) (hy : k ≤ ys.length) (h : ∀ i, i < k → DataW.trod enc P w 0 sp held n e ((cs.drop (i * P.cellsOf e)).take (P.cellsOf e)) = ys[i]?) :
    ∃ els : List (List AV), els.length = k ∧ (∀ (i : Nat) (x : DataW H × List MemPlace) (b : List AV), ys[i]? = some x → els[i]? = some b → R x.1 b) ∧ LRel (Gh.start w) els.flatten (cs.take (k * P.cellsOf e)) ∧ Leaves (cs.take (k * P.cellsOf e)) ∧ els.flatten.length = k * P.cellsOf e := by
  induction k with
  | zero => exact ⟨[], rfl, fun i x b _ hb => by simp at hb, by simp [LRel], fun v hv => by simp at hv, by simp⟩
  | succ m ih =>
    rw [Nat.succ_mul] at hk
    obtain ⟨els, h1, h2, h3, h4, h5⟩ := ih (by omega) (by omega) (fun i hi => h i (by omega))
    have hm := h m (Nat.lt_succ_self m)
    have hme : ys[m]? = some ys[m] := List.getElem?_eq_getElem (by omega)
    rw [hme] at hm
    obtain ⟨xs, x1, x2, x3, x4⟩ := hR _ ys[m].1 ys[m].2 (fun v hv => List.mem_of_mem_drop (List.mem_of_mem_take hv)) hm
    have hx : xs.length = P.cellsOf e := by rw [x4, List.length_take, List.length_drop]; omega
    have et : cs.take ((m + 1) * P.cellsOf e) = cs.take (m * P.cellsOf e) ++ (cs.drop (m * P.cellsOf e)).take (P.cellsOf e) := by rw [Nat.succ_mul, List.take_add]
    refine ⟨els ++ [xs], by simp [h1], fun i x b hx hb => ?_, by rw [et, List.flatten_append]; simpa using h3.append x2, by rw [et]; exact h4.append x3, by rw [List.flatten_append, List.length_append, h5, Nat.succ_mul]; simp [hx]⟩
    by_cases hi : i < els.length
    · rw [List.getElem?_append_left hi] at hb
      exact h2 i x b hx hb
    · have hlt := (List.getElem?_eq_some_iff.1 hb).1
      rw [List.length_append, List.length_singleton] at hlt
      have : i = m := by omega
      subst this
      rw [List.getElem?_append_right (by omega), h1, Nat.sub_self] at hb
      simp only [List.getElem?_cons_zero, Option.some.injEq] at hb
      rw [hme] at hx
      cases hx; cases hb
      exact x1

theorem trod_at {nest : Bool} (hw : nest = true → ∀ b o v, w.cell? ⟨b, o, none⟩ = some v → spotOk v) : ∀ (f : Nat) (t : TypeId) (n : Nat) (cs : List Value) (d : DataW H) (ps : List MemPlace), rdb P nest f t = true → (nest = true → ∀ v ∈ cs, spotOk v) →
    DataW.trod enc P w 0 sp held n t cs = some (d, ps) → ∃ xs, AtOk P f t d xs ∧ LRel (Gh.start w) xs cs ∧ Leaves cs ∧ xs.length = cs.length
  | 0, _, _, _, _, _, hr, _, _ => by simp [rdb] at hr
  | f + 1, t, n, cs, d, ps, hr, hsp, h => by
    unfold rdb at hr
    unfold AtOk
    cases ht : P.underlying t with
    | none => rw [ht] at hr; cases hr
    | some td =>
      rw [ht] at hr
      cases td with
      | bool =>
        obtain ⟨b, rfl, hx⟩ := DataW.trod_bool ht h
        cases hx
        exact ⟨[.bool b], ⟨b, rfl, rfl⟩, LRel.single.2 rfl, fun v hv => by simp at hv; subst hv; rfl, rfl⟩
      | int k =>
        obtain ⟨b, rfl, hx, hwf⟩ := DataW.trod_int ht h
        cases hx
        exact ⟨[.int k b], ⟨b, rfl, rfl, hwf⟩, LRel.single.2 rfl, fun v hv => by simp at hv; subst hv; rfl, rfl⟩
      | string =>
        obtain ⟨s, rfl, hx, hs⟩ := DataW.trod_string ht h
        cases hx
        exact ⟨[.str s], ⟨s, rfl, rfl, hs⟩, LRel.single.2 rfl, fun v hv => by simp at hv; subst hv; rfl, rfl⟩
      | slice e =>
        simp only [Bool.and_eq_true] at hr
        obtain ⟨hn, hr⟩ := hr
        rcases DataW.trod_slice ht h with ⟨rfl, hx⟩ | ⟨a, len, cap, es, rest, m, rfl, rfl, hx, _, hlc, hcm, hel, hes, _, _⟩
        · cases hx
          exact ⟨[.nils], .inl ⟨rfl, rfl⟩, LRel.single.2 rfl, fun v hv => by simp at hv; subst hv; rfl, rfl⟩
        · cases hx
          have hs : a.spot = none := hsp hn _ (List.mem_singleton_self _)
          obtain ⟨els, vs, h1, h2, h3, h4, h5, h6⟩ := rows_at (R := AtOk P f e) hs (fun c d' ps' hc ht' => trod_at hw f e m c d' ps' hr (fun _ v hv => by
            obtain ⟨j, hj⟩ := List.mem_iff_getElem?.1 hv
            obtain ⟨o, ho⟩ := hc j v hj
            exact hw hn _ _ _ ho) ht') len (by omega) hes
          refine ⟨[.sl els false], .inr ⟨es.map (·.1), rest.map (·.1), els, rfl, rfl, by simp [hel, h1], by omega, fun i x b hx hb => ?_⟩, LRel.single.2 ?_, fun v hv => by simp at hv; subst hv; rfl, rfl⟩
          · rw [List.getElem?_map, Option.map_eq_some_iff] at hx
            obtain ⟨y, hy, rfl⟩ := hx
            exact h2 i y b hy hb
          · refine ⟨a.block, a.off, cap, P.cellsOf e, vs, ?_, by omega, (fun hc => absurd hc (by decide)), fun el hel' => ?_, h6, h4, LLRel.iff.2 h3⟩
            · rw [h1]
              obtain ⟨b, o, s⟩ := a
              simp at hs; subst hs
              rfl
            · obtain ⟨j, hj⟩ := List.mem_iff_getElem?.1 hel'
              have hjl := (List.getElem?_eq_some_iff.1 hj).1
              exact (h2 j es[j] el (List.getElem?_eq_getElem (by omega)) hj).1
      | struct fs =>
        obtain ⟨ys, m, rfl, hx, hl, hyl, hys⟩ := DataW.trod_struct ht h
        cases hx
        obtain ⟨xs, x1, x2, x3, x4⟩ := fields_at (R := AtOk P f) (cs := cs) (fun t' c d' ps' hg hc ht' => trod_at hw f t' m c d' ps' hg (fun hn v hv => hsp hn v (hc v hv)) ht') _ hl fs.toList ys 0 hr (by simpa using hyl) (fun i fl hi => hys i fl (by simpa using hi))
        exact ⟨xs, ⟨_, rfl, x1⟩, by simpa using x2, by simpa using x3, by simpa using x4⟩
      | array k e =>
        simp only [Bool.and_eq_true, beq_iff_eq] at hr
        obtain ⟨hre, hc⟩ := hr
        obtain ⟨ys, m, rfl, hx, hl, hyl, hys⟩ := DataW.trod_array ht h
        cases hx
        obtain ⟨els, h1, h2, h3, h4, h5⟩ := parts_at (R := AtOk P f e) (cs := cs) (fun c d' ps' hc' ht' => trod_at hw f e m c d' ps' hre (fun hn v hv => hsp hn v (hc' v hv)) ht') k (by rw [hl, hc]; exact Nat.le_refl _) (by omega) hys
        have hw' : k * P.cellsOf e = cs.length := by rw [hl, hc]
        rw [hw', List.take_length] at h3 h4
        exact ⟨els.flatten, ⟨_, els, rfl, rfl, by simpa using hyl, h1, fun i a b ha hb => by
          rw [List.getElem?_map, Option.map_eq_some_iff] at ha
          obtain ⟨y, hy, rfl⟩ := ha
          exact h2 i y b hy hb⟩, h3, h4, by rw [h5, hw']⟩
      | _ => cases hr

/-- A slice that is an argument; its elements are plain. -/
theorem open_sl {t e : TypeId} {sz f : Nat} {v : Value} {d : DataW H} {ps : List MemPlace} {b : Nat} (ht : P.underlying t = some (.slice e)) (hsz : P.cellsOf e = sz) (hr : rdb P false f e = true) (hok : Value.okWide P w .any b t v)
    (h : DataW.Trod enc P w 0 sp held t v d ps) : ∃ x els, VRel (Gh.start w) x v ∧ Rv0 x sz els ∧ els.length ≤ maxLen ∧ ∀ el ∈ els, ∃ d' : DataW H, AtOk P f e d' el := by
  have hv : spotOk v ∧ v.cells.toList = [v] := by
    unfold Value.okWide at hok
    rw [ht] at hok
    unfold Cell.okWide at hok
    cases v <;> simp [ht, Cell.ok] at hok
    rename_i a len cap
    refine ⟨?_, rfl⟩
    cases a with
    | none => trivial
    | some a =>
      simp only at hok
      exact hok.2.2.2.1
  obtain ⟨n, h⟩ := h
  rw [hv.2] at h
  rcases DataW.trod_slice ht h with ⟨e1, _⟩ | ⟨a, len, cap, es, rest, m, rfl, e1, hx, _, hlc, hcm, hel, hes, _, _⟩
  · simp only [List.cons.injEq, and_true] at e1
    exact ⟨.nils, [], e1, .inl ⟨rfl, rfl⟩, Nat.zero_le _, fun el hel => by cases hel⟩
  · simp only [List.cons.injEq, and_true] at e1
    subst e1
    have hs : a.spot = none := hv.1
    obtain ⟨els, vs, h1, h2, h3, h4, h5, h6⟩ := rows_at (R := AtOk P f e) hs (fun c d' ps' hc ht' => trod_at (nest := false) (fun e => by cases e) f e m c d' ps' hr (fun e => by cases e) ht') len (by omega) hes
    have hu : ∀ el ∈ els, el.length = sz ∧ ∃ d' : DataW H, AtOk P f e d' el := fun el hel' => by
      obtain ⟨j, hj⟩ := List.mem_iff_getElem?.1 hel'
      have hjl := (List.getElem?_eq_some_iff.1 hj).1
      have := h2 j es[j] el (List.getElem?_eq_getElem (by omega)) hj
      exact ⟨this.1.trans hsz, _, this.2⟩
    refine ⟨.sl els false, els, ⟨a.block, a.off, cap, sz, vs, ?_, by omega, (fun hc => absurd hc (by decide)), fun el hel' => (hu el hel').1, h6, h4, LLRel.iff.2 h3⟩, .inr ⟨rfl, fun el hel' => (hu el hel').1⟩, by omega, fun el hel' => (hu el hel').2⟩
    rw [h1]
    obtain ⟨b, o, s⟩ := a
    simp at hs; subst hs
    rfl

/-- What was read before the call reads so behind it. -/
theorem below_all {W W' : World} (hl : laidOutB P = true) (hb : Below W.heap.size W W') : ∀ {ts : List TypeId} {vs : List Value} {ds : List (DataW H)} {ps : List MemPlace}, (ts.all fun t => P.readableRec t && decide (t < P.types.size)) = true →
    DataW.TrodAll enc P W 0 (fun _ => true) true ts vs ds ps → (∀ x ∈ ps, x.block < W.heap.size) → DataW.TrodAll enc P W' 0 (fun b => decide (b < W.heap.size)) true ts vs ds ps
  | [], [], [], _, _, h, _ => h
  | t :: ts, v :: vs, d :: ds, ps, ht, h, hp => by
    simp only [List.all_cons, Bool.and_eq_true, decide_eq_true_eq] at ht
    obtain ⟨p, q, h1, h2, rfl⟩ := h
    exact ⟨p, q, Below.trod hl ht.1.1 ht.1.2 h1 hb (fun x hx => hp x (List.mem_append_left _ hx)), below_all hl hb (by simpa using ht.2) h2 (fun x hx => hp x (List.mem_append_right _ hx)), rfl⟩
  | [], [], _ :: _, _, _, h, _ => h.elim
  | [], _ :: _, _, _, _, h, _ => h.elim
  | _ :: _, [], _, _, _, h, _ => h.elim
  | _ :: _, _ :: _, [], _, _, h, _ => h.elim

end

/-- **A law's call**, by what Den gives. -/
theorem D_calls {P : Program} {X : Ctx} {w : World} (hg : GlobOk X w.heap.size w) (hX : CodeOk P X) (hP : ∀ f p, X.prim f = some p → PrimOk P w.heap.size w f p) {f : FuncId} {fn : Func} (hfn : P.funcs[f]? = some fn) (hb : fn.body.isSome = true)
    (hname : (fn.name == "runtime.NumGoroutine") = false) {args : List AV} {args' : Array Value} (hl : LRel (Gh.start w) args args'.toList) {v : AV} {σ' : AS} (h : D X (.fn (.func f) [] []) args ⟨[], none⟩ = some (.ret v σ')) :
    Calls P f args' w fun e w' => ∃ G v', e = .returned v' ∧ VRel G v v' ∧ Below w.heap.size w w' := by
  have hk := D_sound hg hX hP _ _ _ _ h (Gh.start w) w (.func (.func f) #[] #[]) args' (.start w) ⟨_, _, _, rfl, rfl, rfl, rfl⟩ hl
  have hrun : (callS (.func (.func f) #[] #[]) args').run P w = .ok (.enter f args') w := by
    have hn' : ¬ fn.name = "runtime.NumGoroutine" := by simpa using hname
    obtain ⟨c, hc⟩ := Option.isSome_iff_exists.1 hb
    simp [callS, Deferred.ofValue, invoke, callFunc, run_program, hfn, hn', hc]
  rw [hrun] at hk
  have hk' : CallsIn Fence.wide 0 P f args' w (Ends P w.heap.size w (Gh.start w) { heap := [], lo := none } (.ret v σ')) := hk
  refine callsIn_wide.1 (hk'.mono fun e w' he => ?_)
  cases e with
  | returned v' =>
    obtain ⟨G', h1, h2, h3, _⟩ := he
    exact ⟨G', v', rfl, h3, h2.bel⟩
  | panicked _ => exact he.elim
  | outgrown => exact he.elim

end Go.Den
