/- The primitives of the laws' own check, and its first part, computed by the kernel (no conditions). -/
import Derived.Test.YthbgjjdbcalhcaaGreatDoorDiffB
import Derived.Test.YthbgjjdbcalhcaaGreatDoorDenD
import Derived.Test.YthbgjjdbcalhcaaGreatDoorDenE
import Derived.Test.YthbgjjdbcalhcaaGreatDoorDenC
set_option linter.unusedVariables false
set_option linter.unusedSimpArgs false
set_option linter.unusedSectionVars false
set_option linter.deprecated false

/- The builder's own check, its growing, as primitives. -/
namespace Go.Proofs.YthbgjjdbcalhcaaGreatDoor
open Go Go.Den

def ty_dumper : Nat := 116

/-- The builder's own check: a new one, or one that was used. -/
def copyCheckP (args : List AV) (σ : AS) : Option CRes :=
  match args with
  | [.ptr B 0] => match σ.heap[B]? with
    | some (.box [c, v] tg) => if (tg = some ty_strings_Builder ∨ tg = some ty_dumper) ∧ (match c with | .nilp => true | .ptr i o => i == B && o == 0 | _ => false) = true then some (.ret (.tup []) ⟨σ.heap.set B (.box [.ptr B 0, v] tg), σ.lo⟩) else none
    | _ => none
  | _ => none

/-- A builder without a buffer gets one. -/
def growP (args : List AV) (σ : AS) : Option CRes :=
  match args with
  | [.ptr B 0, .int .i64 n] => match σ.heap[B]? with
    | some (.box [c, .nils] tg) => if 0 ≤ n ∧ n < 2^40 then some (.ret (.tup []) ((σ.push (.row 0 1 ty_uint8 [])).set B (.box [c, .ref σ.heap.length 0 1 0 0 false] tg) (σ.heap.length + 1))) else none
    | _ => none
  | _ => none

def pow10L : List Nat := [1, 10, 100, 1000, 10000, 100000, 1000000, 10000000, 100000000, 1000000000, 10000000000, 100000000000, 1000000000000, 10000000000000, 100000000000000, 1000000000000000, 10000000000000000, 100000000000000000, 1000000000000000000, 10000000000000000000]

end Go.Proofs.YthbgjjdbcalhcaaGreatDoor

/- The context of the law's own check, and the kernel's evaluator. -/
namespace Go.Proofs.YthbgjjdbcalhcaaGreatDoor
open Go Go.Den
set_option maxRecDepth 100000

def tagOk (tg : Option TypeId) : Bool := match tg with
  | some t => Nat.beq t ty_strings_Builder || Nat.beq t ty_dumper
  | none => false
def addrOk (B : Nat) (c : AV) : Bool := match c with
  | .nilp => true
  | .ptr i o => i == B && o == 0
  | _ => false

theorem tagOk_iff {tg : Option TypeId} : tagOk tg = true ↔ (tg = some ty_strings_Builder ∨ tg = some ty_dumper) := by
  cases tg with
  | none => simp [tagOk]
  | some t => simp [tagOk]

noncomputable def copyF (args : List AV) (σ : FS) : Option FCRes :=
  match args with
  | [.ptr B 0] => match σ.get B with
    | some (.box p tg) => match p.toList with
      | [c, v] => if tagOk tg && addrOk B c then some (.ret (.tup []) ⟨σ.n, (σ.set B (.box (PL.ofList [.ptr B 0, v]) tg) 0).t, σ.lo, minF σ.mn B⟩) else none
      | _ => none
    | _ => none
  | _ => none

noncomputable def growF (args : List AV) (σ : FS) : Option FCRes :=
  match args with
  | [.ptr B 0, .int .i64 n] => match σ.get B with
    | some (.box p tg) => match p.toList with
      | [c, .nils] => if 0 ≤ n ∧ n < 2^40 then some (.ret (.tup []) ((σ.push (.row 0 1 ty_uint8 (RL.ofList []))).set B (.box (PL.ofList [c, .ref σ.n 0 1 0 0 false]) tg) (σ.n + 1))) else none
      | _ => none
    | _ => none
  | _ => none

/-- A primitive that leaves the state. -/
noncomputable def stayF (p : List AV → AS → Option CRes) (args : List AV) (σ : FS) : Option FCRes :=
  match p args ⟨[], none⟩ with
  | some (.ret v _) => some (.ret v σ)
  | _ => none

theorem copyF_ok (args : List AV) (σ : FS) (r : FCRes) (h : copyF args σ = some r) : copyCheckP args σ.dec = some r.dec := by
  unfold copyF at h
  unfold copyCheckP
  split at h
  · rename_i B
    simp only [FS.get_full]
    split at h
    · rename_i p tg hg
      rw [hg]
      simp only [Option.map_some, FObj.dec]
      split at h
      · rename_i c v hp
        rw [hp]
        split at h
        · rename_i hc
          rw [Bool.and_eq_true] at hc
          cases h
          have e := congrArg AS.heap (FS.set_eq σ B (.box (PL.ofList [.ptr B 0, v]) tg) 0)
          simp only
          rw [if_pos ⟨tagOk_iff.1 hc.1, by unfold addrOk at hc; exact hc.2⟩]
          simp only [FCRes.dec, Option.some.injEq, CRes.ret.injEq, true_and]
          have e2 : FS.dec ⟨σ.n, (σ.set B (.box (PL.ofList [.ptr B 0, v]) tg) 0).t, σ.lo, minF σ.mn B⟩ = ⟨(σ.set B (.box (PL.ofList [.ptr B 0, v]) tg) 0).dec.heap, σ.lo⟩ := rfl
          rw [e2, e]
          simp only [AS.set, FObj.dec, PL.ofList_eq]
          rfl
        · cases h
      · cases h
    · cases h
  · cases h

theorem copyF_keep (args : List AV) (σ : FS) (r : FCRes) (h : copyF args σ = some r) : Keep σ r.st := by
  unfold copyF at h
  split at h
  · split at h
    · split at h
      · split at h
        · cases h
          exact ⟨(Keep.set σ _ _ 0).mn, fun i hi hm => (Keep.set σ _ _ 0).at' i hi hm⟩
        · cases h
      · cases h
    · cases h
  · cases h

theorem growF_ok (args : List AV) (σ : FS) (r : FCRes) (h : growF args σ = some r) : growP args σ.dec = some r.dec := by
  unfold growF at h
  unfold growP
  split at h
  · rename_i B n
    simp only [FS.get_full]
    split at h
    · rename_i p tg hg
      rw [hg]
      simp only [Option.map_some, FObj.dec]
      split at h
      · rename_i c hp
        rw [hp]
        split at h
        · rename_i hc
          cases h
          simp only
          rw [if_pos hc]
          simp only [FCRes.dec, FS.set_eq, FS.push_eq, FObj.dec, PL.ofList_eq, RL.ofList_eq, FS.dec_len]
        · cases h
      · cases h
    · cases h
  · cases h

theorem growF_keep (args : List AV) (σ : FS) (r : FCRes) (h : growF args σ = some r) : Keep σ r.st := by
  unfold growF at h
  split at h
  · split at h
    · split at h
      · split at h
        · cases h
          exact (Keep.push _ _).trans (Keep.set _ _ _ _)
        · cases h
      · cases h
    · cases h
  · cases h

theorem countF_ok (args : List AV) (σ : FS) (r : FCRes) (h : stayF countP args σ = some r) : countP args σ.dec = some r.dec := by
  unfold stayF countP at h
  unfold countP
  split at h
  · rename_i v τ he
    cases h
    split at he
    · split at he
      · rename_i hc
        rw [if_pos hc]
        cases he; rfl
      · cases he
    · cases he
  · cases h

theorem indexF_ok (args : List AV) (σ : FS) (r : FCRes) (h : stayF indexByteP args σ = some r) : indexByteP args σ.dec = some r.dec := by
  unfold stayF indexByteP at h
  unfold indexByteP
  split at h
  · rename_i v τ he
    cases h
    split at he
    · split at he
      · rename_i hc
        rw [if_pos hc]
        cases he; rfl
      · cases he
    · cases he
  · cases h

theorem stayF_keep (p : List AV → AS → Option CRes) (args : List AV) (σ : FS) (r : FCRes) (h : stayF p args σ = some r) : Keep σ r.st := by
  unfold stayF at h
  split at h
  · cases h; exact .refl _
  · cases h

def primT1 : List (Nat × (List AV → AS → Option CRes)) := [(fn_Pstrings_Builder_copyCheck, copyCheckP), (fn_Pstrings_Builder_grow, growP), (fn_ibytealg_CountString, countP), (fn_ibytealg_IndexByteString, indexByteP)]

/-- The context in which the check runs. -/
def X0 : Ctx := { glob := fun g => if g = g_istrconv_uint64pow10 then some (pow10L.map fun (n : Nat) => AV.int .u64 n) else none, code := fun f => codeT.lookup f, prim := fun f => primT1.lookup f }

noncomputable def PR0 : PrimsF := fun f => if f = fn_Pstrings_Builder_copyCheck then some copyF else if f = fn_Pstrings_Builder_grow then some growF else if f = fn_ibytealg_CountString then some (stayF countP) else if f = fn_ibytealg_IndexByteString then some (stayF indexByteP) else none

theorem PR0_ok : PrimsF.ok X0 PR0 := fun f q h => by
  unfold PR0 at h
  split at h
  · rename_i hf; subst hf; cases h; exact ⟨copyCheckP, rfl, copyF_ok⟩
  · split at h
    · rename_i hf; subst hf; cases h; exact ⟨growP, rfl, growF_ok⟩
    · split at h
      · rename_i hf; subst hf; cases h; exact ⟨countP, rfl, countF_ok⟩
      · split at h
        · rename_i hf; subst hf; cases h; exact ⟨indexByteP, rfl, indexF_ok⟩
        · cases h

theorem PR0_keep : PrimsKeep PR0 := fun f q h args σ r hr => by
  unfold PR0 at h
  split at h
  · cases h; exact copyF_keep _ _ _ hr
  · split at h
    · cases h; exact growF_keep _ _ _ hr
    · split at h
      · cases h; exact stayF_keep _ _ _ _ hr
      · split at h
        · cases h; exact stayF_keep _ _ _ _ hr
        · cases h

noncomputable def kF0 (n : Nat) : CallerF := callF X0 PR0 n
theorem kF0_D (n : Nat) : CSnd (kF0 n) (D X0) := D_callF X0 PR0 PR0_ok PR0_keep

noncomputable def isT : Option FCRes → Bool
  | some (.ret (.bool b) _) => b
  | _ => false

theorem isT_ret {o : Option FCRes} (h : isT o = true) : ∃ σ, o = some (.ret (.bool true) σ) := by
  unfold isT at h
  split at h
  · subst h; exact ⟨_, rfl⟩
  · cases h

noncomputable def σF : FS := ⟨0, .nil, none, 0⟩

/-- What the kernel computes. -/
theorem D_true {f : FuncId} {args : List AV} {n : Nat} (h : isT (kF0 n (.fn (.func f) [] []) args σF) = true) : ∃ σ, D X0 (.fn (.func f) [] []) args ⟨[], none⟩ = some (.ret (.bool true) σ) := by
  obtain ⟨σ, hσ⟩ := isT_ret h
  exact ⟨σ.dec, kF0_D n _ _ _ _ hσ⟩

end Go.Proofs.YthbgjjdbcalhcaaGreatDoor

/- The states between the parts of the law's own check. -/
namespace Go.Proofs.YthbgjjdbcalhcaaGreatDoor
open Go Go.Den
set_option maxRecDepth 100000

def B0 : List AV := splice (splice z952_2fb3 936 [.bool true]) 944 [.bool true]
/-- A book whose first k slots are issued. -/
def bookK (k : Nat) : List AV := repL k [.int .u32 0, .bool true, .bool false] ++ repL (32 - k) [.int .u32 0, .bool false, .bool false]
def tabK (k : Nat) : AObj := .box (bookK k ++ repL 32 [.int .u32 0, .int .i64 0, .nils, .int .i64 0, .int .u32 0, .int .u32 0, .int .u32 0, .int .u32 0, .int .u32 0, .int .u32 0, .int .u32 0, .int .u32 0]) none
def tokK (k : Nat) : AObj := .box (bookK k ++ (repL k [.int .u32 4294967295, .int .u8 0, .int .u8 1, .bool false, .int .u32 0] ++ repL (16 - k) [.int .u32 0, .int .u8 0, .int .u8 0, .bool false, .int .u32 0])) none
/-- Such boxes, each twice, from number k on. -/
def twice (f : Nat → AObj) : Nat → Nat → List AObj
  | 0, _ => []
  | n + 1, k => f k :: f k :: twice f n (k + 1)
def numsR (n ver : Nat) : AObj := .row ver 1 ty_handle_Handle ((List.range n).map fun i => [.int .u32 (i + 1 : Nat)])
def text1 : List (List AV) := [[.int .u8 110], [.int .u8 101], [.int .u8 120], [.int .u8 116], [.int .u8 32], [.int .u8 116], [.int .u8 97], [.int .u8 98], [.int .u8 108], [.int .u8 101], [.int .u8 32], [.int .u8 49], [.int .u8 44], [.int .u8 50], [.int .u8 44], [.int .u8 51], [.int .u8 44], [.int .u8 52], [.int .u8 44], [.int .u8 53], [.int .u8 44], [.int .u8 54], [.int .u8 44], [.int .u8 55], [.int .u8 44], [.int .u8 56], [.int .u8 44], [.int .u8 57], [.int .u8 44], [.int .u8 49], [.int .u8 48], [.int .u8 44], [.int .u8 49], [.int .u8 49], [.int .u8 44], [.int .u8 49], [.int .u8 50], [.int .u8 44], [.int .u8 49], [.int .u8 51], [.int .u8 44], [.int .u8 49], [.int .u8 52], [.int .u8 44], [.int .u8 49], [.int .u8 53], [.int .u8 44], [.int .u8 49], [.int .u8 54], [.int .u8 44], [.int .u8 49], [.int .u8 55], [.int .u8 44], [.int .u8 49], [.int .u8 56], [.int .u8 44], [.int .u8 49], [.int .u8 57], [.int .u8 44], [.int .u8 50], [.int .u8 48], [.int .u8 44], [.int .u8 50], [.int .u8 49], [.int .u8 44], [.int .u8 50], [.int .u8 50], [.int .u8 44], [.int .u8 50], [.int .u8 51], [.int .u8 44], [.int .u8 50], [.int .u8 52], [.int .u8 44], [.int .u8 50], [.int .u8 53], [.int .u8 44], [.int .u8 50], [.int .u8 54], [.int .u8 44], [.int .u8 50], [.int .u8 55], [.int .u8 44], [.int .u8 50], [.int .u8 56], [.int .u8 44], [.int .u8 50], [.int .u8 57], [.int .u8 44], [.int .u8 51], [.int .u8 48], [.int .u8 44], [.int .u8 51], [.int .u8 49], [.int .u8 44], [.int .u8 51], [.int .u8 50], [.int .u8 10]]
def text2 : List (List AV) := [[.int .u8 110], [.int .u8 101], [.int .u8 120], [.int .u8 116], [.int .u8 32], [.int .u8 116], [.int .u8 97], [.int .u8 98], [.int .u8 108], [.int .u8 101], [.int .u8 32], [.int .u8 49], [.int .u8 44], [.int .u8 50], [.int .u8 44], [.int .u8 51], [.int .u8 44], [.int .u8 52], [.int .u8 44], [.int .u8 53], [.int .u8 44], [.int .u8 54], [.int .u8 44], [.int .u8 55], [.int .u8 44], [.int .u8 56], [.int .u8 44], [.int .u8 57], [.int .u8 44], [.int .u8 49], [.int .u8 48], [.int .u8 44], [.int .u8 49], [.int .u8 49], [.int .u8 44], [.int .u8 49], [.int .u8 50], [.int .u8 44], [.int .u8 49], [.int .u8 51], [.int .u8 44], [.int .u8 49], [.int .u8 52], [.int .u8 44], [.int .u8 49], [.int .u8 53], [.int .u8 44], [.int .u8 49], [.int .u8 54], [.int .u8 44], [.int .u8 49], [.int .u8 55], [.int .u8 44], [.int .u8 49], [.int .u8 56], [.int .u8 44], [.int .u8 49], [.int .u8 57], [.int .u8 44], [.int .u8 50], [.int .u8 48], [.int .u8 44], [.int .u8 50], [.int .u8 49], [.int .u8 44], [.int .u8 50], [.int .u8 50], [.int .u8 44], [.int .u8 50], [.int .u8 51], [.int .u8 44], [.int .u8 50], [.int .u8 52], [.int .u8 44], [.int .u8 50], [.int .u8 53], [.int .u8 44], [.int .u8 50], [.int .u8 54], [.int .u8 44], [.int .u8 50], [.int .u8 55], [.int .u8 44], [.int .u8 50], [.int .u8 56], [.int .u8 44], [.int .u8 50], [.int .u8 57], [.int .u8 44], [.int .u8 51], [.int .u8 48], [.int .u8 44], [.int .u8 51], [.int .u8 49], [.int .u8 44], [.int .u8 51], [.int .u8 50], [.int .u8 10], [.int .u8 110], [.int .u8 101], [.int .u8 120], [.int .u8 116], [.int .u8 32], [.int .u8 116], [.int .u8 111], [.int .u8 107], [.int .u8 101], [.int .u8 110], [.int .u8 115], [.int .u8 32], [.int .u8 49], [.int .u8 44], [.int .u8 50], [.int .u8 44], [.int .u8 51], [.int .u8 44], [.int .u8 52], [.int .u8 44], [.int .u8 53], [.int .u8 44], [.int .u8 54], [.int .u8 44], [.int .u8 55], [.int .u8 44], [.int .u8 56], [.int .u8 44], [.int .u8 57], [.int .u8 44], [.int .u8 49], [.int .u8 48], [.int .u8 44], [.int .u8 49], [.int .u8 49], [.int .u8 44], [.int .u8 49], [.int .u8 50], [.int .u8 44], [.int .u8 49], [.int .u8 51], [.int .u8 44], [.int .u8 49], [.int .u8 52], [.int .u8 44], [.int .u8 49], [.int .u8 53], [.int .u8 44], [.int .u8 49], [.int .u8 54], [.int .u8 10]]
def mid1 : List AObj := .box B0 none :: .box B0 none :: tabK 1 :: tabK 1 :: numsR 32 31 :: (twice tabK 31 2 ++ [tabK 32, tabK 32])
def dmp (v n : Nat) : AObj := .box [.ptr 1 0, .ref 71 v 1 0 n false] (some ty_dump_dumper)
def S0 : AS := ⟨[.box B0 none, .box [.nilp, .nils] (some ty_dump_dumper), .box B0 none], none⟩
def S1 : AS := ⟨.box B0 none :: dmp 5 98 :: (mid1 ++ [.row 5 1 ty_uint8 text1]), some 1⟩
def S2 : AS := ⟨.box B0 none :: dmp 11 149 :: (mid1 ++ (.row 11 1 ty_uint8 text2 :: .box B0 none :: .map [] :: tokK 1 :: tokK 1 :: numsR 16 15 :: (twice tokK 15 2 ++ [tokK 16, tokK 16]))), some 1⟩
def argsD : List AV := [.ptr 1 0, .agg B0]
end Go.Proofs.YthbgjjdbcalhcaaGreatDoor

/- The laws' own check, regions. -/
namespace Go.Proofs.YthbgjjdbcalhcaaGreatDoor
open Go Go.Den
set_option maxRecDepth 100000
theorem regions_F : isLit (kF0 3000 (.fn (.func fn_Pdump_dumper_regions) [] []) argsD (FS.enc S0)) (.tup []) S1 = true := by kernel_rfl
end Go.Proofs.YthbgjjdbcalhcaaGreatDoor
