/- The laws' own check answers true, over its parts (no conditions). -/
import Derived.Test.YthbgjjdbcalhcaaGreatDoorCheckA
import Derived.Test.YthbgjjdbcalhcaaGreatDoorCheckB
import Derived.Test.YthbgjjdbcalhcaaGreatDoorCheckD
import Derived.Test.YthbgjjdbcalhcaaGreatDoorCheckC
import Derived.Test.YthbgjjdbcalhcaaGreatDoorDenC
import Derived.Test.YthbgjjdbcalhcaaGreatDoorDenD
import Derived.Test.YthbgjjdbcalhcaaGreatDoorDiffB
set_option linter.unusedVariables false
set_option linter.unusedSimpArgs false
set_option linter.unusedSectionVars false
set_option linter.deprecated false

/- The law's own check, a state's dump. -/
namespace Go.Proofs.YthbgjjdbcalhcaaGreatDoor
open Go Go.Den
set_option maxRecDepth 100000

theorem regions_D : D X0 (.fn (.func fn_Pdump_dumper_regions) [] []) argsD S0 = some (.ret (.tup []) S1) := by
  obtain ⟨σ, h, e⟩ := isLit_iff regions_F
  have := kF0_D 3000 _ _ _ _ h
  simp only [FCRes.dec, FS.enc_dec, e] at this
  exact this
theorem tokens_D : D X0 (.fn (.func fn_Pdump_dumper_tokens) [] []) argsD S1 = some (.ret (.tup []) S2) := by
  obtain ⟨σ, h, e⟩ := isLit_iff tokens_F
  have := kF0_D 3000 _ _ _ _ h
  simp only [FCRes.dec, FS.enc_dec, e] at this
  exact this

noncomputable def regP := litP argsD S0 (.tup []) S1
noncomputable def tokP := litP argsD S1 (.tup []) S2
noncomputable def X1 : Ctx := { X0 with prim := fun f => if f = fn_Pdump_dumper_regions then some regP else if f = fn_Pdump_dumper_tokens then some tokP else X0.prim f }
noncomputable def PR1 : PrimsF := fun f => if f = fn_Pdump_dumper_regions then some (litF argsD S0 (.tup []) S1) else if f = fn_Pdump_dumper_tokens then some (litF argsD S1 (.tup []) S2) else PR0 f

theorem PR1_ok : PrimsF.ok X1 PR1 := fun f q h => by
  unfold PR1 at h
  split at h
  · rename_i hf; cases h; exact ⟨regP, by simp [X1, hf], litF_ok _ _ _ _⟩
  · rename_i hf1
    split at h
    · rename_i hf; cases h; exact ⟨tokP, by simp only [X1]; rw [if_neg hf1, if_pos hf], litF_ok _ _ _ _⟩
    · rename_i hf2
      obtain ⟨p, hp, hq⟩ := PR0_ok f q h
      exact ⟨p, by simp only [X1]; rw [if_neg hf1, if_neg hf2]; exact hp, hq⟩
theorem PR1_keep : PrimsKeep PR1 := fun f q h => by
  unfold PR1 at h
  split at h
  · cases h; exact litF_keep _ _ _ _
  · split at h
    · cases h; exact litF_keep _ _ _ _
    · exact PR0_keep f q h

noncomputable def kF1 (n : Nat) : CallerF := callF X1 PR1 n
theorem kF1_D (n : Nat) : CSnd (kF1 n) (D X1) := D_callF X1 PR1 PR1_ok PR1_keep

def text3 : List (List AV) := [[.int .u8 110], [.int .u8 101], [.int .u8 120], [.int .u8 116], [.int .u8 32], [.int .u8 116], [.int .u8 97], [.int .u8 98], [.int .u8 108], [.int .u8 101], [.int .u8 32], [.int .u8 49], [.int .u8 44], [.int .u8 50], [.int .u8 44], [.int .u8 51], [.int .u8 44], [.int .u8 52], [.int .u8 44], [.int .u8 53], [.int .u8 44], [.int .u8 54], [.int .u8 44], [.int .u8 55], [.int .u8 44], [.int .u8 56], [.int .u8 44], [.int .u8 57], [.int .u8 44], [.int .u8 49], [.int .u8 48], [.int .u8 44], [.int .u8 49], [.int .u8 49], [.int .u8 44], [.int .u8 49], [.int .u8 50], [.int .u8 44], [.int .u8 49], [.int .u8 51], [.int .u8 44], [.int .u8 49], [.int .u8 52], [.int .u8 44], [.int .u8 49], [.int .u8 53], [.int .u8 44], [.int .u8 49], [.int .u8 54], [.int .u8 44], [.int .u8 49], [.int .u8 55], [.int .u8 44], [.int .u8 49], [.int .u8 56], [.int .u8 44], [.int .u8 49], [.int .u8 57], [.int .u8 44], [.int .u8 50], [.int .u8 48], [.int .u8 44], [.int .u8 50], [.int .u8 49], [.int .u8 44], [.int .u8 50], [.int .u8 50], [.int .u8 44], [.int .u8 50], [.int .u8 51], [.int .u8 44], [.int .u8 50], [.int .u8 52], [.int .u8 44], [.int .u8 50], [.int .u8 53], [.int .u8 44], [.int .u8 50], [.int .u8 54], [.int .u8 44], [.int .u8 50], [.int .u8 55], [.int .u8 44], [.int .u8 50], [.int .u8 56], [.int .u8 44], [.int .u8 50], [.int .u8 57], [.int .u8 44], [.int .u8 51], [.int .u8 48], [.int .u8 44], [.int .u8 51], [.int .u8 49], [.int .u8 44], [.int .u8 51], [.int .u8 50], [.int .u8 10], [.int .u8 110], [.int .u8 101], [.int .u8 120], [.int .u8 116], [.int .u8 32], [.int .u8 116], [.int .u8 111], [.int .u8 107], [.int .u8 101], [.int .u8 110], [.int .u8 115], [.int .u8 32], [.int .u8 49], [.int .u8 44], [.int .u8 50], [.int .u8 44], [.int .u8 51], [.int .u8 44], [.int .u8 52], [.int .u8 44], [.int .u8 53], [.int .u8 44], [.int .u8 54], [.int .u8 44], [.int .u8 55], [.int .u8 44], [.int .u8 56], [.int .u8 44], [.int .u8 57], [.int .u8 44], [.int .u8 49], [.int .u8 48], [.int .u8 44], [.int .u8 49], [.int .u8 49], [.int .u8 44], [.int .u8 49], [.int .u8 50], [.int .u8 44], [.int .u8 49], [.int .u8 51], [.int .u8 44], [.int .u8 49], [.int .u8 52], [.int .u8 44], [.int .u8 49], [.int .u8 53], [.int .u8 44], [.int .u8 49], [.int .u8 54], [.int .u8 10], [.int .u8 108], [.int .u8 105], [.int .u8 102], [.int .u8 101], [.int .u8 32], [.int .u8 48], [.int .u8 32], [.int .u8 97], [.int .u8 108], [.int .u8 105], [.int .u8 118], [.int .u8 101], [.int .u8 32], [.int .u8 121], [.int .u8 101], [.int .u8 115], [.int .u8 32], [.int .u8 98], [.int .u8 111], [.int .u8 114], [.int .u8 110], [.int .u8 32], [.int .u8 121], [.int .u8 101], [.int .u8 115], [.int .u8 10], [.int .u8 108], [.int .u8 105], [.int .u8 102], [.int .u8 101], [.int .u8 32], [.int .u8 49], [.int .u8 32], [.int .u8 97], [.int .u8 108], [.int .u8 105], [.int .u8 118], [.int .u8 101], [.int .u8 32], [.int .u8 110], [.int .u8 111], [.int .u8 32], [.int .u8 98], [.int .u8 111], [.int .u8 114], [.int .u8 110], [.int .u8 32], [.int .u8 110], [.int .u8 111], [.int .u8 10], [.int .u8 108], [.int .u8 105], [.int .u8 102], [.int .u8 101], [.int .u8 32], [.int .u8 50], [.int .u8 32], [.int .u8 97], [.int .u8 108], [.int .u8 105], [.int .u8 118], [.int .u8 101], [.int .u8 32], [.int .u8 110], [.int .u8 111], [.int .u8 32], [.int .u8 98], [.int .u8 111], [.int .u8 114], [.int .u8 110], [.int .u8 32], [.int .u8 110], [.int .u8 111], [.int .u8 10], [.int .u8 108], [.int .u8 105], [.int .u8 102], [.int .u8 101], [.int .u8 32], [.int .u8 51], [.int .u8 32], [.int .u8 97], [.int .u8 108], [.int .u8 105], [.int .u8 118], [.int .u8 101], [.int .u8 32], [.int .u8 110], [.int .u8 111], [.int .u8 32], [.int .u8 98], [.int .u8 111], [.int .u8 114], [.int .u8 110], [.int .u8 32], [.int .u8 110], [.int .u8 111], [.int .u8 10], [.int .u8 108], [.int .u8 105], [.int .u8 102], [.int .u8 101], [.int .u8 32], [.int .u8 52], [.int .u8 32], [.int .u8 97], [.int .u8 108], [.int .u8 105], [.int .u8 118], [.int .u8 101], [.int .u8 32], [.int .u8 110], [.int .u8 111], [.int .u8 32], [.int .u8 98], [.int .u8 111], [.int .u8 114], [.int .u8 110], [.int .u8 32], [.int .u8 110], [.int .u8 111], [.int .u8 10], [.int .u8 108], [.int .u8 105], [.int .u8 102], [.int .u8 101], [.int .u8 32], [.int .u8 53], [.int .u8 32], [.int .u8 97], [.int .u8 108], [.int .u8 105], [.int .u8 118], [.int .u8 101], [.int .u8 32], [.int .u8 110], [.int .u8 111], [.int .u8 32], [.int .u8 98], [.int .u8 111], [.int .u8 114], [.int .u8 110], [.int .u8 32], [.int .u8 110], [.int .u8 111], [.int .u8 10], [.int .u8 108], [.int .u8 105], [.int .u8 102], [.int .u8 101], [.int .u8 32], [.int .u8 54], [.int .u8 32], [.int .u8 97], [.int .u8 108], [.int .u8 105], [.int .u8 118], [.int .u8 101], [.int .u8 32], [.int .u8 110], [.int .u8 111], [.int .u8 32], [.int .u8 98], [.int .u8 111], [.int .u8 114], [.int .u8 110], [.int .u8 32], [.int .u8 110], [.int .u8 111], [.int .u8 10], [.int .u8 108], [.int .u8 105], [.int .u8 102], [.int .u8 101], [.int .u8 32], [.int .u8 55], [.int .u8 32], [.int .u8 97], [.int .u8 108], [.int .u8 105], [.int .u8 118], [.int .u8 101], [.int .u8 32], [.int .u8 110], [.int .u8 111], [.int .u8 32], [.int .u8 98], [.int .u8 111], [.int .u8 114], [.int .u8 110], [.int .u8 32], [.int .u8 110], [.int .u8 111], [.int .u8 10], [.int .u8 98], [.int .u8 111], [.int .u8 120], [.int .u8 32], [.int .u8 48], [.int .u8 32], [.int .u8 99], [.int .u8 108], [.int .u8 111], [.int .u8 115], [.int .u8 101], [.int .u8 100], [.int .u8 32], [.int .u8 110], [.int .u8 111], [.int .u8 10], [.int .u8 98], [.int .u8 111], [.int .u8 120], [.int .u8 32], [.int .u8 49], [.int .u8 32], [.int .u8 99], [.int .u8 108], [.int .u8 111], [.int .u8 115], [.int .u8 101], [.int .u8 100], [.int .u8 32], [.int .u8 110], [.int .u8 111], [.int .u8 10], [.int .u8 98], [.int .u8 111], [.int .u8 120], [.int .u8 32], [.int .u8 50], [.int .u8 32], [.int .u8 99], [.int .u8 108], [.int .u8 111], [.int .u8 115], [.int .u8 101], [.int .u8 100], [.int .u8 32], [.int .u8 110], [.int .u8 111], [.int .u8 10], [.int .u8 98], [.int .u8 111], [.int .u8 120], [.int .u8 32], [.int .u8 51], [.int .u8 32], [.int .u8 99], [.int .u8 108], [.int .u8 111], [.int .u8 115], [.int .u8 101], [.int .u8 100], [.int .u8 32], [.int .u8 110], [.int .u8 111], [.int .u8 10], [.int .u8 98], [.int .u8 111], [.int .u8 120], [.int .u8 32], [.int .u8 52], [.int .u8 32], [.int .u8 99], [.int .u8 108], [.int .u8 111], [.int .u8 115], [.int .u8 101], [.int .u8 100], [.int .u8 32], [.int .u8 110], [.int .u8 111], [.int .u8 10], [.int .u8 98], [.int .u8 111], [.int .u8 120], [.int .u8 32], [.int .u8 53], [.int .u8 32], [.int .u8 99], [.int .u8 108], [.int .u8 111], [.int .u8 115], [.int .u8 101], [.int .u8 100], [.int .u8 32], [.int .u8 110], [.int .u8 111], [.int .u8 10], [.int .u8 98], [.int .u8 111], [.int .u8 120], [.int .u8 32], [.int .u8 54], [.int .u8 32], [.int .u8 99], [.int .u8 108], [.int .u8 111], [.int .u8 115], [.int .u8 101], [.int .u8 100], [.int .u8 32], [.int .u8 110], [.int .u8 111], [.int .u8 10], [.int .u8 98], [.int .u8 111], [.int .u8 120], [.int .u8 32], [.int .u8 55], [.int .u8 32], [.int .u8 99], [.int .u8 108], [.int .u8 111], [.int .u8 115], [.int .u8 101], [.int .u8 100], [.int .u8 32], [.int .u8 110], [.int .u8 111], [.int .u8 10]]
def S3 : AS := ⟨.box B0 none :: dmp 171 471 :: (mid1 ++ (.row 171 1 ty_uint8 text3 :: .box B0 none :: .map [] :: tokK 1 :: tokK 1 :: numsR 16 15 :: (twice tokK 15 2 ++ [tokK 16, tokK 16]))), some 1⟩
def Sa : AS := ⟨[.box B0 none, .box [.nilp, .nils] (some ty_dump_dumper)], none⟩
theorem state_F : isLit (kF1 3000 (.fn (.func fn_Pdump_dumper_state) [] []) argsD (FS.enc Sa)) (.tup []) S3 = true := by kernel_rfl
end Go.Proofs.YthbgjjdbcalhcaaGreatDoor

/- The laws' own check, the second dump. -/
namespace Go.Proofs.YthbgjjdbcalhcaaGreatDoor
open Go Go.Den
set_option maxRecDepth 100000

theorem regionsL_D : D X0 (.fn (.func fn_Pdump_dumper_regions) [] []) argsL T0 = some (.ret (.tup []) T1) := by
  obtain ⟨σ, h, e⟩ := isLit_iff regionsL_F
  have := kF0_D 3000 _ _ _ _ h
  simp only [FCRes.dec, FS.enc_dec, e] at this
  exact this
theorem tokensL_D : D X0 (.fn (.func fn_Pdump_dumper_tokens) [] []) argsL T1 = some (.ret (.tup []) T2) := by
  obtain ⟨σ, h, e⟩ := isLit_iff tokensL_F
  have := kF0_D 3000 _ _ _ _ h
  simp only [FCRes.dec, FS.enc_dec, e] at this
  exact this

noncomputable def regLP := litP argsL T0 (.tup []) T1
noncomputable def tokLP := litP argsL T1 (.tup []) T2
noncomputable def X1L : Ctx := { X0 with prim := fun f => if f = fn_Pdump_dumper_regions then some regLP else if f = fn_Pdump_dumper_tokens then some tokLP else X0.prim f }
noncomputable def PR1L : PrimsF := fun f => if f = fn_Pdump_dumper_regions then some (litF argsL T0 (.tup []) T1) else if f = fn_Pdump_dumper_tokens then some (litF argsL T1 (.tup []) T2) else PR0 f

theorem PR1L_ok : PrimsF.ok X1L PR1L := fun f q h => by
  unfold PR1L at h
  split at h
  · rename_i hf; cases h; exact ⟨regLP, by simp [X1L, hf], litF_ok _ _ _ _⟩
  · rename_i hf1
    split at h
    · rename_i hf; cases h; exact ⟨tokLP, by simp only [X1L]; rw [if_neg hf1, if_pos hf], litF_ok _ _ _ _⟩
    · rename_i hf2
      obtain ⟨p, hp, hq⟩ := PR0_ok f q h
      exact ⟨p, by simp only [X1L]; rw [if_neg hf1, if_neg hf2]; exact hp, hq⟩
theorem PR1L_keep : PrimsKeep PR1L := fun f q h => by
  unfold PR1L at h
  split at h
  · cases h; exact litF_keep _ _ _ _
  · split at h
    · cases h; exact litF_keep _ _ _ _
    · exact PR0_keep f q h

noncomputable def kF1L (n : Nat) : CallerF := callF X1L PR1L n
theorem kF1L_D (n : Nat) : CSnd (kF1L n) (D X1L) := D_callF X1L PR1L PR1L_ok PR1L_keep


theorem stateL_F : isLit (kF1L 3000 (.fn (.func fn_Pdump_dumper_state) [] []) argsL (FS.enc Ta)) (.tup []) T3 = true := by kernel_rfl
end Go.Proofs.YthbgjjdbcalhcaaGreatDoor

/- The laws' own check: the dumps of both states. -/
namespace Go.Proofs.YthbgjjdbcalhcaaGreatDoor
open Go Go.Den
set_option maxRecDepth 100000

theorem state_D : D X1 (.fn (.func fn_Pdump_dumper_state) [] []) argsD Sa = some (.ret (.tup []) S3) := by
  obtain ⟨σ, h, e⟩ := isLit_iff state_F
  have := kF1_D 3000 _ _ _ _ h
  simp only [FCRes.dec, FS.enc_dec, e] at this
  exact this
theorem stateL_D : D X1L (.fn (.func fn_Pdump_dumper_state) [] []) argsL Ta = some (.ret (.tup []) T3) := by
  obtain ⟨σ, h, e⟩ := isLit_iff stateL_F
  have := kF1L_D 3000 _ _ _ _ h
  simp only [FCRes.dec, FS.enc_dec, e] at this
  exact this
noncomputable def staP := litP argsD Sa (.tup []) S3
noncomputable def staLP := litP argsL Ta (.tup []) T3
noncomputable def X2 : Ctx := { X0 with prim := fun f => if f = fn_Pdump_dumper_state then some staP else X0.prim f }
noncomputable def X2L : Ctx := { X0 with prim := fun f => if f = fn_Pdump_dumper_state then some staLP else X0.prim f }
noncomputable def PR2 : PrimsF := fun f => if f = fn_Pdump_dumper_state then some (litF argsD Sa (.tup []) S3) else PR0 f
noncomputable def PR2L : PrimsF := fun f => if f = fn_Pdump_dumper_state then some (litF argsL Ta (.tup []) T3) else PR0 f
theorem PR2_ok : PrimsF.ok X2 PR2 := fun f q h => by
  unfold PR2 at h
  split at h
  · rename_i hf; cases h; exact ⟨staP, by simp [X2, hf], litF_ok _ _ _ _⟩
  · rename_i hf1
    obtain ⟨p, hp, hq⟩ := PR0_ok f q h
    exact ⟨p, by simp only [X2]; rw [if_neg hf1]; exact hp, hq⟩
theorem PR2L_ok : PrimsF.ok X2L PR2L := fun f q h => by
  unfold PR2L at h
  split at h
  · rename_i hf; cases h; exact ⟨staLP, by simp [X2L, hf], litF_ok _ _ _ _⟩
  · rename_i hf1
    obtain ⟨p, hp, hq⟩ := PR0_ok f q h
    exact ⟨p, by simp only [X2L]; rw [if_neg hf1]; exact hp, hq⟩
theorem PR2_keep : PrimsKeep PR2 := fun f q h => by
  unfold PR2 at h
  split at h
  · cases h; exact litF_keep _ _ _ _
  · exact PR0_keep f q h
theorem PR2L_keep : PrimsKeep PR2L := fun f q h => by
  unfold PR2L at h
  split at h
  · cases h; exact litF_keep _ _ _ _
  · exact PR0_keep f q h
noncomputable def kF2 (n : Nat) : CallerF := callF X2 PR2 n
theorem kF2_D (n : Nat) : CSnd (kF2 n) (D X2) := D_callF X2 PR2 PR2_ok PR2_keep
noncomputable def kF2L (n : Nat) : CallerF := callF X2L PR2L n
theorem kF2L_D (n : Nat) : CSnd (kF2L n) (D X2L) := D_callF X2L PR2L PR2L_ok PR2L_keep

def bytes3 : List UInt8 := [110, 101, 120, 116, 32, 116, 97, 98, 108, 101, 32, 49, 44, 50, 44, 51, 44, 52, 44, 53, 44, 54, 44, 55, 44, 56, 44, 57, 44, 49, 48, 44, 49, 49, 44, 49, 50, 44, 49, 51, 44, 49, 52, 44, 49, 53, 44, 49, 54, 44, 49, 55, 44, 49, 56, 44, 49, 57, 44, 50, 48, 44, 50, 49, 44, 50, 50, 44, 50, 51, 44, 50, 52, 44, 50, 53, 44, 50, 54, 44, 50, 55, 44, 50, 56, 44, 50, 57, 44, 51, 48, 44, 51, 49, 44, 51, 50, 10, 110, 101, 120, 116, 32, 116, 111, 107, 101, 110, 115, 32, 49, 44, 50, 44, 51, 44, 52, 44, 53, 44, 54, 44, 55, 44, 56, 44, 57, 44, 49, 48, 44, 49, 49, 44, 49, 50, 44, 49, 51, 44, 49, 52, 44, 49, 53, 44, 49, 54, 10, 108, 105, 102, 101, 32, 48, 32, 97, 108, 105, 118, 101, 32, 121, 101, 115, 32, 98, 111, 114, 110, 32, 121, 101, 115, 10, 108, 105, 102, 101, 32, 49, 32, 97, 108, 105, 118, 101, 32, 110, 111, 32, 98, 111, 114, 110, 32, 110, 111, 10, 108, 105, 102, 101, 32, 50, 32, 97, 108, 105, 118, 101, 32, 110, 111, 32, 98, 111, 114, 110, 32, 110, 111, 10, 108, 105, 102, 101, 32, 51, 32, 97, 108, 105, 118, 101, 32, 110, 111, 32, 98, 111, 114, 110, 32, 110, 111, 10, 108, 105, 102, 101, 32, 52, 32, 97, 108, 105, 118, 101, 32, 110, 111, 32, 98, 111, 114, 110, 32, 110, 111, 10, 108, 105, 102, 101, 32, 53, 32, 97, 108, 105, 118, 101, 32, 110, 111, 32, 98, 111, 114, 110, 32, 110, 111, 10, 108, 105, 102, 101, 32, 54, 32, 97, 108, 105, 118, 101, 32, 110, 111, 32, 98, 111, 114, 110, 32, 110, 111, 10, 108, 105, 102, 101, 32, 55, 32, 97, 108, 105, 118, 101, 32, 110, 111, 32, 98, 111, 114, 110, 32, 110, 111, 10, 98, 111, 120, 32, 48, 32, 99, 108, 111, 115, 101, 100, 32, 110, 111, 10, 98, 111, 120, 32, 49, 32, 99, 108, 111, 115, 101, 100, 32, 110, 111, 10, 98, 111, 120, 32, 50, 32, 99, 108, 111, 115, 101, 100, 32, 110, 111, 10, 98, 111, 120, 32, 51, 32, 99, 108, 111, 115, 101, 100, 32, 110, 111, 10, 98, 111, 120, 32, 52, 32, 99, 108, 111, 115, 101, 100, 32, 110, 111, 10, 98, 111, 120, 32, 53, 32, 99, 108, 111, 115, 101, 100, 32, 110, 111, 10, 98, 111, 120, 32, 54, 32, 99, 108, 111, 115, 101, 100, 32, 110, 111, 10, 98, 111, 120, 32, 55, 32, 99, 108, 111, 115, 101, 100, 32, 110, 111, 10]
theorem State_F : isLit (kF2 3000 (.fn (.func fn_dump_State) [] []) [.agg B0] σF) (S bytes3) ⟨[], none⟩ = true := by kernel_rfl
theorem StateL_F : isLit (kF2L 3000 (.fn (.func fn_dump_State) [] []) [.agg B1] σF) (S bytes4) ⟨[], none⟩ = true := by kernel_rfl
theorem State_D : D X2 (.fn (.func fn_dump_State) [] []) [.agg B0] ⟨[], none⟩ = some (.ret (S bytes3) ⟨[], none⟩) := by
  obtain ⟨σ, h, e⟩ := isLit_iff State_F
  have := kF2_D 3000 _ _ _ _ h
  simp only [FCRes.dec, e] at this
  exact this
theorem StateL_D : D X2L (.fn (.func fn_dump_State) [] []) [.agg B1] ⟨[], none⟩ = some (.ret (S bytes4) ⟨[], none⟩) := by
  obtain ⟨σ, h, e⟩ := isLit_iff StateL_F
  have := kF2L_D 3000 _ _ _ _ h
  simp only [FCRes.dec, e] at this
  exact this
end Go.Proofs.YthbgjjdbcalhcaaGreatDoor

/- The laws' own check: the event, done. -/
namespace Go.Proofs.YthbgjjdbcalhcaaGreatDoor
open Go Go.Den
set_option maxRecDepth 100000
def tab_g_model_does : List (Nat × List UInt8 × Nat) := [(1, [40, 42, 98, 97, 105, 108, 105, 119, 105, 99, 107, 47, 109, 111, 100, 101, 108, 46, 99, 97, 108, 108, 101, 114, 41, 46, 110, 101, 119], 142), (2, [40, 42, 98, 97, 105, 108, 105, 119, 105, 99, 107, 47, 109, 111, 100, 101, 108, 46, 99, 97, 108, 108, 101, 114, 41, 46, 97, 108, 108, 111, 99], 143), (3, [40, 42, 98, 97, 105, 108, 105, 119, 105, 99, 107, 47, 109, 111, 100, 101, 108, 46, 99, 97, 108, 108, 101, 114, 41, 46, 108, 111, 97, 100], 144), (4, [40, 42, 98, 97, 105, 108, 105, 119, 105, 99, 107, 47, 109, 111, 100, 101, 108, 46, 99, 97, 108, 108, 101, 114, 41, 46, 115, 116, 111, 114, 101], 145), (5, [40, 42, 98, 97, 105, 108, 105, 119, 105, 99, 107, 47, 109, 111, 100, 101, 108, 46, 99, 97, 108, 108, 101, 114, 41, 46, 114, 101, 115, 101, 116], 146), (6, [40, 42, 98, 97, 105, 108, 105, 119, 105, 99, 107, 47, 109, 111, 100, 101, 108, 46, 99, 97, 108, 108, 101, 114, 41, 46, 100, 101, 108, 101, 116, 101], 147), (7, [40, 42, 98, 97, 105, 108, 105, 119, 105, 99, 107, 47, 109, 111, 100, 101, 108, 46, 99, 97, 108, 108, 101, 114, 41, 46, 99, 117, 116], 148), (8, [40, 42, 98, 97, 105, 108, 105, 119, 105, 99, 107, 47, 109, 111, 100, 101, 108, 46, 99, 97, 108, 108, 101, 114, 41, 46, 103, 114, 97, 102, 116], 149), (9, [40, 42, 98, 97, 105, 108, 105, 119, 105, 99, 107, 47, 109, 111, 100, 101, 108, 46, 99, 97, 108, 108, 101, 114, 41, 46, 102, 114, 101, 101, 122, 101], 150), (10, [40, 42, 98, 97, 105, 108, 105, 119, 105, 99, 107, 47, 109, 111, 100, 101, 108, 46, 99, 97, 108, 108, 101, 114, 41, 46, 115, 104, 97, 114, 101], 151), (11, [40, 42, 98, 97, 105, 108, 105, 119, 105, 99, 107, 47, 109, 111, 100, 101, 108, 46, 99, 97, 108, 108, 101, 114, 41, 46, 100, 114, 111, 112], 152), (12, [40, 42, 98, 97, 105, 108, 105, 119, 105, 99, 107, 47, 109, 111, 100, 101, 108, 46, 99, 97, 108, 108, 101, 114, 41, 46, 108, 101, 110, 100], 153), (13, [40, 42, 98, 97, 105, 108, 105, 119, 105, 99, 107, 47, 109, 111, 100, 101, 108, 46, 99, 97, 108, 108, 101, 114, 41, 46, 103, 105, 118, 101, 66, 97, 99, 107], 154), (14, [40, 42, 98, 97, 105, 108, 105, 119, 105, 99, 107, 47, 109, 111, 100, 101, 108, 46, 99, 97, 108, 108, 101, 114, 41, 46, 115, 101, 110, 100], 155), (15, [40, 42, 98, 97, 105, 108, 105, 119, 105, 99, 107, 47, 109, 111, 100, 101, 108, 46, 99, 97, 108, 108, 101, 114, 41, 46, 114, 101, 99, 118], 156), (16, [40, 42, 98, 97, 105, 108, 105, 119, 105, 99, 107, 47, 109, 111, 100, 101, 108, 46, 99, 97, 108, 108, 101, 114, 41, 46, 114, 101, 99, 118], 156), (17, [40, 42, 98, 97, 105, 108, 105, 119, 105, 99, 107, 47, 109, 111, 100, 101, 108, 46, 99, 97, 108, 108, 101, 114, 41, 46, 99, 108, 111, 115, 101], 157), (18, [40, 42, 98, 97, 105, 108, 105, 119, 105, 99, 107, 47, 109, 111, 100, 101, 108, 46, 99, 97, 108, 108, 101, 114, 41, 46, 114, 101, 102], 158), (19, [40, 42, 98, 97, 105, 108, 105, 119, 105, 99, 107, 47, 109, 111, 100, 101, 108, 46, 99, 97, 108, 108, 101, 114, 41, 46, 100, 101, 114, 101, 102], 159), (20, [40, 42, 98, 97, 105, 108, 105, 119, 105, 99, 107, 47, 109, 111, 100, 101, 108, 46, 99, 97, 108, 108, 101, 114, 41, 46, 101, 120, 105, 116], 160), (21, [40, 42, 98, 97, 105, 108, 105, 119, 105, 99, 107, 47, 109, 111, 100, 101, 108, 46, 99, 97, 108, 108, 101, 114, 41, 46, 107, 105, 108, 108], 161), (22, [40, 42, 98, 97, 105, 108, 105, 119, 105, 99, 107, 47, 109, 111, 100, 101, 108, 46, 99, 97, 108, 108, 101, 114, 41, 46, 115, 112, 97, 119, 110], 162)]

noncomputable def Y0 : Ctx := { glob := fun g => if g = g_model_does then some [.mglob g_model_does] else none, code := fun f => codeT.lookup f, prim := fun _ => none, gmap := fun g => if g = g_model_does then some (funcsM tab_g_model_does) else none }
def recs : Recs := fun f => recT.lookup f
noncomputable def pCalls : List AV → AS → Option CRes := primD Y0 (D Y0) Lw recs fn_Pmodel_caller_calls pd_Pmodel_caller_calls
noncomputable def Y1 : Ctx := { Y0 with prim := fun f => if f = fn_Pmodel_caller_calls then some pCalls else none }
noncomputable def noPR : PrimsF := fun _ => none
noncomputable def kG0 (n : Nat) : CallerF := callF Y0 noPR n
noncomputable def qCalls (n : Nat) : List AV → FS → Option FCRes := primDF Y0 (kG0 n) (iterF n) recs fn_Pmodel_caller_calls pd_Pmodel_caller_calls
noncomputable def QR1 (n : Nat) : PrimsF := fun f => if f = fn_Pmodel_caller_calls then some (qCalls n) else none
noncomputable def kG1 (n : Nat) : CallerF := callF Y1 (QR1 n) n
theorem noPR_ok : PrimsF.ok Y0 noPR := fun f q h => by cases h
theorem noPR_keep : PrimsKeep noPR := fun f q h => by cases h
theorem qCalls_ok (n : Nat) (args : List AV) (σ : FS) (r : FCRes) (hr : qCalls n args σ = some r) : pCalls args σ.dec = some r.dec :=
  primDF_sound Y0 (D_callF Y0 noPR noPR_ok noPR_keep) (callF_keep Y0 noPR noPR_keep n) (iterF_Lw n) hr
theorem qCalls_keep (n : Nat) (args : List AV) (σ : FS) (r : FCRes) (hr : qCalls n args σ = some r) : Keep σ r.st :=
  primDF_keep Y0 (callF_keep Y0 noPR noPR_keep n) (iterF_keep n) hr
theorem QR1_ok (n : Nat) : PrimsF.ok Y1 (QR1 n) := fun f q h => by
  unfold QR1 at h
  split at h
  · rename_i hf
    cases h
    exact ⟨pCalls, by simp [Y1, hf], qCalls_ok n⟩
  · cases h
theorem QR1_keep (n : Nat) : PrimsKeep (QR1 n) := fun f q h args σ r hr => by
  unfold QR1 at h
  split at h
  · cases h; exact qCalls_keep n args σ r hr
  · cases h
theorem kG1_D (n : Nat) : CSnd (kG1 n) (D Y1) := D_callF Y1 (QR1 n) (QR1_ok n) (QR1_keep n)

def argsN : List AV := [.agg B0, .int .i64 0, .agg [.int .u8 1, .int .u32 0, .int .u32 0, .int .u32 2, .int .u32 0, .int .u64 0]]
def argsDo : List AV := argsN ++ [.agg [.int .i64 0, .int .i64 0]]
def retDo : AV := .tup [.agg B1, .agg [.int .i64 0, .int .u64 0, .int .u32 1], .nils]
theorem Needs_F : isLit (kG1 3000 (.fn (.func fn_model_State_Needs) [] []) argsN σF) (.int .i64 0) ⟨[], none⟩ = true := by kernel_rfl
theorem Do_F : isVal (kG1 3000 (.fn (.func fn_model_State_Do) [] []) argsDo σF) retDo = true := by kernel_rfl
theorem Needs_D : D Y1 (.fn (.func fn_model_State_Needs) [] []) argsN ⟨[], none⟩ = some (.ret (.int .i64 0) ⟨[], none⟩) := by
  obtain ⟨σ, h, e⟩ := isLit_iff Needs_F
  have := kG1_D 3000 _ _ _ _ h
  simp only [FCRes.dec, e] at this
  exact this
theorem Do_D : ∃ σ, D Y1 (.fn (.func fn_model_State_Do) [] []) argsDo ⟨[], none⟩ = some (.ret retDo σ) := by
  obtain ⟨σ, h⟩ := isVal_iff Do_F
  exact ⟨_, kG1_D 3000 _ _ _ _ h⟩
end Go.Proofs.YthbgjjdbcalhcaaGreatDoor

/- The laws' own check, over its parts. -/
namespace Go.Proofs.YthbgjjdbcalhcaaGreatDoor
open Go Go.Den
open Go.Proofs.DfDev
set_option maxRecDepth 100000

theorem B_ne : ([.agg B1] : List AV) ≠ [.agg B0] := fun h => by
  have h2 : (B1[1]? : Option AV) = B0[1]? := congrArg (fun l : List AV => match l with | [.agg b] => b[1]? | _ => none) h
  have e1 : B1[1]? = some (.bool true) := by kernel_rfl
  have e0 : B0[1]? = some (.bool false) := by kernel_rfl
  rw [e1, e0] at h2
  cases h2
noncomputable def stP : List AV → AS → Option CRes := twoP [.agg B0] (S bytes3) [.agg B1] (S bytes4)
noncomputable def stF : List AV → FS → Option FCRes := twoF [.agg B0] (S bytes3) [.agg B1] (S bytes4)
theorem stF_ok (args : List AV) (σ : FS) (r : FCRes) (h : stF args σ = some r) : stP args σ.dec = some r.dec := twoF_ok B_ne args σ r h
theorem stF_keep (args : List AV) (σ : FS) (r : FCRes) (h : stF args σ = some r) : Keep σ r.st := twoF_keep args σ r h

def tx1 : List UInt8 := [97, 32, 49, 32, 120, 10, 98, 32, 49, 32, 121, 10, 99, 32, 49, 10]
def tx2 : List UInt8 := [100, 32, 49, 10, 98, 32, 49, 32, 122, 10, 97, 32, 49, 32, 120, 10]
def dif1 : List Ch := [([98, 32, 49], [98, 32, 49, 32, 121], [98, 32, 49, 32, 122]), ([99, 32, 49], [99, 32, 49], []), ([100, 32, 49], [], [100, 32, 49])]
def nextT : List UInt8 := [110, 101, 120, 116, 32, 116, 97, 98, 108, 101]
def regi1 : List UInt8 := [114, 101, 103, 105, 111, 110, 32, 49]
def dif2 : List Ch := [(nextT, bytes3.take 97, (bytes4.drop 68).take 95), (regi1, [], bytes4.take 67)]
theorem dif1_is : dif tx1 tx2 = dif1 := by kernel_rfl
theorem dif2_is : dif bytes3 bytes4 = dif2 := by kernel_rfl
noncomputable def vd1 : AV := .sl (dif1.map ch3) false
noncomputable def vd2 : AV := .sl (dif2.map ch3) false
theorem T_ne : ([S bytes3, S bytes4] : List AV) ≠ [S tx1, S tx2] := fun h => by
  have h2 : (match ([S bytes3, S bytes4] : List AV) with | .str s :: _ => s.size | _ => 0) = (match ([S tx1, S tx2] : List AV) with | .str s :: _ => s.size | _ => 0) := congrArg (fun l : List AV => match l with | .str s :: _ => s.size | _ => 0) h
  have e1 : (match ([S bytes3, S bytes4] : List AV) with | .str s :: _ => s.size | _ => 0) = 471 := by kernel_rfl
  have e0 : (match ([S tx1, S tx2] : List AV) with | .str s :: _ => s.size | _ => 0) = 16 := by kernel_rfl
  rw [e1, e0] at h2
  cases h2
noncomputable def diP : List AV → AS → Option CRes := twoP [S tx1, S tx2] vd1 [S bytes3, S bytes4] vd2
noncomputable def diF : List AV → FS → Option FCRes := twoF [S tx1, S tx2] vd1 [S bytes3, S bytes4] vd2

noncomputable def Xw : Ctx := { Y0 with glob := fun g => if g = g_istrconv_uint64pow10 then X0.glob g else Y0.glob g, prim := fun f => if f = fn_dump_State then some stP else if f = fn_model_State_Do then some (valP argsDo retDo) else if f = fn_model_State_Needs then some (valP argsN (.int .i64 0)) else if f = fn_diff_Diff then some diP else X0.prim f }
noncomputable def PRw : PrimsF := fun f => if f = fn_dump_State then some stF else if f = fn_model_State_Do then some (valF argsDo retDo) else if f = fn_model_State_Needs then some (valF argsN (.int .i64 0)) else if f = fn_diff_Diff then some diF else PR0 f
theorem PRw_ok : PrimsF.ok Xw PRw := fun f q h => by
  unfold PRw at h
  split at h
  · rename_i hf; cases h; exact ⟨stP, by simp [Xw, hf], stF_ok⟩
  · rename_i hf1
    split at h
    · rename_i hf; cases h; exact ⟨valP argsDo retDo, by simp only [Xw]; rw [if_neg hf1, if_pos hf], valF_ok _ _⟩
    · rename_i hf2
      split at h
      · rename_i hf; cases h; exact ⟨valP argsN (.int .i64 0), by simp only [Xw]; rw [if_neg hf1, if_neg hf2, if_pos hf], valF_ok _ _⟩
      · rename_i hf3
        split at h
        · rename_i hf; cases h; exact ⟨diP, by simp only [Xw]; rw [if_neg hf1, if_neg hf2, if_neg hf3, if_pos hf], twoF_ok T_ne⟩
        · rename_i hf4
          obtain ⟨p, hp, hq⟩ := PR0_ok f q h
          exact ⟨p, by simp only [Xw]; rw [if_neg hf1, if_neg hf2, if_neg hf3, if_neg hf4]; exact hp, hq⟩
theorem PRw_keep : PrimsKeep PRw := fun f q h => by
  unfold PRw at h
  split at h
  · cases h; exact stF_keep
  · split at h
    · cases h; exact valF_keep _ _
    · split at h
      · cases h; exact valF_keep _ _
      · split at h
        · cases h; exact twoF_keep
        · exact PR0_keep f q h
noncomputable def kFw (n : Nat) : CallerF := callF Xw PRw n
theorem kFw_D (n : Nat) : CSnd (kFw n) (D Xw) := D_callF Xw PRw PRw_ok PRw_keep

theorem wakes_F : isT (kFw 3000 (.fn (.func fn_law31_wakes) [] []) [] σF) = true := by kernel_rfl
theorem wakes_D : ∃ σ, D Xw (.fn (.func fn_law31_wakes) [] []) [] ⟨[], none⟩ = some (.ret (.bool true) σ) := by
  obtain ⟨σ, hσ⟩ := isT_ret wakes_F
  exact ⟨σ.dec, kFw_D 3000 _ _ _ _ hσ⟩
end Go.Proofs.YthbgjjdbcalhcaaGreatDoor
