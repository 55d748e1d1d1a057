/- The third part of the law's own check (no conditions). -/
import Derived.Test.YtnnadieejpaknaaGreatDoorDumpB
set_option linter.unusedVariables false
set_option linter.unusedSimpArgs false
set_option linter.unusedSectionVars false
set_option linter.deprecated false

/- The law's own check, a state's dump. -/
namespace Go.Proofs.YtnnadieejpaknaaGreatDoor
open Go Go.Den
set_option maxRecDepth 100000

theorem regions_D : D X0 (.fn (.func fn_Pdump_dumper_regions) [] []) argsD S0 = some (.ret (.tup []) S1) := by
  obtain ⟨σ, h, e⟩ := isLit_iff regions_F
  have := kF0_D 3000 _ _ _ _ h
  simp only [FCRes.dec, FS.enc_dec, e] at this
  exact this
theorem tokens_D : D X0 (.fn (.func fn_Pdump_dumper_tokens) [] []) argsD S1 = some (.ret (.tup []) S2) := by
  obtain ⟨σ, h, e⟩ := isLit_iff tokens_F
  have := kF0_D 3000 _ _ _ _ h
  simp only [FCRes.dec, FS.enc_dec, e] at this
  exact this

noncomputable def regP := litP argsD S0 (.tup []) S1
noncomputable def tokP := litP argsD S1 (.tup []) S2
noncomputable def X1 : Ctx := { X0 with prim := fun f => if f = fn_Pdump_dumper_regions then some regP else if f = fn_Pdump_dumper_tokens then some tokP else X0.prim f }
noncomputable def PR1 : PrimsF := fun f => if f = fn_Pdump_dumper_regions then some (litF argsD S0 (.tup []) S1) else if f = fn_Pdump_dumper_tokens then some (litF argsD S1 (.tup []) S2) else PR0 f

theorem PR1_ok : PrimsF.ok X1 PR1 := fun f q h => by
  unfold PR1 at h
  split at h
  · rename_i hf; cases h; exact ⟨regP, by simp [X1, hf], litF_ok _ _ _ _⟩
  · rename_i hf1
    split at h
    · rename_i hf; cases h; exact ⟨tokP, by simp only [X1]; rw [if_neg hf1, if_pos hf], litF_ok _ _ _ _⟩
    · rename_i hf2
      obtain ⟨p, hp, hq⟩ := PR0_ok f q h
      exact ⟨p, by simp only [X1]; rw [if_neg hf1, if_neg hf2]; exact hp, hq⟩
theorem PR1_keep : PrimsKeep PR1 := fun f q h => by
  unfold PR1 at h
  split at h
  · cases h; exact litF_keep _ _ _ _
  · split at h
    · cases h; exact litF_keep _ _ _ _
    · exact PR0_keep f q h

noncomputable def kF1 (n : Nat) : CallerF := callF X1 PR1 n
theorem kF1_D (n : Nat) : CSnd (kF1 n) (D X1) := D_callF X1 PR1 PR1_ok PR1_keep

def text3 : List (List AV) := [[.int .u8 110], [.int .u8 101], [.int .u8 120], [.int .u8 116], [.int .u8 32], [.int .u8 116], [.int .u8 97], [.int .u8 98], [.int .u8 108], [.int .u8 101], [.int .u8 32], [.int .u8 49], [.int .u8 44], [.int .u8 50], [.int .u8 44], [.int .u8 51], [.int .u8 44], [.int .u8 52], [.int .u8 44], [.int .u8 53], [.int .u8 44], [.int .u8 54], [.int .u8 44], [.int .u8 55], [.int .u8 44], [.int .u8 56], [.int .u8 44], [.int .u8 57], [.int .u8 44], [.int .u8 49], [.int .u8 48], [.int .u8 44], [.int .u8 49], [.int .u8 49], [.int .u8 44], [.int .u8 49], [.int .u8 50], [.int .u8 44], [.int .u8 49], [.int .u8 51], [.int .u8 44], [.int .u8 49], [.int .u8 52], [.int .u8 44], [.int .u8 49], [.int .u8 53], [.int .u8 44], [.int .u8 49], [.int .u8 54], [.int .u8 44], [.int .u8 49], [.int .u8 55], [.int .u8 44], [.int .u8 49], [.int .u8 56], [.int .u8 44], [.int .u8 49], [.int .u8 57], [.int .u8 44], [.int .u8 50], [.int .u8 48], [.int .u8 44], [.int .u8 50], [.int .u8 49], [.int .u8 44], [.int .u8 50], [.int .u8 50], [.int .u8 44], [.int .u8 50], [.int .u8 51], [.int .u8 44], [.int .u8 50], [.int .u8 52], [.int .u8 44], [.int .u8 50], [.int .u8 53], [.int .u8 44], [.int .u8 50], [.int .u8 54], [.int .u8 44], [.int .u8 50], [.int .u8 55], [.int .u8 44], [.int .u8 50], [.int .u8 56], [.int .u8 44], [.int .u8 50], [.int .u8 57], [.int .u8 44], [.int .u8 51], [.int .u8 48], [.int .u8 44], [.int .u8 51], [.int .u8 49], [.int .u8 44], [.int .u8 51], [.int .u8 50], [.int .u8 10], [.int .u8 110], [.int .u8 101], [.int .u8 120], [.int .u8 116], [.int .u8 32], [.int .u8 116], [.int .u8 111], [.int .u8 107], [.int .u8 101], [.int .u8 110], [.int .u8 115], [.int .u8 32], [.int .u8 49], [.int .u8 44], [.int .u8 50], [.int .u8 44], [.int .u8 51], [.int .u8 44], [.int .u8 52], [.int .u8 44], [.int .u8 53], [.int .u8 44], [.int .u8 54], [.int .u8 44], [.int .u8 55], [.int .u8 44], [.int .u8 56], [.int .u8 44], [.int .u8 57], [.int .u8 44], [.int .u8 49], [.int .u8 48], [.int .u8 44], [.int .u8 49], [.int .u8 49], [.int .u8 44], [.int .u8 49], [.int .u8 50], [.int .u8 44], [.int .u8 49], [.int .u8 51], [.int .u8 44], [.int .u8 49], [.int .u8 52], [.int .u8 44], [.int .u8 49], [.int .u8 53], [.int .u8 44], [.int .u8 49], [.int .u8 54], [.int .u8 10], [.int .u8 108], [.int .u8 105], [.int .u8 102], [.int .u8 101], [.int .u8 32], [.int .u8 48], [.int .u8 32], [.int .u8 97], [.int .u8 108], [.int .u8 105], [.int .u8 118], [.int .u8 101], [.int .u8 32], [.int .u8 121], [.int .u8 101], [.int .u8 115], [.int .u8 32], [.int .u8 98], [.int .u8 111], [.int .u8 114], [.int .u8 110], [.int .u8 32], [.int .u8 121], [.int .u8 101], [.int .u8 115], [.int .u8 10], [.int .u8 108], [.int .u8 105], [.int .u8 102], [.int .u8 101], [.int .u8 32], [.int .u8 49], [.int .u8 32], [.int .u8 97], [.int .u8 108], [.int .u8 105], [.int .u8 118], [.int .u8 101], [.int .u8 32], [.int .u8 110], [.int .u8 111], [.int .u8 32], [.int .u8 98], [.int .u8 111], [.int .u8 114], [.int .u8 110], [.int .u8 32], [.int .u8 110], [.int .u8 111], [.int .u8 10], [.int .u8 108], [.int .u8 105], [.int .u8 102], [.int .u8 101], [.int .u8 32], [.int .u8 50], [.int .u8 32], [.int .u8 97], [.int .u8 108], [.int .u8 105], [.int .u8 118], [.int .u8 101], [.int .u8 32], [.int .u8 110], [.int .u8 111], [.int .u8 32], [.int .u8 98], [.int .u8 111], [.int .u8 114], [.int .u8 110], [.int .u8 32], [.int .u8 110], [.int .u8 111], [.int .u8 10], [.int .u8 108], [.int .u8 105], [.int .u8 102], [.int .u8 101], [.int .u8 32], [.int .u8 51], [.int .u8 32], [.int .u8 97], [.int .u8 108], [.int .u8 105], [.int .u8 118], [.int .u8 101], [.int .u8 32], [.int .u8 110], [.int .u8 111], [.int .u8 32], [.int .u8 98], [.int .u8 111], [.int .u8 114], [.int .u8 110], [.int .u8 32], [.int .u8 110], [.int .u8 111], [.int .u8 10], [.int .u8 108], [.int .u8 105], [.int .u8 102], [.int .u8 101], [.int .u8 32], [.int .u8 52], [.int .u8 32], [.int .u8 97], [.int .u8 108], [.int .u8 105], [.int .u8 118], [.int .u8 101], [.int .u8 32], [.int .u8 110], [.int .u8 111], [.int .u8 32], [.int .u8 98], [.int .u8 111], [.int .u8 114], [.int .u8 110], [.int .u8 32], [.int .u8 110], [.int .u8 111], [.int .u8 10], [.int .u8 108], [.int .u8 105], [.int .u8 102], [.int .u8 101], [.int .u8 32], [.int .u8 53], [.int .u8 32], [.int .u8 97], [.int .u8 108], [.int .u8 105], [.int .u8 118], [.int .u8 101], [.int .u8 32], [.int .u8 110], [.int .u8 111], [.int .u8 32], [.int .u8 98], [.int .u8 111], [.int .u8 114], [.int .u8 110], [.int .u8 32], [.int .u8 110], [.int .u8 111], [.int .u8 10], [.int .u8 108], [.int .u8 105], [.int .u8 102], [.int .u8 101], [.int .u8 32], [.int .u8 54], [.int .u8 32], [.int .u8 97], [.int .u8 108], [.int .u8 105], [.int .u8 118], [.int .u8 101], [.int .u8 32], [.int .u8 110], [.int .u8 111], [.int .u8 32], [.int .u8 98], [.int .u8 111], [.int .u8 114], [.int .u8 110], [.int .u8 32], [.int .u8 110], [.int .u8 111], [.int .u8 10], [.int .u8 108], [.int .u8 105], [.int .u8 102], [.int .u8 101], [.int .u8 32], [.int .u8 55], [.int .u8 32], [.int .u8 97], [.int .u8 108], [.int .u8 105], [.int .u8 118], [.int .u8 101], [.int .u8 32], [.int .u8 110], [.int .u8 111], [.int .u8 32], [.int .u8 98], [.int .u8 111], [.int .u8 114], [.int .u8 110], [.int .u8 32], [.int .u8 110], [.int .u8 111], [.int .u8 10], [.int .u8 98], [.int .u8 111], [.int .u8 120], [.int .u8 32], [.int .u8 48], [.int .u8 32], [.int .u8 99], [.int .u8 108], [.int .u8 111], [.int .u8 115], [.int .u8 101], [.int .u8 100], [.int .u8 32], [.int .u8 110], [.int .u8 111], [.int .u8 10], [.int .u8 98], [.int .u8 111], [.int .u8 120], [.int .u8 32], [.int .u8 49], [.int .u8 32], [.int .u8 99], [.int .u8 108], [.int .u8 111], [.int .u8 115], [.int .u8 101], [.int .u8 100], [.int .u8 32], [.int .u8 110], [.int .u8 111], [.int .u8 10], [.int .u8 98], [.int .u8 111], [.int .u8 120], [.int .u8 32], [.int .u8 50], [.int .u8 32], [.int .u8 99], [.int .u8 108], [.int .u8 111], [.int .u8 115], [.int .u8 101], [.int .u8 100], [.int .u8 32], [.int .u8 110], [.int .u8 111], [.int .u8 10], [.int .u8 98], [.int .u8 111], [.int .u8 120], [.int .u8 32], [.int .u8 51], [.int .u8 32], [.int .u8 99], [.int .u8 108], [.int .u8 111], [.int .u8 115], [.int .u8 101], [.int .u8 100], [.int .u8 32], [.int .u8 110], [.int .u8 111], [.int .u8 10], [.int .u8 98], [.int .u8 111], [.int .u8 120], [.int .u8 32], [.int .u8 52], [.int .u8 32], [.int .u8 99], [.int .u8 108], [.int .u8 111], [.int .u8 115], [.int .u8 101], [.int .u8 100], [.int .u8 32], [.int .u8 110], [.int .u8 111], [.int .u8 10], [.int .u8 98], [.int .u8 111], [.int .u8 120], [.int .u8 32], [.int .u8 53], [.int .u8 32], [.int .u8 99], [.int .u8 108], [.int .u8 111], [.int .u8 115], [.int .u8 101], [.int .u8 100], [.int .u8 32], [.int .u8 110], [.int .u8 111], [.int .u8 10], [.int .u8 98], [.int .u8 111], [.int .u8 120], [.int .u8 32], [.int .u8 54], [.int .u8 32], [.int .u8 99], [.int .u8 108], [.int .u8 111], [.int .u8 115], [.int .u8 101], [.int .u8 100], [.int .u8 32], [.int .u8 110], [.int .u8 111], [.int .u8 10], [.int .u8 98], [.int .u8 111], [.int .u8 120], [.int .u8 32], [.int .u8 55], [.int .u8 32], [.int .u8 99], [.int .u8 108], [.int .u8 111], [.int .u8 115], [.int .u8 101], [.int .u8 100], [.int .u8 32], [.int .u8 110], [.int .u8 111], [.int .u8 10]]
def S3 : AS := ⟨.box B0 none :: dmp 171 471 :: (mid1 ++ (.row 171 1 ty_uint8 text3 :: .box B0 none :: .map [] :: tokK 1 :: tokK 1 :: numsR 16 15 :: (twice tokK 15 2 ++ [tokK 16, tokK 16]))), some 1⟩
def Sa : AS := ⟨[.box B0 none, .box [.nilp, .nils] (some ty_dump_dumper)], none⟩
theorem state_F : isLit (kF1 3000 (.fn (.func fn_Pdump_dumper_state) [] []) argsD (FS.enc Sa)) (.tup []) S3 = true := by kernel_rfl
end Go.Proofs.YtnnadieejpaknaaGreatDoor
