/- The third part of the laws' own check (no conditions). -/
import Derived.Test.YthbgjjdbcalhcaaGreatDoorCheckA
set_option linter.unusedVariables false
set_option linter.unusedSimpArgs false
set_option linter.unusedSectionVars false
set_option linter.deprecated false

/- The states between the parts of the second dump of the laws' own check. -/
namespace Go.Proofs.YthbgjjdbcalhcaaGreatDoor
open Go Go.Den
set_option maxRecDepth 100000

def bytes4 : List UInt8 := [114, 101, 103, 105, 111, 110, 32, 49, 32, 117, 112, 32, 48, 32, 113, 117, 111, 116, 97, 32, 50, 32, 117, 115, 101, 100, 32, 48, 32, 114, 117, 110, 115, 32, 45, 32, 99, 101, 108, 108, 115, 32, 48, 44, 48, 44, 48, 44, 48, 44, 48, 44, 48, 44, 48, 44, 48, 32, 111, 119, 110, 32, 49, 32, 48, 32, 48, 10, 110, 101, 120, 116, 32, 116, 97, 98, 108, 101, 32, 50, 44, 51, 44, 52, 44, 53, 44, 54, 44, 55, 44, 56, 44, 57, 44, 49, 48, 44, 49, 49, 44, 49, 50, 44, 49, 51, 44, 49, 52, 44, 49, 53, 44, 49, 54, 44, 49, 55, 44, 49, 56, 44, 49, 57, 44, 50, 48, 44, 50, 49, 44, 50, 50, 44, 50, 51, 44, 50, 52, 44, 50, 53, 44, 50, 54, 44, 50, 55, 44, 50, 56, 44, 50, 57, 44, 51, 48, 44, 51, 49, 44, 51, 50, 10, 110, 101, 120, 116, 32, 116, 111, 107, 101, 110, 115, 32, 49, 44, 50, 44, 51, 44, 52, 44, 53, 44, 54, 44, 55, 44, 56, 44, 57, 44, 49, 48, 44, 49, 49, 44, 49, 50, 44, 49, 51, 44, 49, 52, 44, 49, 53, 44, 49, 54, 10, 108, 105, 102, 101, 32, 48, 32, 97, 108, 105, 118, 101, 32, 121, 101, 115, 32, 98, 111, 114, 110, 32, 121, 101, 115, 10, 108, 105, 102, 101, 32, 49, 32, 97, 108, 105, 118, 101, 32, 110, 111, 32, 98, 111, 114, 110, 32, 110, 111, 10, 108, 105, 102, 101, 32, 50, 32, 97, 108, 105, 118, 101, 32, 110, 111, 32, 98, 111, 114, 110, 32, 110, 111, 10, 108, 105, 102, 101, 32, 51, 32, 97, 108, 105, 118, 101, 32, 110, 111, 32, 98, 111, 114, 110, 32, 110, 111, 10, 108, 105, 102, 101, 32, 52, 32, 97, 108, 105, 118, 101, 32, 110, 111, 32, 98, 111, 114, 110, 32, 110, 111, 10, 108, 105, 102, 101, 32, 53, 32, 97, 108, 105, 118, 101, 32, 110, 111, 32, 98, 111, 114, 110, 32, 110, 111, 10, 108, 105, 102, 101, 32, 54, 32, 97, 108, 105, 118, 101, 32, 110, 111, 32, 98, 111, 114, 110, 32, 110, 111, 10, 108, 105, 102, 101, 32, 55, 32, 97, 108, 105, 118, 101, 32, 110, 111, 32, 98, 111, 114, 110, 32, 110, 111, 10, 98, 111, 120, 32, 48, 32, 99, 108, 111, 115, 101, 100, 32, 110, 111, 10, 98, 111, 120, 32, 49, 32, 99, 108, 111, 115, 101, 100, 32, 110, 111, 10, 98, 111, 120, 32, 50, 32, 99, 108, 111, 115, 101, 100, 32, 110, 111, 10, 98, 111, 120, 32, 51, 32, 99, 108, 111, 115, 101, 100, 32, 110, 111, 10, 98, 111, 120, 32, 52, 32, 99, 108, 111, 115, 101, 100, 32, 110, 111, 10, 98, 111, 120, 32, 53, 32, 99, 108, 111, 115, 101, 100, 32, 110, 111, 10, 98, 111, 120, 32, 54, 32, 99, 108, 111, 115, 101, 100, 32, 110, 111, 10, 98, 111, 120, 32, 55, 32, 99, 108, 111, 115, 101, 100, 32, 110, 111, 10]
def text4 (k : Nat) : List (List AV) := (bytes4.take k).map fun b => [.int .u8 (b.toNat : Nat)]
def z12 : List AV := [.int .u32 0, .int .i64 0, .nils, .int .i64 0, .int .u32 0, .int .u32 0, .int .u32 0, .int .u32 0, .int .u32 0, .int .u32 0, .int .u32 0, .int .u32 0]
def r12 : List AV := [.int .u32 0, .int .i64 2, .nils, .int .i64 0, .int .u32 0, .int .u32 0, .int .u32 0, .int .u32 0, .int .u32 0, .int .u32 0, .int .u32 0, .int .u32 0]
/-- The state behind the event. -/
def B1 : List AV := splice (splice (splice (splice B0 1 [.bool true]) 97 [.int .i64 2]) 480 [.int .u32 1]) 481 [.int .u8 1]
def tabL (k : Nat) : AObj := .box (bookK k ++ (r12 ++ repL 31 z12)) none
def numsF (a n ver : Nat) : AObj := .row ver 1 ty_handle_Handle ((List.range n).map fun i => [.int .u32 (i + a : Nat)])
def midL : List AObj := tabL 2 :: tabL 2 :: numsF 2 31 30 :: (twice tabL 30 3 ++ [tabL 32, tabL 32])
def tokL : List AObj := .box B1 none :: .map [] :: tokK 1 :: tokK 1 :: numsF 1 16 15 :: (twice tokK 15 2 ++ [tokK 16, tokK 16])
def headL (v n : Nat) : List AObj := [.box B1 none, .box [.ptr 1 0, .ref 6 v 1 0 n false] (some ty_dump_dumper), .box B1 none, .box B1 none, .box r12 none, .box [.int .u8 1, .int .u8 0, .int .u8 0] none, .row v 1 ty_uint8 (text4 n)]
def T0 : AS := ⟨[.box B1 none, .box [.nilp, .nils] (some ty_dump_dumper), .box B1 none], none⟩
def T1 : AS := ⟨headL 37 164 ++ midL, some 1⟩
def T2 : AS := ⟨headL 43 215 ++ (midL ++ tokL), some 1⟩
def T3 : AS := ⟨headL 203 537 ++ (midL ++ tokL), some 1⟩
def Ta : AS := ⟨[.box B1 none, .box [.nilp, .nils] (some ty_dump_dumper)], none⟩
def argsL : List AV := [.ptr 1 0, .agg B1]
theorem regionsL_F : isLit (kF0 3000 (.fn (.func fn_Pdump_dumper_regions) [] []) argsL (FS.enc T0)) (.tup []) T1 = true := by kernel_rfl
end Go.Proofs.YthbgjjdbcalhcaaGreatDoor
