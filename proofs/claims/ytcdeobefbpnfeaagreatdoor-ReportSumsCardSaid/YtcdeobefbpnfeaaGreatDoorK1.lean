/- A part. -/
import Derived.Test.YtcdeobefbpnfeaaGreatDoorC
set_option linter.all false
set_option maxRecDepth 10000
set_option maxHeartbeats 1000000
namespace Go.Proofs.YtcdeobefbpnfeaaGreatDoor
open Go Go.Den Tryz
def ak9:=@List.forall_mem_cons
section
set_option maxRecDepth 100000
def arb:A6 Tryz.prog false Tryz.f115=some wN:=by kernel_rfl
def arc:A5 Tryz.prog false Tryz.f160=some wO:=by kernel_rfl
def ard:A6 Tryz.prog false Tryz.f300=some wQ:=by kernel_rfl
def are:A6 Tryz.prog false Tryz.f324=some qX:=by kernel_rfl
def arf:A5 Tryz.prog false Tryz.f325=some wR:=by kernel_rfl
def ax{f:Nat}{fn:Func}{pf:PF}(h:Tryz.prog.funcs[f]?=some fn)(a:CZ Tryz.prog false fn=some pf:=by as_aux_lemma=>kernel_rfl):kO Tryz.prog f pf:=⟨false,fn,h,a⟩
def arh: ∀x∈Sj,kO Tryz.prog x.1 x.2:=by
 unfold Sj;simp only[ak9];exact⟨ax func4,ax func7,ax func8,ax func9,ax func10,ax func11,ax func12,ax func13,ax func14,ax func15,ax func16,ax func17,ax func18,ax func19,ax func20,ax func21,ax func22,ax func32,ax func33,ax func34,ax func35,ax func36,ax func37,ax func38,by simp⟩
def ari: ∀x∈Sk,kO Tryz.prog x.1 x.2:=by
 unfold Sk;simp only[ak9];exact⟨ax func39,ax func40,ax func41,ax func42,ax func43,ax func44,ax func45,ax func46,ax func47,ax func48,ax func49,ax func50,ax func51,ax func61,ax func62,ax func63,ax func64,ax func65,ax func66,ax func67,ax func68,ax func69,ax func70,ax func71,by simp⟩
def arj: ∀x∈Sl,kO Tryz.prog x.1 x.2:=by
 unfold Sl;simp only[ak9];exact⟨ax func72,ax func73,ax func74,ax func75,ax func76,ax func77,ax func78,ax func79,ax func80,ax func81,ax func82,ax func83,ax func87,ax func89,ax func90,ax func92,ax func93,ax func94,ax func95,ax func96,ax func97,ax func98,ax func99,ax func100,by simp⟩
def ark: ∀x∈Sm,kO Tryz.prog x.1 x.2:=by
 unfold Sm;simp only[ak9];exact⟨ax func101,ax func102,ax func103,ax func104,ax func105,ax func106,ax func107,ax func108,ax func109,ax func110,ax func111,ax func112,ax func113,ax func114,ax func136,ax func137,ax func138,ax func139,ax func140,ax func141,ax func142,ax func143,ax func144,ax func145,by simp⟩
end
end Go.Proofs.YtcdeobefbpnfeaaGreatDoor
