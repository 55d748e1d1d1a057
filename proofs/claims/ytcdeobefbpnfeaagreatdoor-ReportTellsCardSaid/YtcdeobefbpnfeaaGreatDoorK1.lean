/- A part. -/
import Derived.Test.YtcdeobefbpnfeaaGreatDoorC
set_option linter.all false
set_option maxRecDepth 10000
set_option maxHeartbeats 1000000
namespace Go.Proofs.YtcdeobefbpnfeaaGreatDoor
open Go Go.Den Tryz
def alQ:=@List.forall_mem_cons
section
set_option maxRecDepth 100000
def ary:A9 Tryz.prog false Tryz.f115=some wX:=by kernel_rfl
def arz:A8 Tryz.prog false Tryz.f160=some wY:=by kernel_rfl
def arA:A9 Tryz.prog false Tryz.f300=some w4:=by kernel_rfl
def arB:A9 Tryz.prog false Tryz.f324=some rh:=by kernel_rfl
def arC:A8 Tryz.prog false Tryz.f325=some w5:=by kernel_rfl
def av{f:Nat}{fn:Func}{pf:PF}(h:Tryz.prog.funcs[f]?=some fn)(a:Dj Tryz.prog false fn=some pf:=by as_aux_lemma=>kernel_rfl):k5 Tryz.prog f pf:=⟨false,fn,h,a⟩
def arD: ∀x∈SS,k5 Tryz.prog x.1 x.2:=by
 unfold SS;simp only[alQ];exact⟨av func3,av func7,av func8,av func9,av func10,av func11,av func12,av func13,av func14,av func15,av func16,av func17,av func18,av func19,av func20,av func21,av func22,av func32,av func33,av func34,av func35,av func36,av func37,av func38,by simp⟩
def arE: ∀x∈SU,k5 Tryz.prog x.1 x.2:=by
 unfold SU;simp only[alQ];exact⟨av func39,av func40,av func41,av func42,av func43,av func44,av func45,av func46,av func47,av func48,av func49,av func50,av func51,av func61,av func62,av func63,av func64,av func65,av func66,av func67,av func68,av func69,av func70,av func71,by simp⟩
def arF: ∀x∈SW,k5 Tryz.prog x.1 x.2:=by
 unfold SW;simp only[alQ];exact⟨av func72,av func73,av func74,av func75,av func76,av func77,av func78,av func79,av func80,av func81,av func82,av func83,av func87,av func89,av func90,av func92,av func93,av func94,av func95,av func96,av func97,av func98,av func99,av func100,by simp⟩
def arG: ∀x∈SX,k5 Tryz.prog x.1 x.2:=by
 unfold SX;simp only[alQ];exact⟨av func101,av func102,av func103,av func104,av func105,av func106,av func107,av func108,av func109,av func110,av func111,av func112,av func113,av func114,av func136,av func137,av func138,av func139,av func140,av func141,av func142,av func143,av func144,av func145,by simp⟩
end
end Go.Proofs.YtcdeobefbpnfeaaGreatDoor
