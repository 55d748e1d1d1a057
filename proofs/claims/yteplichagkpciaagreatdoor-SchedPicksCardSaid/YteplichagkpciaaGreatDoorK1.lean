/- The compact code is right. -/
import Derived.Test.YteplichagkpciaaGreatDoorC
set_option linter.all false
set_option maxRecDepth 10000
set_option maxHeartbeats 1000000
namespace Go.Proofs.YteplichagkpciaaGreatDoor
open Go Go.Den Tryz
def ait:=@List.forall_mem_cons
section
set_option maxRecDepth 100000
def au4:Bp Tryz.prog false Tryz.f91=some xw:=by kernel_rfl
def au5:Bn Tryz.prog false Tryz.f115=some xx:=by kernel_rfl
def au6:Bp Tryz.prog false Tryz.f275=some xz:=by kernel_rfl
def au7:Bp Tryz.prog false Tryz.f307=some rJ:=by kernel_rfl
def au8:Bn Tryz.prog false Tryz.f308=some xA:=by kernel_rfl
def okO{f:Nat}{fn:Func}{pf:PF}(h:Tryz.prog.funcs[f]?=some fn)(a:DY Tryz.prog false fn=some pf:=by as_aux_lemma=>kernel_rfl):eP Tryz.prog f pf:=⟨false,fn,h,a⟩
def au9: ∀x∈Wg,eP Tryz.prog x.1 x.2:=by
 unfold Wg;simp only[ait];exact⟨okO func4,okO func10,okO func11,okO func13,okO func14,okO func17,okO func19,okO func21,okO func22,okO func23,by simp⟩
def ava: ∀x∈Wh,eP Tryz.prog x.1 x.2:=by
 unfold Wh;simp only[ait];exact⟨okO func24,okO func25,okO func26,okO func27,okO func28,okO func29,okO func30,okO func31,okO func33,okO func43,by simp⟩
def avb: ∀x∈Wi,eP Tryz.prog x.1 x.2:=by
 unfold Wi;simp only[ait];exact⟨okO func44,okO func45,okO func46,okO func47,okO func48,okO func50,okO func52,okO func53,okO func54,okO func55,by simp⟩
def avc: ∀x∈Wj,eP Tryz.prog x.1 x.2:=by
 unfold Wj;simp only[ait];exact⟨okO func56,okO func57,okO func58,okO func59,okO func60,okO func61,okO func62,okO func63,okO func64,okO func65,by simp⟩
def avd: ∀x∈Wk,eP Tryz.prog x.1 x.2:=by
 unfold Wk;simp only[ait];exact⟨okO func66,okO func67,okO func68,okO func74,okO func76,okO func78,okO func79,okO func80,okO func81,okO func82,by simp⟩
def ave: ∀x∈Wl,eP Tryz.prog x.1 x.2:=by
 unfold Wl;simp only[ait];exact⟨okO func83,okO func84,okO func85,okO func86,okO func92,okO func93,okO func94,okO func95,okO func96,okO func97,by simp⟩
def avf: ∀x∈Wm,eP Tryz.prog x.1 x.2:=by
 unfold Wm;simp only[ait];exact⟨okO func98,okO func99,okO func100,okO func101,okO func102,okO func103,okO func104,okO func108,okO func110,okO func112,by simp⟩
def avg: ∀x∈Wn,eP Tryz.prog x.1 x.2:=by
 unfold Wn;simp only[ait];exact⟨okO func113,okO func114,okO func116,okO func117,okO func118,okO func119,okO func120,okO func121,okO func122,okO func123,by simp⟩
def avh: ∀x∈Wo,eP Tryz.prog x.1 x.2:=by
 unfold Wo;simp only[ait];exact⟨okO func124,okO func125,okO func126,okO func127,okO func128,okO func129,okO func130,okO func131,okO func132,okO func133,by simp⟩
def avi: ∀x∈Wp,eP Tryz.prog x.1 x.2:=by
 unfold Wp;simp only[ait];exact⟨okO func134,okO func135,okO func136,okO func137,okO func138,okO func139,okO func140,okO func141,okO func142,okO func143,by simp⟩
end
end Go.Proofs.YteplichagkpciaaGreatDoor
