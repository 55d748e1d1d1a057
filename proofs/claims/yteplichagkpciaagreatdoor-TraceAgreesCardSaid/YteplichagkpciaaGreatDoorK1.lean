/- The compact code is right. -/
import Derived.Test.YteplichagkpciaaGreatDoorC
set_option linter.all false
set_option maxRecDepth 10000
set_option maxHeartbeats 1000000
namespace Go.Proofs.YteplichagkpciaaGreatDoor
open Go Go.Den Tryz
def amG:=@List.forall_mem_cons
section
set_option maxRecDepth 100000
def apZ:AG Tryz.prog false Tryz.f91=some wR:=by kernel_rfl
def ap0:AF Tryz.prog false Tryz.f115=some wS:=by kernel_rfl
def ap1:AG Tryz.prog false Tryz.f275=some wU:=by kernel_rfl
def ap2:AG Tryz.prog false Tryz.f307=some rf:=by kernel_rfl
def ap3:AF Tryz.prog false Tryz.f308=some wV:=by kernel_rfl
def ay{f:Nat}{fn:Func}{pf:PF}(h:Tryz.prog.funcs[f]?=some fn)(a:Cx Tryz.prog false fn=some pf:=by as_aux_lemma=>kernel_rfl):lY Tryz.prog f pf:=⟨false,fn,h,a⟩
def ap4: ∀x∈Rq,lY Tryz.prog x.1 x.2:=by
 unfold Rq;simp only[amG];exact⟨ay func3,ay func10,ay func11,ay func12,ay func13,ay func14,ay func15,ay func16,ay func17,ay func18,ay func19,ay func20,ay func30,ay func33,ay func43,ay func44,ay func45,ay func47,ay func48,ay func49,ay func50,ay func51,ay func52,ay func53,by simp⟩
def ap5: ∀x∈Rr,lY Tryz.prog x.1 x.2:=by
 unfold Rr;simp only[amG];exact⟨ay func54,ay func55,ay func56,ay func59,ay func60,ay func61,ay func62,ay func63,ay func66,ay func67,ay func68,ay func74,ay func76,ay func78,ay func79,ay func80,ay func81,ay func82,ay func83,ay func84,ay func86,ay func87,ay func88,ay func89,by simp⟩
def ap6: ∀x∈Rs,lY Tryz.prog x.1 x.2:=by
 unfold Rs;simp only[amG];exact⟨ay func90,ay func92,ay func93,ay func94,ay func95,ay func96,ay func97,ay func98,ay func99,ay func100,ay func101,ay func102,ay func103,ay func104,ay func108,ay func110,ay func112,ay func113,ay func114,ay func116,ay func117,ay func118,ay func119,ay func120,by simp⟩
def ap7: ∀x∈Rt,lY Tryz.prog x.1 x.2:=by
 unfold Rt;simp only[amG];exact⟨ay func121,ay func122,ay func123,ay func124,ay func125,ay func126,ay func127,ay func128,ay func129,ay func130,ay func131,ay func132,ay func133,ay func134,ay func135,ay func136,ay func137,ay func138,ay func139,ay func140,ay func141,ay func142,ay func143,ay func144,by simp⟩
end
end Go.Proofs.YteplichagkpciaaGreatDoor
