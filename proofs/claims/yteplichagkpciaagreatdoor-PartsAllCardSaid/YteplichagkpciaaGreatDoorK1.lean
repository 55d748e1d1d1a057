/- The compact code is right. -/
import Derived.Test.YteplichagkpciaaGreatDoorC
set_option linter.all false
set_option maxRecDepth 10000
set_option maxHeartbeats 1000000
namespace Go.Proofs.YteplichagkpciaaGreatDoor
open Go Go.Den Tryz
def alW:=@List.forall_mem_cons
section
set_option maxRecDepth 100000
def aqP:AZ Tryz.prog false Tryz.f91=some xc:=by kernel_rfl
def aqQ:AY Tryz.prog false Tryz.f115=some xd:=by kernel_rfl
def aqR:AZ Tryz.prog false Tryz.f275=some xf:=by kernel_rfl
def aqS:AZ Tryz.prog false Tryz.f307=some rn:=by kernel_rfl
def aqT:AY Tryz.prog false Tryz.f308=some xg:=by kernel_rfl
def ax{f:Nat}{fn:Func}{pf:PF}(h:Tryz.prog.funcs[f]?=some fn)(a:CU Tryz.prog false fn=some pf:=by as_aux_lemma=>kernel_rfl):lZ Tryz.prog f pf:=⟨false,fn,h,a⟩
def aqU: ∀x∈RT,lZ Tryz.prog x.1 x.2:=by
 unfold RT;simp only[alW];exact⟨ax func7,ax func10,ax func11,ax func14,ax func17,ax func19,ax func30,ax func32,ax func33,ax func34,ax func35,ax func36,ax func39,ax func43,ax func44,ax func45,ax func46,ax func47,ax func48,ax func50,ax func52,ax func53,ax func54,ax func55,by simp⟩
def aqV: ∀x∈RU,lZ Tryz.prog x.1 x.2:=by
 unfold RU;simp only[alW];exact⟨ax func56,ax func59,ax func60,ax func61,ax func62,ax func63,ax func64,ax func66,ax func67,ax func68,ax func69,ax func70,ax func71,ax func74,ax func76,ax func78,ax func79,ax func80,ax func81,ax func82,ax func83,ax func84,ax func85,ax func86,by simp⟩
def aqW: ∀x∈RW,lZ Tryz.prog x.1 x.2:=by
 unfold RW;simp only[alW];exact⟨ax func92,ax func93,ax func94,ax func95,ax func96,ax func97,ax func98,ax func99,ax func100,ax func101,ax func102,ax func103,ax func104,ax func105,ax func106,ax func107,ax func108,ax func110,ax func112,ax func113,ax func114,ax func116,ax func117,ax func118,by simp⟩
def aqX: ∀x∈RX,lZ Tryz.prog x.1 x.2:=by
 unfold RX;simp only[alW];exact⟨ax func119,ax func120,ax func121,ax func122,ax func123,ax func124,ax func125,ax func126,ax func127,ax func128,ax func129,ax func130,ax func131,ax func132,ax func133,ax func134,ax func135,ax func136,ax func137,ax func138,ax func139,ax func140,ax func141,ax func142,by simp⟩
end
end Go.Proofs.YteplichagkpciaaGreatDoor
