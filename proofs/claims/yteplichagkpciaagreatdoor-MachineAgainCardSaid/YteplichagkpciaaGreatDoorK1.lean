/- The compact code is right. -/
import Derived.Test.YteplichagkpciaaGreatDoorC
set_option linter.all false
set_option maxRecDepth 10000
set_option maxHeartbeats 1000000
namespace Go.Proofs.YteplichagkpciaaGreatDoor
open Go Go.Den Tryz
def ain:=@List.forall_mem_cons
section
set_option maxRecDepth 100000
def ao3:Ae Tryz.prog false Tryz.f91=some v5:=by kernel_rfl
def ao4:Ad Tryz.prog false Tryz.f115=some v7:=by kernel_rfl
def ao5:Ae Tryz.prog false Tryz.f275=some v9:=by kernel_rfl
def ao6:Ae Tryz.prog false Tryz.f307=some qz:=by kernel_rfl
def ao7:Ad Tryz.prog false Tryz.f308=some wa:=by kernel_rfl
def au{f:Nat}{fn:Func}{pf:PF}(h:Tryz.prog.funcs[f]?=some fn)(a:Cc Tryz.prog false fn=some pf:=by as_aux_lemma=>kernel_rfl):ko Tryz.prog f pf:=⟨false,fn,h,a⟩
def ao8: ∀x∈QU,ko Tryz.prog x.1 x.2:=by
 unfold QU;simp only[ain];exact⟨au func8,au func10,au func11,au func13,au func14,au func15,au func17,au func19,au func30,au func31,au func33,au func37,au func38,au func39,au func40,au func41,au func42,au func43,au func44,au func45,au func46,au func47,au func48,au func50,by simp⟩
def ao9: ∀x∈QV,ko Tryz.prog x.1 x.2:=by
 unfold QV;simp only[ain];exact⟨au func51,au func52,au func53,au func54,au func55,au func56,au func59,au func60,au func61,au func62,au func63,au func64,au func65,au func66,au func67,au func68,au func72,au func73,au func74,au func75,au func76,au func77,au func78,au func79,by simp⟩
def apa: ∀x∈QW,ko Tryz.prog x.1 x.2:=by
 unfold QW;simp only[ain];exact⟨au func80,au func81,au func82,au func83,au func84,au func85,au func86,au func92,au func93,au func94,au func95,au func96,au func97,au func98,au func99,au func100,au func101,au func102,au func103,au func104,au func108,au func109,au func110,au func111,by simp⟩
def apb: ∀x∈QX,ko Tryz.prog x.1 x.2:=by
 unfold QX;simp only[ain];exact⟨au func112,au func113,au func114,au func116,au func117,au func118,au func119,au func120,au func121,au func122,au func123,au func124,au func125,au func126,au func127,au func128,au func129,au func130,au func131,au func132,au func133,au func134,au func135,au func136,by simp⟩
end
end Go.Proofs.YteplichagkpciaaGreatDoor
