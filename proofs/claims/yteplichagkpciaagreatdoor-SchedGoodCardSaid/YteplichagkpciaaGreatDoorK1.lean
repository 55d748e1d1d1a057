/- A part. -/
import Derived.Test.YteplichagkpciaaGreatDoorC
set_option linter.all false
set_option maxRecDepth 10000
set_option maxHeartbeats 1000000
namespace Go.Proofs.YteplichagkpciaaGreatDoor
open Go Go.Den Tryz
def ag3:=@List.forall_mem_cons
section
set_option maxRecDepth 100000
def ar2:AK Tryz.prog false Tryz.f91=some wZ:=by kernel_rfl
def ar3:AJ Tryz.prog false Tryz.f115=some w4:=by kernel_rfl
def ar4:AK Tryz.prog false Tryz.f275=some w8:=by kernel_rfl
def ar5:AK Tryz.prog false Tryz.f307=some qZ:=by kernel_rfl
def ar6:AJ Tryz.prog false Tryz.f308=some w9:=by kernel_rfl
def okO{f:Nat}{fn:Func}{pf:PF}(h:Tryz.prog.funcs[f]?=some fn)(a:C3 Tryz.prog false fn=some pf:=by kernel_rfl):eO Tryz.prog f pf:=⟨false,fn,h,a⟩
def ar7: ∀x∈TD,eO Tryz.prog x.1 x.2:=by
 unfold TD;simp only[ag3];exact⟨okO func5,okO func10,okO func11,okO func13,okO func14,okO func17,okO func19,okO func21,okO func22,okO func23,by simp⟩
def ar8: ∀x∈TE,eO Tryz.prog x.1 x.2:=by
 unfold TE;simp only[ag3];exact⟨okO func25,okO func27,okO func30,okO func31,okO func33,okO func43,okO func44,okO func45,okO func46,okO func47,by simp⟩
def ar9: ∀x∈TF,eO Tryz.prog x.1 x.2:=by
 unfold TF;simp only[ag3];exact⟨okO func48,okO func50,okO func52,okO func53,okO func54,okO func55,okO func56,okO func57,okO func59,okO func60,by simp⟩
def asa: ∀x∈TG,eO Tryz.prog x.1 x.2:=by
 unfold TG;simp only[ag3];exact⟨okO func61,okO func62,okO func63,okO func64,okO func65,okO func66,okO func67,okO func68,okO func74,okO func76,by simp⟩
def asb: ∀x∈TH,eO Tryz.prog x.1 x.2:=by
 unfold TH;simp only[ag3];exact⟨okO func78,okO func79,okO func80,okO func81,okO func82,okO func83,okO func84,okO func85,okO func86,okO func92,by simp⟩
def asc: ∀x∈TI,eO Tryz.prog x.1 x.2:=by
 unfold TI;simp only[ag3];exact⟨okO func93,okO func94,okO func95,okO func96,okO func97,okO func98,okO func99,okO func100,okO func101,okO func102,by simp⟩
def asd: ∀x∈TJ,eO Tryz.prog x.1 x.2:=by
 unfold TJ;simp only[ag3];exact⟨okO func103,okO func104,okO func108,okO func110,okO func112,okO func113,okO func114,okO func116,okO func117,okO func118,by simp⟩
def ase: ∀x∈TL,eO Tryz.prog x.1 x.2:=by
 unfold TL;simp only[ag3];exact⟨okO func119,okO func120,okO func121,okO func122,okO func123,okO func124,okO func125,okO func126,okO func127,okO func128,by simp⟩
def asf: ∀x∈TM,eO Tryz.prog x.1 x.2:=by
 unfold TM;simp only[ag3];exact⟨okO func129,okO func130,okO func131,okO func132,okO func133,okO func134,okO func135,okO func136,okO func137,okO func138,by simp⟩
end
end Go.Proofs.YteplichagkpciaaGreatDoor
