/- The compact code is right. -/
import Derived.Test.YteplichagkpciaaGreatDoorC
set_option linter.all false
set_option maxRecDepth 10000
set_option maxHeartbeats 1000000
namespace Go.Proofs.YteplichagkpciaaGreatDoor
open Go Go.Den Tryz
def ahl:=@List.forall_mem_cons
section
set_option maxRecDepth 100000
def aso:AQ Tryz.prog false Tryz.f91=some w5:=by kernel_rfl
def asp:AP Tryz.prog false Tryz.f115=some w8:=by kernel_rfl
def asq:AQ Tryz.prog false Tryz.f275=some xa:=by kernel_rfl
def asr:AQ Tryz.prog false Tryz.f307=some rf:=by kernel_rfl
def ass:AP Tryz.prog false Tryz.f308=some xb:=by kernel_rfl
def okO{f:Nat}{fn:Func}{pf:PF}(h:Tryz.prog.funcs[f]?=some fn)(a:Df Tryz.prog false fn=some pf:=by kernel_rfl):eO Tryz.prog f pf:=⟨false,fn,h,a⟩
def ast: ∀x∈T0,eO Tryz.prog x.1 x.2:=by
 unfold T0;simp only[ahl];exact⟨okO func6,okO func10,okO func11,okO func13,okO func14,okO func17,okO func19,okO func21,okO func22,okO func25,by simp⟩
def asu: ∀x∈T1,eO Tryz.prog x.1 x.2:=by
 unfold T1;simp only[ahl];exact⟨okO func27,okO func30,okO func31,okO func33,okO func43,okO func44,okO func45,okO func46,okO func47,okO func48,by simp⟩
def asv: ∀x∈T2,eO Tryz.prog x.1 x.2:=by
 unfold T2;simp only[ahl];exact⟨okO func50,okO func52,okO func53,okO func54,okO func55,okO func56,okO func57,okO func59,okO func60,okO func61,by simp⟩
def asw: ∀x∈T3,eO Tryz.prog x.1 x.2:=by
 unfold T3;simp only[ahl];exact⟨okO func62,okO func63,okO func64,okO func65,okO func66,okO func67,okO func68,okO func74,okO func76,okO func78,by simp⟩
def asx: ∀x∈T4,eO Tryz.prog x.1 x.2:=by
 unfold T4;simp only[ahl];exact⟨okO func79,okO func80,okO func81,okO func82,okO func83,okO func84,okO func85,okO func86,okO func92,okO func93,by simp⟩
def asy: ∀x∈T5,eO Tryz.prog x.1 x.2:=by
 unfold T5;simp only[ahl];exact⟨okO func94,okO func95,okO func96,okO func97,okO func98,okO func99,okO func100,okO func101,okO func102,okO func103,by simp⟩
def asz: ∀x∈T6,eO Tryz.prog x.1 x.2:=by
 unfold T6;simp only[ahl];exact⟨okO func104,okO func108,okO func110,okO func112,okO func113,okO func114,okO func116,okO func117,okO func118,okO func119,by simp⟩
def asA: ∀x∈T7,eO Tryz.prog x.1 x.2:=by
 unfold T7;simp only[ahl];exact⟨okO func120,okO func121,okO func122,okO func123,okO func124,okO func125,okO func126,okO func127,okO func128,okO func129,by simp⟩
def asB: ∀x∈T8,eO Tryz.prog x.1 x.2:=by
 unfold T8;simp only[ahl];exact⟨okO func130,okO func131,okO func132,okO func133,okO func134,okO func135,okO func136,okO func137,okO func138,okO func139,by simp⟩
end
end Go.Proofs.YteplichagkpciaaGreatDoor
