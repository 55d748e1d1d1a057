/- The compact code is right. -/
import Derived.Test.YteplichagkpciaaGreatDoorK2
set_option linter.all false
set_option maxRecDepth 10000
set_option maxHeartbeats 1000000
namespace Go.Proofs.YteplichagkpciaaGreatDoor
open Go Go.Den Tryz
section
set_option maxRecDepth 100000
def avn: ∀x∈Wu,eP Tryz.prog x.1 x.2:=by
 unfold Wu;simp only[ait];exact⟨okO func184,okO func185,okO func186,okO func187,okO func188,⟨true,Tryz.f189,Tryz.func189,by kernel_rfl⟩,okO func190,okO func191,okO func193,okO func194,by simp⟩
def avo: ∀x∈Wv,eP Tryz.prog x.1 x.2:=by
 unfold Wv;simp only[ait];exact⟨okO func195,okO func212,okO func213,okO func214,okO func215,okO func218,okO func220,okO func221,okO func222,okO func223,by simp⟩
def avp: ∀x∈Ww,eP Tryz.prog x.1 x.2:=by
 unfold Ww;simp only[ait];exact⟨okO func224,okO func225,okO func226,okO func227,okO func228,okO func229,okO func230,okO func231,okO func232,okO func233,by simp⟩
def avq: ∀x∈Wx,eP Tryz.prog x.1 x.2:=by
 unfold Wx;simp only[ait];exact⟨okO func234,okO func235,okO func236,okO func237,okO func238,okO func239,okO func240,okO func241,okO func242,okO func243,by simp⟩
def avr: ∀x∈Wy,eP Tryz.prog x.1 x.2:=by
 unfold Wy;simp only[ait];exact⟨okO func244,okO func245,okO func246,okO func247,okO func248,okO func249,okO func250,okO func251,okO func252,okO func253,by simp⟩
def avs: ∀x∈Wz,eP Tryz.prog x.1 x.2:=by
 unfold Wz;simp only[ait];exact⟨okO func254,okO func255,okO func256,okO func257,okO func258,okO func259,okO func260,okO func261,okO func262,okO func263,by simp⟩
def avt: ∀x∈WA,eP Tryz.prog x.1 x.2:=by
 unfold WA;simp only[ait];exact⟨okO func264,okO func265,okO func266,okO func267,okO func268,okO func269,okO func270,okO func271,okO func272,okO func273,by simp⟩
def avu: ∀x∈WB,eP Tryz.prog x.1 x.2:=by
 unfold WB;simp only[ait];exact⟨okO func274,okO func276,okO func277,okO func278,okO func279,okO func280,okO func281,okO func282,okO func283,okO func284,by simp⟩
def avv: ∀x∈WC,eP Tryz.prog x.1 x.2:=by
 unfold WC;simp only[ait];exact⟨okO func285,okO func286,okO func287,okO func288,okO func289,okO func290,okO func291,okO func292,okO func293,okO func294,by simp⟩
def avw: ∀x∈WD,eP Tryz.prog x.1 x.2:=by
 unfold WD;simp only[ait];exact⟨okO func295,okO func296,okO func297,okO func298,okO func299,okO func300,okO func301,okO func302,okO func303,okO func304,by simp⟩
def avx: ∀x∈WE,eP Tryz.prog x.1 x.2:=by
 unfold WE;simp only[ait];exact⟨okO func305,okO func306,okO func309,okO func310,okO func311,okO func312,okO func313,okO func314,okO func315,okO func316,by simp⟩
def avy: ∀x∈WG,eP Tryz.prog x.1 x.2:=by
 unfold WG;simp only[ait];exact⟨okO func317,okO func318,okO func319,okO func320,okO func321,okO func322,okO func323,okO func324,okO func325,okO func326,by simp⟩
def avz: ∀x∈WH,eP Tryz.prog x.1 x.2:=by
 unfold WH;simp only[ait];exact⟨okO func327,okO func328,okO func329,okO func330,okO func331,okO func332,okO func333,okO func334,okO func335,okO func336,by simp⟩
def avA: ∀x∈WI,eP Tryz.prog x.1 x.2:=by
 unfold WI;simp only[ait];exact⟨okO func337,by simp⟩
def ajy: ∀x∈zX,eP Tryz.prog x.1 x.2:=by
 unfold zX;simp only[List.forall_mem_append];exact⟨au9,ava,avb,avc,avd,ave,avf,avg,avh,avi,avj,avk,avl,avm,avn,avo,avp,avq,avr,avs,avt,avu,avv,avw,avx,avy,avz,avA⟩
end
end Go.Proofs.YteplichagkpciaaGreatDoor
