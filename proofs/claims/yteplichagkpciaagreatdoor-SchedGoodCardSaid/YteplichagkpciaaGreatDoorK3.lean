/- A part. -/
import Derived.Test.YteplichagkpciaaGreatDoorK2
set_option linter.all false
set_option maxRecDepth 10000
set_option maxHeartbeats 1000000
namespace Go.Proofs.YteplichagkpciaaGreatDoor
open Go Go.Den Tryz
section
set_option maxRecDepth 100000
def asq: ∀x∈TW,eO Tryz.prog x.1 x.2:=by
 unfold TW;simp only[ag3];exact⟨okO func249,okO func250,okO func251,okO func252,okO func253,okO func254,okO func255,okO func256,okO func257,okO func258,by simp⟩
def asr: ∀x∈TX,eO Tryz.prog x.1 x.2:=by
 unfold TX;simp only[ag3];exact⟨okO func259,okO func260,okO func261,okO func262,okO func263,okO func264,okO func265,okO func266,okO func267,okO func268,by simp⟩
def ass: ∀x∈TY,eO Tryz.prog x.1 x.2:=by
 unfold TY;simp only[ag3];exact⟨okO func269,okO func270,okO func271,okO func272,okO func273,okO func274,okO func276,okO func277,okO func278,okO func279,by simp⟩
def ast: ∀x∈TZ,eO Tryz.prog x.1 x.2:=by
 unfold TZ;simp only[ag3];exact⟨okO func280,okO func281,okO func282,okO func283,okO func284,okO func285,okO func286,okO func287,okO func288,okO func289,by simp⟩
def asu: ∀x∈T0,eO Tryz.prog x.1 x.2:=by
 unfold T0;simp only[ag3];exact⟨okO func290,okO func291,okO func292,okO func293,okO func294,okO func295,okO func296,okO func297,okO func298,okO func299,by simp⟩
def asv: ∀x∈T1,eO Tryz.prog x.1 x.2:=by
 unfold T1;simp only[ag3];exact⟨okO func300,okO func301,okO func302,okO func303,okO func304,okO func305,okO func306,okO func309,okO func310,okO func311,by simp⟩
def asw: ∀x∈T2,eO Tryz.prog x.1 x.2:=by
 unfold T2;simp only[ag3];exact⟨okO func312,okO func313,okO func314,okO func315,okO func316,okO func317,okO func318,okO func319,okO func320,okO func321,by simp⟩
def asx: ∀x∈T3,eO Tryz.prog x.1 x.2:=by
 unfold T3;simp only[ag3];exact⟨okO func322,okO func323,okO func324,okO func325,okO func326,okO func327,okO func328,okO func329,okO func330,okO func331,by simp⟩
def asy: ∀x∈T4,eO Tryz.prog x.1 x.2:=by
 unfold T4;simp only[ag3];exact⟨okO func332,okO func333,okO func334,okO func335,okO func336,okO func337,by simp⟩
def agN: ∀x∈zl,eO Tryz.prog x.1 x.2:=by
 unfold zl;simp only[List.forall_mem_append];exact⟨ar7,ar8,ar9,asa,asb,asc,asd,ase,asf,asg,ash,asi,asj,asl,asm,asn,aso,asp,asq,asr,ass,ast,asu,asv,asw,asx,asy⟩
end
end Go.Proofs.YteplichagkpciaaGreatDoor
