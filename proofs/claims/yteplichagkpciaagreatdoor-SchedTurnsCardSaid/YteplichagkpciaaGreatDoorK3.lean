/- The compact code is right. -/
import Derived.Test.YteplichagkpciaaGreatDoorK2
set_option linter.all false
set_option maxRecDepth 10000
set_option maxHeartbeats 1000000
namespace Go.Proofs.YteplichagkpciaaGreatDoor
open Go Go.Den Tryz
section
set_option maxRecDepth 100000
def asL: ∀x∈Ui,eO Tryz.prog x.1 x.2:=by
 unfold Ui;simp only[ahl];exact⟨okO func250,okO func251,okO func252,okO func253,okO func254,okO func255,okO func256,okO func257,okO func258,okO func259,by simp⟩
def asM: ∀x∈Uj,eO Tryz.prog x.1 x.2:=by
 unfold Uj;simp only[ahl];exact⟨okO func260,okO func261,okO func262,okO func263,okO func264,okO func265,okO func266,okO func267,okO func268,okO func269,by simp⟩
def asN: ∀x∈Uk,eO Tryz.prog x.1 x.2:=by
 unfold Uk;simp only[ahl];exact⟨okO func270,okO func271,okO func272,okO func273,okO func274,okO func276,okO func277,okO func278,okO func279,okO func280,by simp⟩
def asO: ∀x∈Ul,eO Tryz.prog x.1 x.2:=by
 unfold Ul;simp only[ahl];exact⟨okO func281,okO func282,okO func283,okO func284,okO func285,okO func286,okO func287,okO func288,okO func289,okO func290,by simp⟩
def asP: ∀x∈Um,eO Tryz.prog x.1 x.2:=by
 unfold Um;simp only[ahl];exact⟨okO func291,okO func292,okO func293,okO func294,okO func295,okO func296,okO func297,okO func298,okO func299,okO func300,by simp⟩
def asQ: ∀x∈Un,eO Tryz.prog x.1 x.2:=by
 unfold Un;simp only[ahl];exact⟨okO func301,okO func302,okO func303,okO func304,okO func305,okO func306,okO func309,okO func310,okO func311,okO func312,by simp⟩
def asS: ∀x∈Uo,eO Tryz.prog x.1 x.2:=by
 unfold Uo;simp only[ahl];exact⟨okO func313,okO func314,okO func315,okO func316,okO func317,okO func318,okO func319,okO func320,okO func321,okO func322,by simp⟩
def asT: ∀x∈Up,eO Tryz.prog x.1 x.2:=by
 unfold Up;simp only[ahl];exact⟨okO func323,okO func324,okO func325,okO func326,okO func327,okO func328,okO func329,okO func330,okO func331,okO func332,by simp⟩
def asU: ∀x∈Uq,eO Tryz.prog x.1 x.2:=by
 unfold Uq;simp only[ahl];exact⟨okO func333,okO func334,okO func335,okO func336,okO func337,by simp⟩
def ag3: ∀x∈zo,eO Tryz.prog x.1 x.2:=by
 unfold zo;simp only[List.forall_mem_append];exact⟨ast,asu,asv,asw,asx,asy,asz,asA,asB,asC,asD,asE,asF,asG,asH,asI,asJ,asK,asL,asM,asN,asO,asP,asQ,asS,asT,asU⟩
end
end Go.Proofs.YteplichagkpciaaGreatDoor
