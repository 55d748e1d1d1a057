/- The compact code is right. -/
import Derived.Test.YteplichagkpciaaGreatDoorK2
set_option linter.all false
set_option maxRecDepth 10000
set_option maxHeartbeats 1000000
namespace Go.Proofs.YteplichagkpciaaGreatDoor
open Go Go.Den Tryz
section
set_option maxRecDepth 100000
def aq2: ∀x∈R5,lZ Tryz.prog x.1 x.2:=by
 unfold R5;simp only[alW];exact⟨ax func264,ax func265,ax func266,ax func267,ax func268,ax func269,ax func270,ax func271,ax func272,ax func273,ax func274,ax func276,ax func277,ax func278,ax func279,ax func280,ax func281,ax func282,ax func283,ax func284,ax func285,ax func286,ax func287,ax func288,by simp⟩
def aq3: ∀x∈R6,lZ Tryz.prog x.1 x.2:=by
 unfold R6;simp only[alW];exact⟨ax func289,ax func290,ax func291,ax func292,ax func293,ax func294,ax func295,ax func296,ax func297,ax func298,ax func299,ax func300,ax func301,ax func302,ax func303,ax func304,ax func305,ax func306,ax func309,ax func310,ax func311,ax func312,ax func313,ax func314,by simp⟩
def aq4: ∀x∈R7,lZ Tryz.prog x.1 x.2:=by
 unfold R7;simp only[alW];exact⟨ax func315,ax func316,ax func317,ax func318,ax func319,ax func320,ax func321,ax func322,ax func323,ax func324,ax func325,ax func326,ax func327,ax func328,ax func329,ax func330,ax func331,ax func332,ax func333,ax func334,ax func335,ax func336,ax func337,by simp⟩
def afj: ∀x∈zt,lZ Tryz.prog x.1 x.2:=by
 unfold zt;simp only[List.forall_mem_append];exact⟨aqU,aqV,aqW,aqX,aqY,aqZ,aq0,aq1,aq2,aq3,aq4⟩
end
end Go.Proofs.YteplichagkpciaaGreatDoor
