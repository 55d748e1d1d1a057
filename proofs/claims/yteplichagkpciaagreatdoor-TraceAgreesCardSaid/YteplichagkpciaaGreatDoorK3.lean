/- The compact code is right. -/
import Derived.Test.YteplichagkpciaaGreatDoorK2
set_option linter.all false
set_option maxRecDepth 10000
set_option maxHeartbeats 1000000
namespace Go.Proofs.YteplichagkpciaaGreatDoor
open Go Go.Den Tryz
section
set_option maxRecDepth 100000
def aqc: ∀x∈Rz,lY Tryz.prog x.1 x.2:=by
 unfold Rz;simp only[amG];exact⟨ay func266,ay func267,ay func268,ay func269,ay func270,ay func271,ay func272,ay func273,ay func274,ay func276,ay func277,ay func278,ay func279,ay func280,ay func281,ay func282,ay func283,ay func284,ay func285,ay func286,ay func287,ay func288,ay func289,ay func290,by simp⟩
def aqd: ∀x∈RA,lY Tryz.prog x.1 x.2:=by
 unfold RA;simp only[amG];exact⟨ay func291,ay func292,ay func293,ay func294,ay func295,ay func296,ay func297,ay func298,ay func299,ay func300,ay func301,ay func302,ay func303,ay func304,ay func305,ay func306,ay func309,ay func310,ay func311,ay func312,ay func313,ay func314,ay func315,ay func316,by simp⟩
def aqe: ∀x∈RC,lY Tryz.prog x.1 x.2:=by
 unfold RC;simp only[amG];exact⟨ay func317,ay func318,ay func319,ay func320,ay func321,ay func322,ay func323,ay func324,ay func325,ay func326,ay func327,ay func328,ay func329,ay func330,ay func331,ay func332,ay func333,ay func334,ay func335,ay func336,ay func337,by simp⟩
def aeD: ∀x∈zb,lY Tryz.prog x.1 x.2:=by
 unfold zb;simp only[List.forall_mem_append];exact⟨ap4,ap5,ap6,ap7,ap8,ap9,aqa,aqb,aqc,aqd,aqe⟩
end
end Go.Proofs.YteplichagkpciaaGreatDoor
