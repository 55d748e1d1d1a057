/- A part. -/
import Derived.Test.YtcdeobefbpnfeaaGreatDoorK2
set_option linter.all false
set_option maxRecDepth 10000
set_option maxHeartbeats 1000000
namespace Go.Proofs.YtcdeobefbpnfeaaGreatDoor
open Go Go.Den Tryz
section
set_option maxRecDepth 100000
def arL: ∀x∈S2,k5 Tryz.prog x.1 x.2:=by
 unfold S2;simp only[alQ];exact⟨av func264,av func265,av func266,av func267,av func268,av func269,av func270,av func271,av func272,av func273,av func274,av func275,av func276,av func277,av func278,av func279,av func280,av func281,av func282,av func283,av func284,av func285,av func286,av func287,by simp⟩
def arM: ∀x∈S3,k5 Tryz.prog x.1 x.2:=by
 unfold S3;simp only[alQ];exact⟨av func288,av func289,av func290,av func291,av func292,av func293,av func294,av func295,av func296,av func297,av func298,av func299,av func301,av func302,av func303,av func304,av func305,av func306,av func307,av func308,av func309,av func310,av func311,av func312,by simp⟩
def arN: ∀x∈S4,k5 Tryz.prog x.1 x.2:=by
 unfold S4;simp only[alQ];exact⟨av func313,av func314,av func315,av func316,av func317,av func318,av func319,av func320,av func321,av func322,av func323,av func326,av func327,av func328,av func329,av func330,av func331,av func332,av func333,av func334,av func335,av func336,av func337,av func338,by simp⟩
def arO: ∀x∈S5,k5 Tryz.prog x.1 x.2:=by
 unfold S5;simp only[alQ];exact⟨av func339,av func340,av func341,av func342,av func343,av func344,av func345,av func346,av func347,av func348,by simp⟩
def agf: ∀x∈zu,k5 Tryz.prog x.1 x.2:=by
 unfold zu;simp only[List.forall_mem_append];exact⟨arD,arE,arF,arG,arH,arI,arJ,arK,arL,arM,arN,arO⟩
end
end Go.Proofs.YtcdeobefbpnfeaaGreatDoor
