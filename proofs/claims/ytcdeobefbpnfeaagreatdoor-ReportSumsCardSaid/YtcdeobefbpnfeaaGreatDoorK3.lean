/- A part. -/
import Derived.Test.YtcdeobefbpnfeaaGreatDoorK2
set_option linter.all false
set_option maxRecDepth 10000
set_option maxHeartbeats 1000000
namespace Go.Proofs.YtcdeobefbpnfeaaGreatDoor
open Go Go.Den Tryz
section
set_option maxRecDepth 100000
def arq: ∀x∈Sr,kO Tryz.prog x.1 x.2:=by
 unfold Sr;simp only[ak9];exact⟨ax func264,ax func265,ax func266,ax func267,ax func268,ax func269,ax func270,ax func271,ax func272,ax func273,ax func274,ax func275,ax func276,ax func277,ax func278,ax func279,ax func280,ax func281,ax func282,ax func283,ax func284,ax func285,ax func286,ax func287,by simp⟩
def ars: ∀x∈Ss,kO Tryz.prog x.1 x.2:=by
 unfold Ss;simp only[ak9];exact⟨ax func288,ax func289,ax func290,ax func291,ax func292,ax func293,ax func294,ax func295,ax func296,ax func297,ax func298,ax func299,ax func301,ax func302,ax func303,ax func304,ax func305,ax func306,ax func307,ax func308,ax func309,ax func310,ax func311,ax func312,by simp⟩
def art: ∀x∈St,kO Tryz.prog x.1 x.2:=by
 unfold St;simp only[ak9];exact⟨ax func313,ax func314,ax func315,ax func316,ax func317,ax func318,ax func319,ax func320,ax func321,ax func322,ax func323,ax func326,ax func327,ax func328,ax func329,ax func330,ax func331,ax func332,ax func333,ax func334,ax func335,ax func336,ax func337,ax func338,by simp⟩
def aru: ∀x∈Su,kO Tryz.prog x.1 x.2:=by
 unfold Su;simp only[ak9];exact⟨ax func339,ax func340,ax func341,ax func342,ax func343,ax func344,ax func345,ax func346,ax func347,ax func348,by simp⟩
def afA: ∀x∈zp,kO Tryz.prog x.1 x.2:=by
 unfold zp;simp only[List.forall_mem_append];exact⟨arh,ari,arj,ark,arl,arn,aro,arp,arq,ars,art,aru⟩
end
end Go.Proofs.YtcdeobefbpnfeaaGreatDoor
