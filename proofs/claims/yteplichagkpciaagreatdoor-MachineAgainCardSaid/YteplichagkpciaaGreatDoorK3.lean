/- The compact code is right. -/
import Derived.Test.YteplichagkpciaaGreatDoorK2
set_option linter.all false
set_option maxRecDepth 10000
set_option maxHeartbeats 1000000
namespace Go.Proofs.YteplichagkpciaaGreatDoor
open Go Go.Den Tryz
section
set_option maxRecDepth 100000
def apg: ∀x∈Q3,ko Tryz.prog x.1 x.2:=by
 unfold Q3;simp only[ain];exact⟨au func258,au func259,au func260,au func261,au func262,au func263,au func264,au func265,au func266,au func267,au func268,au func269,au func270,au func271,au func272,au func273,au func274,au func276,au func277,au func278,au func279,au func280,au func281,au func282,by simp⟩
def aph: ∀x∈Q4,ko Tryz.prog x.1 x.2:=by
 unfold Q4;simp only[ain];exact⟨au func283,au func284,au func285,au func286,au func287,au func288,au func289,au func290,au func291,au func292,au func293,au func294,au func295,au func296,au func297,au func298,au func299,au func300,au func301,au func302,au func303,au func304,au func305,au func306,by simp⟩
def api: ∀x∈Q5,ko Tryz.prog x.1 x.2:=by
 unfold Q5;simp only[ain];exact⟨au func309,au func310,au func311,au func312,au func313,au func314,au func315,au func316,au func317,au func318,au func319,au func320,au func321,au func322,au func323,au func324,au func325,au func326,au func327,au func328,au func329,au func330,au func331,au func332,by simp⟩
def apj: ∀x∈Q6,ko Tryz.prog x.1 x.2:=by
 unfold Q6;simp only[ain];exact⟨au func333,au func334,au func335,au func336,au func337,by simp⟩
def aed: ∀x∈yx,ko Tryz.prog x.1 x.2:=by
 unfold yx;simp only[List.forall_mem_append];exact⟨ao8,ao9,apa,apb,apc,apd,ape,apf,apg,aph,api,apj⟩
end
end Go.Proofs.YteplichagkpciaaGreatDoor
