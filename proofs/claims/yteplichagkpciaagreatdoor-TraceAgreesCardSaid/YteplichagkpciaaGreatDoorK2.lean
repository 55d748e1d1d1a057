/- The compact code is right. -/
import Derived.Test.YteplichagkpciaaGreatDoorK1
set_option linter.all false
set_option maxRecDepth 10000
set_option maxHeartbeats 1000000
namespace Go.Proofs.YteplichagkpciaaGreatDoor
open Go Go.Den Tryz
section
set_option maxRecDepth 100000
def ap8: ∀x∈Ru,lY Tryz.prog x.1 x.2:=by
 unfold Ru;simp only[amG];exact⟨ay func145,ay func146,ay func147,ay func148,ay func149,ay func150,ay func151,ay func152,ay func153,ay func154,ay func155,ay func156,ay func157,ay func158,ay func159,ay func160,ay func161,ay func162,ay func163,ay func164,ay func165,ay func166,ay func167,ay func168,by simp⟩
def ap9: ∀x∈Rw,lY Tryz.prog x.1 x.2:=by
 unfold Rw;simp only[amG];exact⟨ay func169,ay func170,ay func171,ay func172,ay func173,ay func174,ay func175,ay func176,ay func177,ay func178,ay func179,ay func180,ay func181,ay func182,ay func183,ay func184,ay func185,ay func186,ay func187,ay func188,⟨true,Tryz.f189,Tryz.func189,by kernel_rfl⟩,ay func190,ay func191,ay func193,by simp⟩
def aqa: ∀x∈Rx,lY Tryz.prog x.1 x.2:=by
 unfold Rx;simp only[amG];exact⟨ay func194,ay func195,ay func212,ay func213,ay func214,ay func215,ay func218,ay func225,ay func226,ay func227,ay func228,ay func229,ay func230,ay func231,ay func232,ay func233,ay func234,ay func235,ay func236,ay func237,ay func238,ay func239,ay func240,ay func241,by simp⟩
def aqb: ∀x∈Ry,lY Tryz.prog x.1 x.2:=by
 unfold Ry;simp only[amG];exact⟨ay func242,ay func243,ay func244,ay func245,ay func246,ay func247,ay func248,ay func249,ay func250,ay func251,ay func252,ay func253,ay func254,ay func255,ay func256,ay func257,ay func258,ay func259,ay func260,ay func261,ay func262,ay func263,ay func264,ay func265,by simp⟩
end
end Go.Proofs.YteplichagkpciaaGreatDoor
