/- The compact code is right. -/
import Derived.Test.YteplichagkpciaaGreatDoorK1
set_option linter.all false
set_option maxRecDepth 10000
set_option maxHeartbeats 1000000
namespace Go.Proofs.YteplichagkpciaaGreatDoor
open Go Go.Den Tryz
section
set_option maxRecDepth 100000
def aqY: ∀x∈RY,lZ Tryz.prog x.1 x.2:=by
 unfold RY;simp only[alW];exact⟨ax func143,ax func144,ax func145,ax func146,ax func147,ax func148,ax func149,ax func150,ax func151,ax func152,ax func153,ax func154,ax func155,ax func156,ax func157,ax func158,ax func159,ax func160,ax func161,ax func162,ax func163,ax func164,ax func165,ax func166,by simp⟩
def aqZ: ∀x∈RZ,lZ Tryz.prog x.1 x.2:=by
 unfold RZ;simp only[alW];exact⟨ax func167,ax func168,ax func169,ax func170,ax func171,ax func172,ax func173,ax func174,ax func175,ax func176,ax func177,ax func178,ax func179,ax func180,ax func181,ax func182,ax func183,ax func184,ax func185,ax func186,ax func187,ax func188,⟨true,Tryz.f189,Tryz.func189,by kernel_rfl⟩,ax func190,by simp⟩
def aq0: ∀x∈R0,lZ Tryz.prog x.1 x.2:=by
 unfold R0;simp only[alW];exact⟨ax func191,ax func193,ax func194,ax func195,ax func212,ax func213,ax func214,ax func215,ax func218,ax func225,ax func226,ax func227,ax func228,ax func229,ax func230,ax func231,ax func232,ax func233,ax func234,ax func235,ax func236,ax func237,ax func238,ax func239,by simp⟩
def aq1: ∀x∈R3,lZ Tryz.prog x.1 x.2:=by
 unfold R3;simp only[alW];exact⟨ax func240,ax func241,ax func242,ax func243,ax func244,ax func245,ax func246,ax func247,ax func248,ax func249,ax func250,ax func251,ax func252,ax func253,ax func254,ax func255,ax func256,ax func257,ax func258,ax func259,ax func260,ax func261,ax func262,ax func263,by simp⟩
end
end Go.Proofs.YteplichagkpciaaGreatDoor
