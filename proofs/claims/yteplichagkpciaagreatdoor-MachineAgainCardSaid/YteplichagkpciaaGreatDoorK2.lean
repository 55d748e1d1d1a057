/- The compact code is right. -/
import Derived.Test.YteplichagkpciaaGreatDoorK1
set_option linter.all false
set_option maxRecDepth 10000
set_option maxHeartbeats 1000000
namespace Go.Proofs.YteplichagkpciaaGreatDoor
open Go Go.Den Tryz
section
set_option maxRecDepth 100000
def apc: ∀x∈QY,ko Tryz.prog x.1 x.2:=by
 unfold QY;simp only[ain];exact⟨au func137,au func138,au func139,au func140,au func141,au func142,au func143,au func144,au func145,au func146,au func147,au func148,au func149,au func150,au func151,au func152,au func153,au func154,au func155,au func156,au func157,au func158,au func159,au func160,by simp⟩
def apd: ∀x∈QZ,ko Tryz.prog x.1 x.2:=by
 unfold QZ;simp only[ain];exact⟨au func161,au func162,au func163,au func164,au func165,au func166,au func167,au func168,au func169,au func170,au func171,au func172,au func173,au func174,au func175,au func176,au func177,au func178,au func179,au func180,au func181,au func182,au func183,au func184,by simp⟩
def ape: ∀x∈Q0,ko Tryz.prog x.1 x.2:=by
 unfold Q0;simp only[ain];exact⟨au func185,au func186,au func187,au func188,⟨true,Tryz.f189,Tryz.func189,by kernel_rfl⟩,au func190,au func191,au func193,au func194,au func195,au func212,au func213,au func214,au func215,au func218,au func225,au func226,au func227,au func228,au func229,au func230,au func231,au func232,au func233,by simp⟩
def apf: ∀x∈Q2,ko Tryz.prog x.1 x.2:=by
 unfold Q2;simp only[ain];exact⟨au func234,au func235,au func236,au func237,au func238,au func239,au func240,au func241,au func242,au func243,au func244,au func245,au func246,au func247,au func248,au func249,au func250,au func251,au func252,au func253,au func254,au func255,au func256,au func257,by simp⟩
end
end Go.Proofs.YteplichagkpciaaGreatDoor
