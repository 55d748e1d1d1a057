/- A part. -/
import Derived.Test.YtcdeobefbpnfeaaGreatDoorK1
set_option linter.all false
set_option maxRecDepth 10000
set_option maxHeartbeats 1000000
namespace Go.Proofs.YtcdeobefbpnfeaaGreatDoor
open Go Go.Den Tryz
section
set_option maxRecDepth 100000
def arH: ∀x∈SY,k5 Tryz.prog x.1 x.2:=by
 unfold SY;simp only[alQ];exact⟨av func146,av func147,av func148,av func149,av func150,av func151,av func152,av func153,av func154,av func155,av func156,⟨true,Tryz.f157,Tryz.func157,by kernel_rfl⟩,av func158,av func159,av func161,av func162,av func163,av func164,av func165,av func166,av func167,av func168,av func169,av func170,by simp⟩
def arI: ∀x∈SZ,k5 Tryz.prog x.1 x.2:=by
 unfold SZ;simp only[alQ];exact⟨av func171,av func172,av func173,av func174,av func175,av func176,av func177,av func178,av func179,av func180,av func181,av func182,av func183,av func184,av func185,av func186,av func187,av func188,av func189,av func190,av func191,av func192,av func193,av func194,by simp⟩
def arJ: ∀x∈S0,k5 Tryz.prog x.1 x.2:=by
 unfold S0;simp only[alQ];exact⟨av func195,av func196,av func197,av func198,av func199,av func200,av func201,av func202,av func203,av func204,av func205,av func206,av func207,av func208,av func209,av func210,av func211,av func212,av func213,av func214,av func215,av func216,av func217,av func218,by simp⟩
def arK: ∀x∈S1,k5 Tryz.prog x.1 x.2:=by
 unfold S1;simp only[alQ];exact⟨av func219,av func220,av func221,av func222,av func223,av func224,av func225,av func227,av func244,av func245,av func249,av func251,av func252,av func253,av func254,av func255,av func256,av func257,av func258,av func259,av func260,av func261,av func262,av func263,by simp⟩
end
end Go.Proofs.YtcdeobefbpnfeaaGreatDoor
