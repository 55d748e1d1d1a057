/- A part. -/
import Derived.Test.YtcdeobefbpnfeaaGreatDoorK1
set_option linter.all false
set_option maxRecDepth 10000
set_option maxHeartbeats 1000000
namespace Go.Proofs.YtcdeobefbpnfeaaGreatDoor
open Go Go.Den Tryz
section
set_option maxRecDepth 100000
def arl: ∀x∈Sn,kO Tryz.prog x.1 x.2:=by
 unfold Sn;simp only[ak9];exact⟨ax func146,ax func147,ax func148,ax func149,ax func150,ax func151,ax func152,ax func153,ax func154,ax func155,ax func156,⟨true,Tryz.f157,Tryz.func157,by kernel_rfl⟩,ax func158,ax func159,ax func161,ax func162,ax func163,ax func164,ax func165,ax func166,ax func167,ax func168,ax func169,ax func170,by simp⟩
def arn: ∀x∈So,kO Tryz.prog x.1 x.2:=by
 unfold So;simp only[ak9];exact⟨ax func171,ax func172,ax func173,ax func174,ax func175,ax func176,ax func177,ax func178,ax func179,ax func180,ax func181,ax func182,ax func183,ax func184,ax func185,ax func186,ax func187,ax func188,ax func189,ax func190,ax func191,ax func192,ax func193,ax func194,by simp⟩
def aro: ∀x∈Sp,kO Tryz.prog x.1 x.2:=by
 unfold Sp;simp only[ak9];exact⟨ax func195,ax func196,ax func197,ax func198,ax func199,ax func200,ax func201,ax func202,ax func203,ax func204,ax func205,ax func206,ax func207,ax func208,ax func209,ax func210,ax func211,ax func212,ax func213,ax func214,ax func215,ax func216,ax func217,ax func218,by simp⟩
def arp: ∀x∈Sq,kO Tryz.prog x.1 x.2:=by
 unfold Sq;simp only[ak9];exact⟨ax func219,ax func220,ax func221,ax func222,ax func223,ax func224,ax func225,ax func227,ax func244,ax func245,ax func249,ax func251,ax func252,ax func253,ax func254,ax func255,ax func256,ax func257,ax func258,ax func259,ax func260,ax func261,ax func262,ax func263,by simp⟩
end
end Go.Proofs.YtcdeobefbpnfeaaGreatDoor
