/- A part. -/
import Derived.Test.YteplichagkpciaaGreatDoorK1
set_option linter.all false
set_option maxRecDepth 10000
set_option maxHeartbeats 1000000
namespace Go.Proofs.YteplichagkpciaaGreatDoor
open Go Go.Den Tryz
section
set_option maxRecDepth 100000
def asg: ∀x∈TN,eO Tryz.prog x.1 x.2:=by
 unfold TN;simp only[ag3];exact⟨okO func139,okO func140,okO func141,okO func142,okO func143,okO func144,okO func145,okO func146,okO func147,okO func148,by simp⟩
def ash: ∀x∈TO,eO Tryz.prog x.1 x.2:=by
 unfold TO;simp only[ag3];exact⟨okO func149,okO func150,okO func151,okO func152,okO func153,okO func154,okO func155,okO func156,okO func157,okO func158,by simp⟩
def asi: ∀x∈TP,eO Tryz.prog x.1 x.2:=by
 unfold TP;simp only[ag3];exact⟨okO func159,okO func160,okO func161,okO func162,okO func163,okO func164,okO func165,okO func166,okO func167,okO func168,by simp⟩
def asj: ∀x∈TQ,eO Tryz.prog x.1 x.2:=by
 unfold TQ;simp only[ag3];exact⟨okO func169,okO func170,okO func171,okO func172,okO func173,okO func174,okO func175,okO func176,okO func177,okO func178,by simp⟩
def asl: ∀x∈TR,eO Tryz.prog x.1 x.2:=by
 unfold TR;simp only[ag3];exact⟨okO func179,okO func180,okO func181,okO func182,okO func183,okO func184,okO func185,okO func186,okO func187,okO func188,by simp⟩
def asm: ∀x∈TS,eO Tryz.prog x.1 x.2:=by
 unfold TS;simp only[ag3];exact⟨⟨true,Tryz.f189,Tryz.func189,by kernel_rfl⟩,okO func190,okO func191,okO func193,okO func194,okO func195,okO func212,okO func213,okO func214,okO func215,by simp⟩
def asn: ∀x∈TT,eO Tryz.prog x.1 x.2:=by
 unfold TT;simp only[ag3];exact⟨okO func218,okO func220,okO func221,okO func222,okO func223,okO func224,okO func225,okO func226,okO func227,okO func228,by simp⟩
def aso: ∀x∈TU,eO Tryz.prog x.1 x.2:=by
 unfold TU;simp only[ag3];exact⟨okO func229,okO func230,okO func231,okO func232,okO func233,okO func234,okO func235,okO func236,okO func237,okO func238,by simp⟩
def asp: ∀x∈TV,eO Tryz.prog x.1 x.2:=by
 unfold TV;simp only[ag3];exact⟨okO func239,okO func240,okO func241,okO func242,okO func243,okO func244,okO func245,okO func246,okO func247,okO func248,by simp⟩
end
end Go.Proofs.YteplichagkpciaaGreatDoor
