/- The compact code is right. -/
import Derived.Test.YteplichagkpciaaGreatDoorK1
set_option linter.all false
set_option maxRecDepth 10000
set_option maxHeartbeats 1000000
namespace Go.Proofs.YteplichagkpciaaGreatDoor
open Go Go.Den Tryz
section
set_option maxRecDepth 100000
def asC: ∀x∈T9,eO Tryz.prog x.1 x.2:=by
 unfold T9;simp only[ahl];exact⟨okO func140,okO func141,okO func142,okO func143,okO func144,okO func145,okO func146,okO func147,okO func148,okO func149,by simp⟩
def asD: ∀x∈Ua,eO Tryz.prog x.1 x.2:=by
 unfold Ua;simp only[ahl];exact⟨okO func150,okO func151,okO func152,okO func153,okO func154,okO func155,okO func156,okO func157,okO func158,okO func159,by simp⟩
def asE: ∀x∈Ub,eO Tryz.prog x.1 x.2:=by
 unfold Ub;simp only[ahl];exact⟨okO func160,okO func161,okO func162,okO func163,okO func164,okO func165,okO func166,okO func167,okO func168,okO func169,by simp⟩
def asF: ∀x∈Uc,eO Tryz.prog x.1 x.2:=by
 unfold Uc;simp only[ahl];exact⟨okO func170,okO func171,okO func172,okO func173,okO func174,okO func175,okO func176,okO func177,okO func178,okO func179,by simp⟩
def asG: ∀x∈Ud,eO Tryz.prog x.1 x.2:=by
 unfold Ud;simp only[ahl];exact⟨okO func180,okO func181,okO func182,okO func183,okO func184,okO func185,okO func186,okO func187,okO func188,⟨true,Tryz.f189,Tryz.func189,by kernel_rfl⟩,by simp⟩
def asH: ∀x∈Ue,eO Tryz.prog x.1 x.2:=by
 unfold Ue;simp only[ahl];exact⟨okO func190,okO func191,okO func193,okO func194,okO func195,okO func212,okO func213,okO func214,okO func215,okO func218,by simp⟩
def asI: ∀x∈Uf,eO Tryz.prog x.1 x.2:=by
 unfold Uf;simp only[ahl];exact⟨okO func220,okO func221,okO func222,okO func223,okO func224,okO func225,okO func226,okO func227,okO func228,okO func229,by simp⟩
def asJ: ∀x∈Ug,eO Tryz.prog x.1 x.2:=by
 unfold Ug;simp only[ahl];exact⟨okO func230,okO func231,okO func232,okO func233,okO func234,okO func235,okO func236,okO func237,okO func238,okO func239,by simp⟩
def asK: ∀x∈Uh,eO Tryz.prog x.1 x.2:=by
 unfold Uh;simp only[ahl];exact⟨okO func240,okO func241,okO func242,okO func243,okO func244,okO func245,okO func246,okO func247,okO func248,okO func249,by simp⟩
end
end Go.Proofs.YteplichagkpciaaGreatDoor
