/- The compact code is right. -/
import Derived.Test.YteplichagkpciaaGreatDoorK1
set_option linter.all false
set_option maxRecDepth 10000
set_option maxHeartbeats 1000000
namespace Go.Proofs.YteplichagkpciaaGreatDoor
open Go Go.Den Tryz
section
set_option maxRecDepth 100000
def avj: ∀x∈Wq,eP Tryz.prog x.1 x.2:=by
 unfold Wq;simp only[ait];exact⟨okO func144,okO func145,okO func146,okO func147,okO func148,okO func149,okO func150,okO func151,okO func152,okO func153,by simp⟩
def avk: ∀x∈Wr,eP Tryz.prog x.1 x.2:=by
 unfold Wr;simp only[ait];exact⟨okO func154,okO func155,okO func156,okO func157,okO func158,okO func159,okO func160,okO func161,okO func162,okO func163,by simp⟩
def avl: ∀x∈Ws,eP Tryz.prog x.1 x.2:=by
 unfold Ws;simp only[ait];exact⟨okO func164,okO func165,okO func166,okO func167,okO func168,okO func169,okO func170,okO func171,okO func172,okO func173,by simp⟩
def avm: ∀x∈Wt,eP Tryz.prog x.1 x.2:=by
 unfold Wt;simp only[ait];exact⟨okO func174,okO func175,okO func176,okO func177,okO func178,okO func179,okO func180,okO func181,okO func182,okO func183,by simp⟩
end
end Go.Proofs.YteplichagkpciaaGreatDoor
