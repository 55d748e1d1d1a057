/- THE LAW SchedPicks: for every input it returns true; condition: the listed variables lie as the text lays them. -/
import Derived.Test.YteplichagkpciaaGreatDoorR
import Derived.Test.YteplichagkpciaaGreatDoorM3
set_option linter.all false
set_option maxRecDepth 10000
set_option maxHeartbeats 1000000
namespace Go.Proofs.YteplichagkpciaaGreatDoor
open Go Go.Den Go.RowKit Go.ChangeShapes Go.WideShapes Go.ChangeAt Go.Proofs.YteplichagkpciaaGreatDoor
section
set_option maxRecDepth 100000
def aFp(os:Os)(b:os.Started)(H:Type)(enc:TypeId×Value->H):
  ReturnsInHanded {} Tryz.checked os 4 .any (λw args=>(Rows.schedPicksSpec.pre enc Tryz.prog Tryz.f4 [] false w args/\laidMetH Tryz.prog Rows.schedPicksRow.laid w)/\sizedMet enc Tryz.prog Tryz.f4 (OpenSpec.ofChange Rows.schedPicksSpec) false w args)
   (Rows.schedPicksSpec.post enc Tryz.prog Tryz.f4 false true false false):=by
 refine returnsInHanded_of_change_and (C:=Tryz.checked) (X:=λw _=>laidMetH Tryz.prog Rows.schedPicksRow.laid w) (λ_ _ _ E h=>h.of_heap E) own b (by kernel_rfl) Tryz.func4
  (ChangeSpec.witness_shaped (enc:=enc) (C:=Tryz.checked) (os:=os) (X:=λw _=>laidMetH Tryz.prog Rows.schedPicksRow.laid w) false (World.doorLaid Tryz.prog 600 os) #[.agg #[.int .i64 0,.slice none 0 0,.string ⟨#[]⟩],.agg #[.int .u8 0,.slice none 0 0,.int .u64 0,.int .i64 0,.int .u8 0,.int .i64 0],.int .u16 0] 8 rfl (World.shaped_of_RefB (by kernel_rfl) (by kernel_rfl)) (by kernel_rfl) (by kernel_rfl) (by kernel_rfl) (aFh os _)) ?_
 intro W base args L gs before c B _ _ G _;have a: ∀ (j:Nat) t v,Tryz.f4.params[j]?=some t->args[j]?=some v->Value.okWide Tryz.prog W .any base t v:=c;have d:=B;obtain⟨p,q,r,F,rfl,_,_⟩:=B;have s:DataW.TrodAll enc Tryz.prog W 0 (λ_=>true) true Tryz.f4.params.toList args.toList L p:=r;have n:=d.lt;rw[Tryz.params4]at s a;obtain⟨v0,v1,v2,d0,d1,d2,O,N,M,rfl,rfl,rfl,K,J,I⟩:=trodAll_three s;obtain⟨rfl,rfl⟩:=trodVars_none F;obtain⟨aM,aC,aX,pv,i,l⟩:=aFm (a 0 24 v0 rfl rfl) K;obtain⟨x,u,g,m,k⟩:=aFo (a 1 106 v1 rfl rfl) J;obtain⟨z,rfl,o⟩:=aFk (a 2 107 v2 rfl rfl) I;refine(aFg G (f:=4) Tryz.func4 (by kernel_rfl) (by kernel_rfl) (args:=[.agg (ek aM pv aX),.agg (aT x u),.int .u16 z]) ⟨_,_,rfl,i,_,_,rfl,g,_,_,rfl,rfl,rfl⟩
  (aEQ l x m u k z o)).mono λe P ⟨he,A⟩=>?_
 subst he;exact⟨_,rfl,_,_,_,[],_,[],d,trodAll_mk1 (shut_bool Tryz.underlying4 _),abv (by kernel_rfl) A (by kernel_rfl) s (λy D=>n y (List.mem_append_left _ D)),rfl,A.frame _,λh=>by cases h⟩
def aFq: (Rows.schedPicksRow.inPlace==Tryz.pinned.checked.prog.inPlace 4)=true:=by kernel_rfl
def aFr: (Rows.schedPicksRow.unfollowed==Tryz.pinned.checked.prog.unfollowed 4)=true:=by kernel_rfl
def aFs: (Rows.schedPicksRow.recurses==Tryz.pinned.checked.prog.recurses 4)=true:=by kernel_rfl
def aFt: (Rows.schedPicksRow.named==Tryz.pinned.checked.prog.varsNamed 4)=true:=by kernel_rfl
def aFu:joinedFacts Tryz.pinned.checked.prog 4 Tryz.f4 Rows.schedPicksSpec Rows.schedPicksRow=true:=by
 unfold joinedFacts;rw[aFq,aFr,aFs,aFt]
 kernel_rfl
def aFv:Tryz.pinned.checked.prog.funcNamed Rows.schedPicksRow.func=some 4:=by kernel_rfl
theorem aFw:Func.isInstance Tryz.pinned.checked.prog Tryz.f4 Rows.schedPicksRow.origin Rows.schedPicksRow.targs:=asR (by kernel_rfl)
def aFx:Func.isWrapper Tryz.pinned.checked.prog Tryz.f4 Rows.schedPicksRow.wrapper Rows.schedPicksRow.mainSum:=by
 unfold Func.isWrapper;first| (rw[aaR (by decide+kernel)];kernel_rfl)| (rw[aaH (by decide+kernel)];exact⟨rfl,rfl⟩)
def aFy:Rows.SchedPicksSaid:=
 OpenClaim.holds_of_wide 4 Tryz.f4 rfl rfl rfl rfl rfl rfl rfl ⟨rfl,rfl,rfl,rfl,rfl⟩ rfl rfl rfl rfl rfl aFv Tryz.func4 aFu aFw aFx
  (λos started H enc _=>aFp os started H enc)
theorem schedPicks_card:Rows.SchedPicksCardSaid:=
 Claim7.holds_tied_plain_at .later [] [.funcs,.funcs] true (true, "3cb085b54df9ae21e6a6cfd8b5ade78eed0912a9576105ab43e30a5112c9242a") true aFy (λ_ h=>by cases h) (by kernel_rfl) (λ_ h=>by cases h) schedPicks_row_tie rfl ⟨rfl,rfl⟩ (by kernel_rfl) rfl
  (λf fn d b=>by
    obtain rfl:f=4:=alo ((show Tryz.prog.funcNamed "bailiwick/bailiwicklaw25.SchedPicks" =some 4 by kernel_rfl).symm.trans d)|>.symm;obtain rfl:fn=Tryz.f4:=(alo (Tryz.func4.symm.trans b)).symm;exact⟨by kernel_rfl,λj t c=>by
     rw[Tryz.params4]at c;have hm:t∈[24,106,107]:=by simpa using Array.mem_of_getElem? c
     have a: ([24,106,107].all λu=>!Tryz.prog.wantsStandIn u)=true:=by kernel_rfl
     exact(show Tryz.prog.wantsStandIn t=false by simpa using ajD.1 a t hm)⟩)
  (by kernel_rfl)
#print axioms schedPicks_card
end
end Go.Proofs.YteplichagkpciaaGreatDoor
