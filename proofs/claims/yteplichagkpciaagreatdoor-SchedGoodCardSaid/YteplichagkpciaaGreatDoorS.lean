/- THE LAW SchedGood: for every input it returns true; condition: the listed variables lie as the text lays them. -/
import Derived.Test.YteplichagkpciaaGreatDoorR
set_option linter.all false
set_option maxRecDepth 10000
set_option maxHeartbeats 1000000
namespace Go.Proofs.YteplichagkpciaaGreatDoor
open Go Go.Den Go.RowKit Go.ChangeShapes Go.WideShapes Go.ChangeAt Go.Proofs.YteplichagkpciaaGreatDoor
section
set_option maxRecDepth 100000
def aCc(os:Os)(b:os.Started)(H:Type)(enc:TypeId×Value->H):
  ReturnsInHanded {} Tryz.checked os 5 .any (λw args=>(Rows.schedGoodSpec.pre enc Tryz.prog Tryz.f5 [] false w args/\laidMetH Tryz.prog Rows.schedGoodRow.laid w)/\sizedMet enc Tryz.prog Tryz.f5 (OpenSpec.ofChange Rows.schedGoodSpec) false w args)
   (Rows.schedGoodSpec.post enc Tryz.prog Tryz.f5 false true false false):=by
 refine returnsInHanded_of_change_and (C:=Tryz.checked) (X:=λw _=>laidMetH Tryz.prog Rows.schedGoodRow.laid w) (λ_ _ _ E h=>h.of_heap E) own b (by kernel_rfl) Tryz.func5
  (ChangeSpec.witness_shaped (enc:=enc) (C:=Tryz.checked) (os:=os) (X:=λw _=>laidMetH Tryz.prog Rows.schedGoodRow.laid w) false (World.doorLaid Tryz.prog 600 os) #[.agg #[.int .i64 0,.slice none 0 0,.string ⟨#[]⟩],.agg #[.int .u8 0,.slice none 0 0,.int .u64 0,.int .i64 0,.int .u8 0,.int .i64 0],.int .u16 0] 8 rfl (World.shaped_of_RefB (by kernel_rfl) (by kernel_rfl)) (by kernel_rfl) (by kernel_rfl) (by kernel_rfl) (aB4 os _)) ?_
 intro W base args L gs before c B _ _ G _;have a: ∀ (j:Nat) t v,Tryz.f5.params[j]?=some t->args[j]?=some v->Value.okWide Tryz.prog W .any base t v:=c;have d:=B;obtain⟨p,q,r,F,rfl,_,_⟩:=B;have s:DataW.TrodAll enc Tryz.prog W 0 (λ_=>true) true Tryz.f5.params.toList args.toList L p:=r;have n:=d.lt;rw[Tryz.params5]at s a;obtain⟨v0,v1,v2,d0,d1,d2,O,N,M,rfl,rfl,rfl,K,J,I⟩:=trodAll_three s;obtain⟨rfl,rfl⟩:=trodVars_none F;obtain⟨aN,aC,aW,pv,i,l⟩:=aB9 (a 0 24 v0 rfl rfl) K;obtain⟨x,u,g,m,k⟩:=aCb (a 1 106 v1 rfl rfl) J;obtain⟨z,rfl,o⟩:=aB7 (a 2 107 v2 rfl rfl) I;refine(aB3 G (f:=5) Tryz.func5 (by kernel_rfl) (by kernel_rfl) (args:=[.agg (dX aN pv aW),.agg (a0 x u),.int .u16 z]) ⟨_,_,rfl,i,_,_,rfl,g,_,_,rfl,rfl,rfl⟩
  (aBD l x m u k z o)).mono λe P ⟨he,A⟩=>?_
 subst he;exact⟨_,rfl,_,_,_,[],_,[],d,trodAll_mk1 (shut_bool Tryz.underlying4 _),YS (by kernel_rfl) A (by kernel_rfl) s (λy D=>n y (List.mem_append_left _ D)),rfl,A.frame _,λh=>by cases h⟩
def aCd: (Rows.schedGoodRow.inPlace==Tryz.pinned.checked.prog.inPlace 5)=true:=by kernel_rfl
def aCe: (Rows.schedGoodRow.unfollowed==Tryz.pinned.checked.prog.unfollowed 5)=true:=by kernel_rfl
def aCf: (Rows.schedGoodRow.recurses==Tryz.pinned.checked.prog.recurses 5)=true:=by kernel_rfl
def aCg: (Rows.schedGoodRow.named==Tryz.pinned.checked.prog.varsNamed 5)=true:=by kernel_rfl
def aCh:joinedFacts Tryz.pinned.checked.prog 5 Tryz.f5 Rows.schedGoodSpec Rows.schedGoodRow=true:=by
 unfold joinedFacts;rw[aCd,aCe,aCf,aCg]
 kernel_rfl
def aCi:Tryz.pinned.checked.prog.funcNamed Rows.schedGoodRow.func=some 5:=by kernel_rfl
theorem aCj:Func.isInstance Tryz.pinned.checked.prog Tryz.f5 Rows.schedGoodRow.origin Rows.schedGoodRow.targs:=at1 (by kernel_rfl)
def aCk:Func.isWrapper Tryz.pinned.checked.prog Tryz.f5 Rows.schedGoodRow.wrapper Rows.schedGoodRow.mainSum:=by
 unfold Func.isWrapper;first| (rw[afl (by decide+kernel)];kernel_rfl)| (rw[afi (by decide+kernel)];exact⟨rfl,rfl⟩)
theorem aCl:Rows.SchedGoodSaid:=
 OpenClaim.holds_of_wide 5 Tryz.f5 rfl rfl rfl rfl rfl rfl rfl ⟨rfl,rfl,rfl,rfl,rfl⟩ rfl rfl rfl rfl rfl aCi Tryz.func5 aCh aCj aCk
  (λos started H enc _=>aCc os started H enc)
theorem schedGood_card:Rows.SchedGoodCardSaid:=
 Claim7.holds_tied_plain_at .later [] [.funcs,.funcs] true (true, "3cb085b54df9ae21e6a6cfd8b5ade78eed0912a9576105ab43e30a5112c9242a") true aCl (λ_ h=>by cases h) (by kernel_rfl) (λ_ h=>by cases h) schedGood_row_tie rfl ⟨rfl,rfl⟩ (by kernel_rfl) rfl
  (λf fn d b=>by
    obtain rfl:f=5:=amv ((show Tryz.prog.funcNamed "bailiwick/bailiwicklaw25.SchedGood" =some 5 by kernel_rfl).symm.trans d)|>.symm;obtain rfl:fn=Tryz.f5:=(amv (Tryz.func5.symm.trans b)).symm;exact⟨by kernel_rfl,λj t c=>by
     rw[Tryz.params5]at c;have hm:t∈[24,106,107]:=by simpa using Array.mem_of_getElem? c
     have a: ([24,106,107].all λu=>!Tryz.prog.wantsStandIn u)=true:=by kernel_rfl
     exact(show Tryz.prog.wantsStandIn t=false by simpa using ag6.1 a t hm)⟩)
  (by kernel_rfl)
#print axioms schedGood_card
end
end Go.Proofs.YteplichagkpciaaGreatDoor
