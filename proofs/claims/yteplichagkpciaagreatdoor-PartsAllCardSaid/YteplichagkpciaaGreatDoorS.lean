/- THE LAW PartsAll: for every input it returns true; condition: the listed variables lie as the text lays them. -/
import Derived.Test.YteplichagkpciaaGreatDoorR
set_option linter.all false
set_option maxRecDepth 10000
set_option maxHeartbeats 1000000
namespace Go.Proofs.YteplichagkpciaaGreatDoor
open Go Go.Den Go.RowKit Go.ChangeShapes Go.WideShapes Go.ChangeAt Go.Proofs.YteplichagkpciaaGreatDoor
section
set_option maxRecDepth 100000
def aBy(os:Os)(a:os.Started)(H:Type)(enc:TypeId×Value->H):
  ReturnsInHanded {} Tryz.checked os 7 .any (λw args=>(Rows.partsAllSpec.pre enc Tryz.prog Tryz.f7 [] false w args/\laidMetH Tryz.prog Rows.partsAllRow.laid w)/\sizedMet enc Tryz.prog Tryz.f7 (OpenSpec.ofChange Rows.partsAllSpec) false w args)
   (Rows.partsAllSpec.post enc Tryz.prog Tryz.f7 false true false false):=by
 refine returnsInHanded_of_change_and (C:=Tryz.checked) (X:=λw _=>laidMetH Tryz.prog Rows.partsAllRow.laid w) (λ_ _ _ s h=>h.of_heap s) own a (by kernel_rfl) Tryz.func7
  (ChangeSpec.witness_shaped (enc:=enc) (C:=Tryz.checked) (os:=os) (X:=λw _=>laidMetH Tryz.prog Rows.partsAllRow.laid w) false (World.doorLaid Tryz.prog 600 os) #[.agg #[.int .i64 0,.slice none 0 0,.string ⟨#[]⟩]] 8 rfl (World.shaped_of_RefB (by kernel_rfl) (by kernel_rfl)) (by kernel_rfl) (by kernel_rfl) (by kernel_rfl) (aBs os _)) ?_
 intro W base args A gs before c o _ _ x _;have b: ∀ (j:Nat) t v,Tryz.f7.params[j]?=some t->args[j]?=some v->Value.okWide Tryz.prog W .any base t v:=c;have d:=o;obtain⟨p,q,l,u,rfl,_,_⟩:=o;have m:DataW.TrodAll enc Tryz.prog W 0 (λ_=>true) true Tryz.f7.params.toList args.toList A p:=l;have k:=d.lt;rw[Tryz.params7]at m b;obtain⟨v0,d0,rfl,rfl,z⟩:=trodAll_one m;obtain⟨rfl,rfl⟩:=trodVars_none u;obtain⟨aM,aK,aX,pv,g,i⟩:=aBx (b 0 24 v0 rfl rfl) z;refine(aBr x (f:=7) Tryz.func7 (by kernel_rfl) (by kernel_rfl) (args:=[.agg (dX aM pv aX)]) ⟨_,_,rfl,g,rfl⟩
  (aA4 i)).mono λe B ⟨he,n⟩=>?_
 subst he;exact⟨_,rfl,_,_,_,[],_,[],d,trodAll_mk1 (shut_bool Tryz.underlying4 _),W4 (by kernel_rfl) n (by kernel_rfl) m (λy r=>k y (List.mem_append_left _ r)),rfl,n.frame _,λh=>by cases h⟩
def aBz: (Rows.partsAllRow.inPlace==Tryz.pinned.checked.prog.inPlace 7)=true:=by kernel_rfl
def aBA: (Rows.partsAllRow.unfollowed==Tryz.pinned.checked.prog.unfollowed 7)=true:=by kernel_rfl
def aBB: (Rows.partsAllRow.recurses==Tryz.pinned.checked.prog.recurses 7)=true:=by kernel_rfl
def aBC: (Rows.partsAllRow.named==Tryz.pinned.checked.prog.varsNamed 7)=true:=by kernel_rfl
def aBD:joinedFacts Tryz.pinned.checked.prog 7 Tryz.f7 Rows.partsAllSpec Rows.partsAllRow=true:=by
 unfold joinedFacts;rw[aBz,aBA,aBB,aBC]
 kernel_rfl
def aBE:Tryz.pinned.checked.prog.funcNamed Rows.partsAllRow.func=some 7:=by kernel_rfl
theorem aBF:Func.isInstance Tryz.pinned.checked.prog Tryz.f7 Rows.partsAllRow.origin Rows.partsAllRow.targs:=axj (by kernel_rfl)
def aBG:Func.isWrapper Tryz.pinned.checked.prog Tryz.f7 Rows.partsAllRow.wrapper Rows.partsAllRow.mainSum:=by
 unfold Func.isWrapper;first| (rw[adG (by decide+kernel)];kernel_rfl)| (rw[adE (by decide+kernel)];exact⟨rfl,rfl⟩)
def aBH:Rows.PartsAllSaid:=
 OpenClaim.holds_of_wide 7 Tryz.f7 rfl rfl rfl rfl rfl rfl rfl ⟨rfl,rfl,rfl,rfl,rfl⟩ rfl rfl rfl rfl rfl aBE Tryz.func7 aBD aBF aBG
  (λos started H enc _=>aBy os started H enc)
theorem partsAll_card:Rows.PartsAllCardSaid:=
 Claim7.holds_tied_plain_at .later [] [.funcs] true (true, "3cb085b54df9ae21e6a6cfd8b5ade78eed0912a9576105ab43e30a5112c9242a") true aBH (λ_ h=>by cases h) (by kernel_rfl) (λ_ h=>by cases h) partsAll_row_tie rfl ⟨rfl,rfl⟩ (by kernel_rfl) rfl
  (λf fn d b=>by
    obtain rfl:f=7:=aiP ((show Tryz.prog.funcNamed "bailiwick/bailiwicklaw21.PartsAll" =some 7 by kernel_rfl).symm.trans d)|>.symm;obtain rfl:fn=Tryz.f7:=(aiP (Tryz.func7.symm.trans b)).symm;exact⟨by kernel_rfl,λj t c=>by
     rw[Tryz.params7]at c;have hm:t∈[24]:=by simpa using Array.mem_of_getElem? c
     have a: ([24].all λu=>!Tryz.prog.wantsStandIn u)=true:=by kernel_rfl
     exact(show Tryz.prog.wantsStandIn t=false by simpa using afy.1 a t hm)⟩)
  (by kernel_rfl)
#print axioms partsAll_card
end
end Go.Proofs.YteplichagkpciaaGreatDoor
