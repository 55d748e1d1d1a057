/- THE LAW PartsTell: for every input it returns true; condition: the listed variables lie as the text lays them. -/
import Derived.Test.YteplichagkpciaaGreatDoorR
import Derived.Test.YteplichagkpciaaGreatDoorM3
set_option linter.all false
set_option maxRecDepth 10000
set_option maxHeartbeats 1000000
namespace Go.Proofs.YteplichagkpciaaGreatDoor
open Go Go.Den Go.RowKit Go.ChangeShapes Go.WideShapes Go.ChangeAt Go.Proofs.YteplichagkpciaaGreatDoor
section
set_option maxRecDepth 100000
def aBU(os:Os)(a:os.Started)(H:Type)(enc:TypeId×Value->H):
  ReturnsInHanded {} Tryz.checked os 9 .any (λw args=>(Rows.partsTellSpec.pre enc Tryz.prog Tryz.f9 [] false w args/\laidMetH Tryz.prog Rows.partsTellRow.laid w)/\sizedMet enc Tryz.prog Tryz.f9 (OpenSpec.ofChange Rows.partsTellSpec) false w args)
   (Rows.partsTellSpec.post enc Tryz.prog Tryz.f9 false true false false):=by
 refine returnsInHanded_of_change_and (C:=Tryz.checked) (X:=λw _=>laidMetH Tryz.prog Rows.partsTellRow.laid w) (λ_ _ _ s h=>h.of_heap s) own a (by kernel_rfl) Tryz.func9
  (ChangeSpec.witness_shaped (enc:=enc) (C:=Tryz.checked) (os:=os) (X:=λw _=>laidMetH Tryz.prog Rows.partsTellRow.laid w) false (World.doorLaid Tryz.prog 600 os) #[.agg #[.int .i64 0,.slice none 0 0,.string ⟨#[]⟩]] 8 rfl (World.shaped_of_RefB (by kernel_rfl) (by kernel_rfl)) (by kernel_rfl) (by kernel_rfl) (by kernel_rfl) (aBO os _)) ?_
 intro W base args A gs before c o _ _ x _;have b: ∀ (j:Nat) t v,Tryz.f9.params[j]?=some t->args[j]?=some v->Value.okWide Tryz.prog W .any base t v:=c;have d:=o;obtain⟨p,q,l,u,rfl,_,_⟩:=o;have m:DataW.TrodAll enc Tryz.prog W 0 (λ_=>true) true Tryz.f9.params.toList args.toList A p:=l;have k:=d.lt;rw[Tryz.params9]at m b;obtain⟨v0,d0,rfl,rfl,z⟩:=trodAll_one m;obtain⟨rfl,rfl⟩:=trodVars_none u;obtain⟨aI,aD,bb,pv,g,i⟩:=aBT (b 0 24 v0 rfl rfl) z;refine(aBN x (f:=9) Tryz.func9 (by kernel_rfl) (by kernel_rfl) (args:=[.agg (eA aI pv bb)]) ⟨_,_,rfl,g,rfl⟩
  (aBq i)).mono λe B ⟨he,n⟩=>?_
 subst he;exact⟨_,rfl,_,_,_,[],_,[],d,trodAll_mk1 (shut_bool Tryz.underlying4 _),Xm (by kernel_rfl) n (by kernel_rfl) m (λy r=>k y (List.mem_append_left _ r)),rfl,n.frame _,λh=>by cases h⟩
def aBV: (Rows.partsTellRow.inPlace==Tryz.pinned.checked.prog.inPlace 9)=true:=by kernel_rfl
def aBW: (Rows.partsTellRow.unfollowed==Tryz.pinned.checked.prog.unfollowed 9)=true:=by kernel_rfl
def aBX: (Rows.partsTellRow.recurses==Tryz.pinned.checked.prog.recurses 9)=true:=by kernel_rfl
def aBY: (Rows.partsTellRow.named==Tryz.pinned.checked.prog.varsNamed 9)=true:=by kernel_rfl
def aBZ:joinedFacts Tryz.pinned.checked.prog 9 Tryz.f9 Rows.partsTellSpec Rows.partsTellRow=true:=by
 unfold joinedFacts;rw[aBV,aBW,aBX,aBY]
 kernel_rfl
def aB0:Tryz.pinned.checked.prog.funcNamed Rows.partsTellRow.func=some 9:=by kernel_rfl
theorem aB1:Func.isInstance Tryz.pinned.checked.prog Tryz.f9 Rows.partsTellRow.origin Rows.partsTellRow.targs:=axU (by kernel_rfl)
def aB2:Func.isWrapper Tryz.pinned.checked.prog Tryz.f9 Rows.partsTellRow.wrapper Rows.partsTellRow.mainSum:=by
 unfold Func.isWrapper;first| (rw[adY (by decide+kernel)];kernel_rfl)| (rw[adU (by decide+kernel)];exact⟨rfl,rfl⟩)
def aB3:Rows.PartsTellSaid:=
 OpenClaim.holds_of_wide 9 Tryz.f9 rfl rfl rfl rfl rfl rfl rfl ⟨rfl,rfl,rfl,rfl,rfl⟩ rfl rfl rfl rfl rfl aB0 Tryz.func9 aBZ aB1 aB2
  (λos started H enc _=>aBU os started H enc)
theorem partsTell_card:Rows.PartsTellCardSaid:=
 Claim7.holds_tied_plain_at .later [] [.funcs] true (true, "3cb085b54df9ae21e6a6cfd8b5ade78eed0912a9576105ab43e30a5112c9242a") true aB3 (λ_ h=>by cases h) (by kernel_rfl) (λ_ h=>by cases h) partsTell_row_tie rfl ⟨rfl,rfl⟩ (by kernel_rfl) rfl
  (λf fn d b=>by
    obtain rfl:f=9:=akn ((show Tryz.prog.funcNamed "bailiwick/bailiwicklaw21.PartsTell" =some 9 by kernel_rfl).symm.trans d)|>.symm;obtain rfl:fn=Tryz.f9:=(akn (Tryz.func9.symm.trans b)).symm;exact⟨by kernel_rfl,λj t c=>by
     rw[Tryz.params9]at c;have hm:t∈[24]:=by simpa using Array.mem_of_getElem? c
     have a: ([24].all λu=>!Tryz.prog.wantsStandIn u)=true:=by kernel_rfl
     exact(show Tryz.prog.wantsStandIn t=false by simpa using afP.1 a t hm)⟩)
  (by kernel_rfl)
#print axioms partsTell_card
end
end Go.Proofs.YteplichagkpciaaGreatDoor
