/- THE LAW ReportTells: for every input it returns true; condition: the listed variables lie as the text lays them. -/
import Derived.Test.YtcdeobefbpnfeaaGreatDoorR
set_option linter.all false
set_option maxRecDepth 10000
set_option maxHeartbeats 1000000
namespace Go.Proofs.YtcdeobefbpnfeaaGreatDoor
open Go Go.Den Go.RowKit Go.ChangeShapes Go.WideShapes Go.ChangeAt Go.Proofs.YtcdeobefbpnfeaaGreatDoor
section
set_option maxRecDepth 100000
def aBl(os:Os)(a:os.Started)(H:Type)(enc:TypeId×Value->H):
  ReturnsInHanded {} Tryz.checked os 3 .any (λw args=>(Rows.reportTellsSpec.pre enc Tryz.prog Tryz.f3 [] false w args/\laidMetH Tryz.prog Rows.reportTellsRow.laid w)/\sizedMet enc Tryz.prog Tryz.f3 (OpenSpec.ofChange Rows.reportTellsSpec) false w args)
   (Rows.reportTellsSpec.post enc Tryz.prog Tryz.f3 false true false false):=by
 refine returnsInHanded_of_change_and (C:=Tryz.checked) (X:=λw _=>laidMetH Tryz.prog Rows.reportTellsRow.laid w) (λ_ _ _ s h=>h.of_heap s) own a (by kernel_rfl) Tryz.func3
  (ChangeSpec.witness_shaped (enc:=enc) (C:=Tryz.checked) (os:=os) (X:=λw _=>laidMetH Tryz.prog Rows.reportTellsRow.laid w) false (World.doorLaid Tryz.prog 600 os) #[.agg #[.int .i64 0,.slice none 0 0,.string ⟨#[]⟩]] 8 rfl (World.shaped_of_RefB (by kernel_rfl) (by kernel_rfl)) (by kernel_rfl) (by kernel_rfl) (by kernel_rfl) (aBf os _)) ?_
 intro W base args A gs before c o _ _ x _;have b: ∀ (j:Nat) t v,Tryz.f3.params[j]?=some t->args[j]?=some v->Value.okWide Tryz.prog W .any base t v:=c;have d:=o;obtain⟨p,q,l,u,rfl,_,_⟩:=o;have m:DataW.TrodAll enc Tryz.prog W 0 (λ_=>true) true Tryz.f3.params.toList args.toList A p:=l;have k:=d.lt;rw[Tryz.params3]at m b;obtain⟨v0,d0,rfl,rfl,z⟩:=trodAll_one m;obtain⟨rfl,rfl⟩:=trodVars_none u;obtain⟨aL,aF,aK,pv,g,i⟩:=aBk (b 0 24 v0 rfl rfl) z;refine(aBe x (f:=3) Tryz.func3 (by kernel_rfl) (by kernel_rfl) (args:=[.agg (fu aL pv aK)]) ⟨_,_,rfl,g,rfl⟩
  (aAR i)).mono λe B ⟨he,n⟩=>?_
 subst he;exact⟨_,rfl,_,_,_,[],_,[],d,trodAll_mk1 (shut_bool Tryz.underlying4 _),XX (by kernel_rfl) n (by kernel_rfl) m (λy r=>k y (List.mem_append_left _ r)),rfl,n.frame _,λh=>by cases h⟩
def aBm: (Rows.reportTellsRow.inPlace==Tryz.pinned.checked.prog.inPlace 3)=true:=by kernel_rfl
def aBn: (Rows.reportTellsRow.unfollowed==Tryz.pinned.checked.prog.unfollowed 3)=true:=by kernel_rfl
def aBo: (Rows.reportTellsRow.recurses==Tryz.pinned.checked.prog.recurses 3)=true:=by kernel_rfl
def aBp: (Rows.reportTellsRow.named==Tryz.pinned.checked.prog.varsNamed 3)=true:=by kernel_rfl
def aBq:joinedFacts Tryz.pinned.checked.prog 3 Tryz.f3 Rows.reportTellsSpec Rows.reportTellsRow=true:=by
 unfold joinedFacts;rw[aBm,aBn,aBo,aBp]
 kernel_rfl
def aBr:Tryz.pinned.checked.prog.funcNamed Rows.reportTellsRow.func=some 3:=by kernel_rfl
theorem aBs:Func.isInstance Tryz.pinned.checked.prog Tryz.f3 Rows.reportTellsRow.origin Rows.reportTellsRow.targs:=aqA (by kernel_rfl)
def aBt:Func.isWrapper Tryz.pinned.checked.prog Tryz.f3 Rows.reportTellsRow.wrapper Rows.reportTellsRow.mainSum:=by
 unfold Func.isWrapper;first| (rw[aez (by decide+kernel)];kernel_rfl)| (rw[aeu (by decide+kernel)];exact⟨rfl,rfl⟩)
def aBu:Rows.ReportTellsSaid:=
 OpenClaim.holds_of_wide 3 Tryz.f3 rfl rfl rfl rfl rfl rfl rfl ⟨rfl,rfl,rfl,rfl,rfl⟩ rfl rfl rfl rfl rfl aBr Tryz.func3 aBq aBs aBt
  (λos started H enc _=>aBl os started H enc)
theorem reportTells_card:Rows.ReportTellsCardSaid:=
 Claim7.holds_tied_plain_at .later [] [.funcs] true (true, "5cafea41e4d83db817d8e46360efb16c88580c58339ae204ee19ba329f1e190d") true aBu (λ_ h=>by cases h) (by kernel_rfl) (λ_ h=>by cases h) reportTells_row_tie rfl ⟨rfl,rfl⟩ (by kernel_rfl) rfl
  (λf fn d b=>by
    obtain rfl:f=3:=ajL ((show Tryz.prog.funcNamed "bailiwick/bailiwicklaw22.ReportTells" =some 3 by kernel_rfl).symm.trans d)|>.symm;obtain rfl:fn=Tryz.f3:=(ajL (Tryz.func3.symm.trans b)).symm;exact⟨by kernel_rfl,λj t c=>by
     rw[Tryz.params3]at c;have hm:t∈[24]:=by simpa using Array.mem_of_getElem? c
     have a: ([24].all λu=>!Tryz.prog.wantsStandIn u)=true:=by kernel_rfl
     exact(show Tryz.prog.wantsStandIn t=false by simpa using agx.1 a t hm)⟩)
  (by kernel_rfl)
#print axioms reportTells_card
end
end Go.Proofs.YtcdeobefbpnfeaaGreatDoor
