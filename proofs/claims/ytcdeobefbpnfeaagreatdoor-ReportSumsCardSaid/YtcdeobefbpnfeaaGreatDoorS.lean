/- THE LAW ReportSums: for every input it returns true; condition: the listed variables lie as the text lays them. -/
import Derived.Test.YtcdeobefbpnfeaaGreatDoorR
set_option linter.all false
set_option maxRecDepth 10000
set_option maxHeartbeats 1000000
namespace Go.Proofs.YtcdeobefbpnfeaaGreatDoor
open Go Go.Den Go.RowKit Go.ChangeShapes Go.WideShapes Go.ChangeAt Go.Proofs.YtcdeobefbpnfeaaGreatDoor
section
set_option maxRecDepth 100000
def aBp(os:Os)(a:os.Started)(H:Type)(enc:TypeId×Value->H):
  ReturnsInHanded {} Tryz.checked os 4 .any (λw args=>(Rows.reportSumsSpec.pre enc Tryz.prog Tryz.f4 [] false w args/\laidMetH Tryz.prog Rows.reportSumsRow.laid w)/\sizedMet enc Tryz.prog Tryz.f4 (OpenSpec.ofChange Rows.reportSumsSpec) false w args)
   (Rows.reportSumsSpec.post enc Tryz.prog Tryz.f4 false true false false):=by
 refine returnsInHanded_of_change_and (C:=Tryz.checked) (X:=λw _=>laidMetH Tryz.prog Rows.reportSumsRow.laid w) (λ_ _ _ s h=>h.of_heap s) own a (by kernel_rfl) Tryz.func4
  (ChangeSpec.witness_shaped (enc:=enc) (C:=Tryz.checked) (os:=os) (X:=λw _=>laidMetH Tryz.prog Rows.reportSumsRow.laid w) false (World.doorLaid Tryz.prog 600 os) #[.agg #[.int .i64 0,.slice none 0 0,.string ⟨#[]⟩]] 8 rfl (World.shaped_of_RefB (by kernel_rfl) (by kernel_rfl)) (by kernel_rfl) (by kernel_rfl) (by kernel_rfl) (aBj os _)) ?_
 intro W base args A gs before c o _ _ x _;have b: ∀ (j:Nat) t v,Tryz.f4.params[j]?=some t->args[j]?=some v->Value.okWide Tryz.prog W .any base t v:=c;have d:=o;obtain⟨p,q,l,u,rfl,_,_⟩:=o;have m:DataW.TrodAll enc Tryz.prog W 0 (λ_=>true) true Tryz.f4.params.toList args.toList A p:=l;have k:=d.lt;rw[Tryz.params4]at m b;obtain⟨v0,d0,rfl,rfl,z⟩:=trodAll_one m;obtain⟨rfl,rfl⟩:=trodVars_none u;obtain⟨aM,aE,aJ,pv,g,i⟩:=aBo (b 0 24 v0 rfl rfl) z;refine(aBi x (f:=4) Tryz.func4 (by kernel_rfl) (by kernel_rfl) (args:=[.agg (fg aM pv aJ)]) ⟨_,_,rfl,g,rfl⟩
  (aAV i)).mono λe B ⟨he,n⟩=>?_
 subst he;exact⟨_,rfl,_,_,_,[],_,[],d,trodAll_mk1 (shut_bool Tryz.underlying4 _),Xh (by kernel_rfl) n (by kernel_rfl) m (λy r=>k y (List.mem_append_left _ r)),rfl,n.frame _,λh=>by cases h⟩
def aBq: (Rows.reportSumsRow.inPlace==Tryz.pinned.checked.prog.inPlace 4)=true:=by kernel_rfl
def aBr: (Rows.reportSumsRow.unfollowed==Tryz.pinned.checked.prog.unfollowed 4)=true:=by kernel_rfl
def aBs: (Rows.reportSumsRow.recurses==Tryz.pinned.checked.prog.recurses 4)=true:=by kernel_rfl
def aBt: (Rows.reportSumsRow.named==Tryz.pinned.checked.prog.varsNamed 4)=true:=by kernel_rfl
def aBu:joinedFacts Tryz.pinned.checked.prog 4 Tryz.f4 Rows.reportSumsSpec Rows.reportSumsRow=true:=by
 unfold joinedFacts;rw[aBq,aBr,aBs,aBt]
 kernel_rfl
def aBv:Tryz.pinned.checked.prog.funcNamed Rows.reportSumsRow.func=some 4:=by kernel_rfl
theorem aBw:Func.isInstance Tryz.pinned.checked.prog Tryz.f4 Rows.reportSumsRow.origin Rows.reportSumsRow.targs:=aqQ (by kernel_rfl)
def aBx:Func.isWrapper Tryz.pinned.checked.prog Tryz.f4 Rows.reportSumsRow.wrapper Rows.reportSumsRow.mainSum:=by
 unfold Func.isWrapper;first| (rw[adV (by decide+kernel)];kernel_rfl)| (rw[ada (by decide+kernel)];exact⟨rfl,rfl⟩)
def aBy:Rows.ReportSumsSaid:=
 OpenClaim.holds_of_wide 4 Tryz.f4 rfl rfl rfl rfl rfl rfl rfl ⟨rfl,rfl,rfl,rfl,rfl⟩ rfl rfl rfl rfl rfl aBv Tryz.func4 aBu aBw aBx
  (λos started H enc _=>aBp os started H enc)
theorem reportSums_card:Rows.ReportSumsCardSaid:=
 Claim7.holds_tied_plain_at .later [] [.funcs] true (true, "5cafea41e4d83db817d8e46360efb16c88580c58339ae204ee19ba329f1e190d") true aBy (λ_ h=>by cases h) (by kernel_rfl) (λ_ h=>by cases h) reportSums_row_tie rfl ⟨rfl,rfl⟩ (by kernel_rfl) rfl
  (λf fn d b=>by
    obtain rfl:f=4:=akw ((show Tryz.prog.funcNamed "bailiwick/bailiwicklaw22.ReportSums" =some 4 by kernel_rfl).symm.trans d)|>.symm;obtain rfl:fn=Tryz.f4:=(akw (Tryz.func4.symm.trans b)).symm;exact⟨by kernel_rfl,λj t c=>by
     rw[Tryz.params4]at c;have hm:t∈[24]:=by simpa using Array.mem_of_getElem? c
     have a: ([24].all λu=>!Tryz.prog.wantsStandIn u)=true:=by kernel_rfl
     exact(show Tryz.prog.wantsStandIn t=false by simpa using afQ.1 a t hm)⟩)
  (by kernel_rfl)
#print axioms reportSums_card
end
end Go.Proofs.YtcdeobefbpnfeaaGreatDoor
