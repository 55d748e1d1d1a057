/- THE LAW MachineAgain: for every input it returns true; condition: the listed variables lie as the text lays them. -/
import Derived.Test.YteplichagkpciaaGreatDoorR
set_option linter.all false
set_option maxRecDepth 10000
set_option maxHeartbeats 1000000
namespace Go.Proofs.YteplichagkpciaaGreatDoor
open Go Go.Den Go.RowKit Go.ChangeShapes Go.WideShapes Go.ChangeAt Go.Proofs.YteplichagkpciaaGreatDoor
section
set_option maxRecDepth 100000
def ax6(os:Os)(a:os.Started)(H:Type)(enc:TypeId×Value->H):
  ReturnsInHanded {} Tryz.checked os 8 .any (λw args=>(Rows.machineAgainSpec.pre enc Tryz.prog Tryz.f8 [] false w args/\laidMetH Tryz.prog Rows.machineAgainRow.laid w)/\sizedMet enc Tryz.prog Tryz.f8 (OpenSpec.ofChange Rows.machineAgainSpec) false w args)
   (Rows.machineAgainSpec.post enc Tryz.prog Tryz.f8 false true false false):=by
 refine returnsInHanded_of_change_and (C:=Tryz.checked) (X:=λw _=>laidMetH Tryz.prog Rows.machineAgainRow.laid w) (λ_ _ _ s h=>h.of_heap s) own a (by kernel_rfl) Tryz.func8
  (ChangeSpec.witness_shaped (enc:=enc) (C:=Tryz.checked) (os:=os) (X:=λw _=>laidMetH Tryz.prog Rows.machineAgainRow.laid w) false (World.doorLaid Tryz.prog 600 os) #[.agg #[.int .i64 0,.slice none 0 0,.string ⟨#[]⟩]] 8 rfl (World.shaped_of_RefB (by kernel_rfl) (by kernel_rfl)) (by kernel_rfl) (by kernel_rfl) (by kernel_rfl) (ax0 os _)) ?_
 intro W base args A gs before c o _ _ x _;have b: ∀ (j:Nat) t v,Tryz.f8.params[j]?=some t->args[j]?=some v->Value.okWide Tryz.prog W .any base t v:=c;have d:=o;obtain⟨p,q,l,u,rfl,_,_⟩:=o;have m:DataW.TrodAll enc Tryz.prog W 0 (λ_=>true) true Tryz.f8.params.toList args.toList A p:=l;have k:=d.lt;rw[Tryz.params8]at m b;obtain⟨v0,d0,rfl,rfl,z⟩:=trodAll_one m;obtain⟨rfl,rfl⟩:=trodVars_none u;obtain⟨aU,aC,aE,pv,g,i⟩:=ax5 (b 0 24 v0 rfl rfl) z;refine(axZ x (f:=8) Tryz.func8 (by kernel_rfl) (by kernel_rfl) (args:=[.agg (dL aU pv aE)]) ⟨_,_,rfl,g,rfl⟩
  (akH i)).mono λe B ⟨he,n⟩=>?_
 subst he;exact⟨_,rfl,_,_,_,[],_,[],d,trodAll_mk1 (shut_bool Tryz.underlying4 _),VN (by kernel_rfl) n (by kernel_rfl) m (λy r=>k y (List.mem_append_left _ r)),rfl,n.frame _,λh=>by cases h⟩
def ax7: (Rows.machineAgainRow.inPlace==Tryz.pinned.checked.prog.inPlace 8)=true:=by kernel_rfl
def ax8: (Rows.machineAgainRow.unfollowed==Tryz.pinned.checked.prog.unfollowed 8)=true:=by kernel_rfl
def ax9: (Rows.machineAgainRow.recurses==Tryz.pinned.checked.prog.recurses 8)=true:=by kernel_rfl
def aya: (Rows.machineAgainRow.named==Tryz.pinned.checked.prog.varsNamed 8)=true:=by kernel_rfl
def ayb:joinedFacts Tryz.pinned.checked.prog 8 Tryz.f8 Rows.machineAgainSpec Rows.machineAgainRow=true:=by
 unfold joinedFacts;rw[ax7,ax8,ax9,aya]
 kernel_rfl
def ayc:Tryz.pinned.checked.prog.funcNamed Rows.machineAgainRow.func=some 8:=by kernel_rfl
theorem ayd:Func.isInstance Tryz.pinned.checked.prog Tryz.f8 Rows.machineAgainRow.origin Rows.machineAgainRow.targs:=aoR (by kernel_rfl)
def aye:Func.isWrapper Tryz.pinned.checked.prog Tryz.f8 Rows.machineAgainRow.wrapper Rows.machineAgainRow.mainSum:=by
 unfold Func.isWrapper;first| (rw[acE (by decide+kernel)];kernel_rfl)| (rw[acz (by decide+kernel)];exact⟨rfl,rfl⟩)
def ayf:Rows.MachineAgainSaid:=
 OpenClaim.holds_of_wide 8 Tryz.f8 rfl rfl rfl rfl rfl rfl rfl ⟨rfl,rfl,rfl,rfl,rfl⟩ rfl rfl rfl rfl rfl ayc Tryz.func8 ayb ayd aye
  (λos started H enc _=>ax6 os started H enc)
theorem machineAgain_card:Rows.MachineAgainCardSaid:=
 Claim7.holds_tied_plain_at .later [] [.funcs] true (true, "3cb085b54df9ae21e6a6cfd8b5ade78eed0912a9576105ab43e30a5112c9242a") true ayf (λ_ h=>by cases h) (by kernel_rfl) (λ_ h=>by cases h) machineAgain_row_tie rfl ⟨rfl,rfl⟩ (by kernel_rfl) rfl
  (λf fn d b=>by
    obtain rfl:f=8:=ahJ ((show Tryz.prog.funcNamed "bailiwick/bailiwicklaw19.MachineAgain" =some 8 by kernel_rfl).symm.trans d)|>.symm;obtain rfl:fn=Tryz.f8:=(ahJ (Tryz.func8.symm.trans b)).symm;exact⟨by kernel_rfl,λj t c=>by
     rw[Tryz.params8]at c;have hm:t∈[24]:=by simpa using Array.mem_of_getElem? c
     have a: ([24].all λu=>!Tryz.prog.wantsStandIn u)=true:=by kernel_rfl
     exact(show Tryz.prog.wantsStandIn t=false by simpa using aes.1 a t hm)⟩)
  (by kernel_rfl)
#print axioms machineAgain_card
end
end Go.Proofs.YteplichagkpciaaGreatDoor
