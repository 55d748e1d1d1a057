/- THE LAW TraceAgrees: for every input it returns true; condition: the listed variables lie as the text lays them. -/
import Derived.Test.YteplichagkpciaaGreatDoorR
set_option linter.all false
set_option maxRecDepth 10000
set_option maxHeartbeats 1000000
namespace Go.Proofs.YteplichagkpciaaGreatDoor
open Go Go.Den Go.RowKit Go.ChangeShapes Go.WideShapes Go.ChangeAt Go.Proofs.YteplichagkpciaaGreatDoor
section
set_option maxRecDepth 100000
def aAi(os:Os)(a:os.Started)(H:Type)(enc:TypeId×Value->H):
  ReturnsInHanded {} Tryz.checked os 3 .any (λw args=>(Rows.traceAgreesSpec.pre enc Tryz.prog Tryz.f3 [] false w args/\laidMetH Tryz.prog Rows.traceAgreesRow.laid w)/\sizedMet enc Tryz.prog Tryz.f3 (OpenSpec.ofChange Rows.traceAgreesSpec) false w args)
   (Rows.traceAgreesSpec.post enc Tryz.prog Tryz.f3 false true false false):=by
 refine returnsInHanded_of_change_and (C:=Tryz.checked) (X:=λw _=>laidMetH Tryz.prog Rows.traceAgreesRow.laid w) (λ_ _ _ s h=>h.of_heap s) own a (by kernel_rfl) Tryz.func3
  (ChangeSpec.witness_shaped (enc:=enc) (C:=Tryz.checked) (os:=os) (X:=λw _=>laidMetH Tryz.prog Rows.traceAgreesRow.laid w) false (World.doorLaid Tryz.prog 600 os) #[.agg #[.int .i64 0,.slice none 0 0,.string ⟨#[]⟩]] 8 rfl (World.shaped_of_RefB (by kernel_rfl) (by kernel_rfl)) (by kernel_rfl) (by kernel_rfl) (by kernel_rfl) (aAc os _)) ?_
 intro W base args A gs before c o _ _ x _;have b: ∀ (j:Nat) t v,Tryz.f3.params[j]?=some t->args[j]?=some v->Value.okWide Tryz.prog W .any base t v:=c;have d:=o;obtain⟨p,q,l,u,rfl,_,_⟩:=o;have m:DataW.TrodAll enc Tryz.prog W 0 (λ_=>true) true Tryz.f3.params.toList args.toList A p:=l;have k:=d.lt;rw[Tryz.params3]at m b;obtain⟨v0,d0,rfl,rfl,z⟩:=trodAll_one m;obtain⟨rfl,rfl⟩:=trodVars_none u;obtain⟨aS,aF,bh,pv,g,i⟩:=aAh (b 0 24 v0 rfl rfl) z;refine(aAb x (f:=3) Tryz.func3 (by kernel_rfl) (by kernel_rfl) (args:=[.agg (fA aS pv bh)]) ⟨_,_,rfl,g,rfl⟩
  (azO i)).mono λe B ⟨he,n⟩=>?_
 subst he;exact⟨_,rfl,_,_,_,[],_,[],d,trodAll_mk1 (shut_bool Tryz.underlying4 _),Wn (by kernel_rfl) n (by kernel_rfl) m (λy r=>k y (List.mem_append_left _ r)),rfl,n.frame _,λh=>by cases h⟩
def aAj: (Rows.traceAgreesRow.inPlace==Tryz.pinned.checked.prog.inPlace 3)=true:=by kernel_rfl
def aAk: (Rows.traceAgreesRow.unfollowed==Tryz.pinned.checked.prog.unfollowed 3)=true:=by kernel_rfl
def aAl: (Rows.traceAgreesRow.recurses==Tryz.pinned.checked.prog.recurses 3)=true:=by kernel_rfl
def aAm: (Rows.traceAgreesRow.named==Tryz.pinned.checked.prog.varsNamed 3)=true:=by kernel_rfl
def aAn:joinedFacts Tryz.pinned.checked.prog 3 Tryz.f3 Rows.traceAgreesSpec Rows.traceAgreesRow=true:=by
 unfold joinedFacts;rw[aAj,aAk,aAl,aAm]
 kernel_rfl
def aAo:Tryz.pinned.checked.prog.funcNamed Rows.traceAgreesRow.func=some 3:=by kernel_rfl
theorem aAp:Func.isInstance Tryz.pinned.checked.prog Tryz.f3 Rows.traceAgreesRow.origin Rows.traceAgreesRow.targs:=api (by kernel_rfl)
def aAq:Func.isWrapper Tryz.pinned.checked.prog Tryz.f3 Rows.traceAgreesRow.wrapper Rows.traceAgreesRow.mainSum:=by
 unfold Func.isWrapper;first| (rw[ac6 (by decide+kernel)];kernel_rfl)| (rw[ac0 (by decide+kernel)];exact⟨rfl,rfl⟩)
def aAr:Rows.TraceAgreesSaid:=
 OpenClaim.holds_of_wide 3 Tryz.f3 rfl rfl rfl rfl rfl rfl rfl ⟨rfl,rfl,rfl,rfl,rfl⟩ rfl rfl rfl rfl rfl aAo Tryz.func3 aAn aAp aAq
  (λos started H enc _=>aAi os started H enc)
theorem traceAgrees_card:Rows.TraceAgreesCardSaid:=
 Claim7.holds_tied_plain_at .later [] [.funcs] true (true, "3cb085b54df9ae21e6a6cfd8b5ade78eed0912a9576105ab43e30a5112c9242a") true aAr (λ_ h=>by cases h) (by kernel_rfl) (λ_ h=>by cases h) traceAgrees_row_tie rfl ⟨rfl,rfl⟩ (by kernel_rfl) rfl
  (λf fn d b=>by
    obtain rfl:f=3:=ah8 ((show Tryz.prog.funcNamed "bailiwick/bailiwicklaw20.TraceAgrees" =some 3 by kernel_rfl).symm.trans d)|>.symm;obtain rfl:fn=Tryz.f3:=(ah8 (Tryz.func3.symm.trans b)).symm;exact⟨by kernel_rfl,λj t c=>by
     rw[Tryz.params3]at c;have hm:t∈[24]:=by simpa using Array.mem_of_getElem? c
     have a: ([24].all λu=>!Tryz.prog.wantsStandIn u)=true:=by kernel_rfl
     exact(show Tryz.prog.wantsStandIn t=false by simpa using aeT.1 a t hm)⟩)
  (by kernel_rfl)
#print axioms traceAgrees_card
end
end Go.Proofs.YteplichagkpciaaGreatDoor
