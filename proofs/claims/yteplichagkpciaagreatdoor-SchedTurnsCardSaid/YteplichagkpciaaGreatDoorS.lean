/- THE LAW SchedTurns: for every input it returns true; condition: the listed variables lie as the text lays them. -/
import Derived.Test.YteplichagkpciaaGreatDoorR
import Derived.Test.YteplichagkpciaaGreatDoorM3
set_option linter.all false
set_option maxRecDepth 10000
set_option maxHeartbeats 1000000
namespace Go.Proofs.YteplichagkpciaaGreatDoor
open Go Go.Den Go.RowKit Go.ChangeShapes Go.WideShapes Go.ChangeAt Go.Proofs.YteplichagkpciaaGreatDoor
section
set_option maxRecDepth 100000
def aCz(os:Os)(b:os.Started)(H:Type)(enc:TypeId×Value->H):
  ReturnsInHanded {} Tryz.checked os 6 .any (λw args=>(Rows.schedTurnsSpec.pre enc Tryz.prog Tryz.f6 [] false w args/\laidMetH Tryz.prog Rows.schedTurnsRow.laid w)/\sizedMet enc Tryz.prog Tryz.f6 (OpenSpec.ofChange Rows.schedTurnsSpec) false w args)
   (Rows.schedTurnsSpec.post enc Tryz.prog Tryz.f6 false true false false):=by
 refine returnsInHanded_of_change_and (C:=Tryz.checked) (X:=λw _=>laidMetH Tryz.prog Rows.schedTurnsRow.laid w) (λ_ _ _ B h=>h.of_heap B) own b (by kernel_rfl) Tryz.func6
  (ChangeSpec.witness_shaped (enc:=enc) (C:=Tryz.checked) (os:=os) (X:=λw _=>laidMetH Tryz.prog Rows.schedTurnsRow.laid w) false (World.doorLaid Tryz.prog 600 os) #[.agg #[.int .i64 0,.slice none 0 0,.string ⟨#[]⟩],.int .u8 0,.int .u16 0] 8 rfl (World.shaped_of_RefB (by kernel_rfl) (by kernel_rfl)) (by kernel_rfl) (by kernel_rfl) (by kernel_rfl) (aCr os _)) ?_
 intro W base args J gs before c z _ _ E _;have a: ∀ (j:Nat) t v,Tryz.f6.params[j]?=some t->args[j]?=some v->Value.okWide Tryz.prog W .any base t v:=c;have g:=z;obtain⟨p,q,o,D,rfl,_,_⟩:=z;have r:DataW.TrodAll enc Tryz.prog W 0 (λ_=>true) true Tryz.f6.params.toList args.toList J p:=o;have l:=g.lt;rw[Tryz.params6]at r a;obtain⟨v0,v1,v2,d0,d1,d2,M,L,K,rfl,rfl,rfl,I,G,F⟩:=trodAll_three r;obtain⟨rfl,rfl⟩:=trodVars_none D;obtain⟨aM,aC,aW,pv,i,k⟩:=aCy (a 0 24 v0 rfl rfl) I;obtain⟨u,rfl,n⟩:=u8op (a 1 5 v1 rfl rfl) G;obtain⟨s,rfl,m⟩:=aCw (a 2 107 v2 rfl rfl) F;refine(aCq E (f:=6) Tryz.func6 (by kernel_rfl) (by kernel_rfl) (args:=[.agg (dY aM pv aW),.int .u8 u,.int .u16 s]) ⟨_,_,rfl,i,_,_,rfl,rfl,_,_,rfl,rfl,rfl⟩
  (aB0 k u n s m)).mono λe N ⟨he,x⟩=>?_
 subst he;exact⟨_,rfl,_,_,_,[],_,[],g,trodAll_mk1 (shut_bool Tryz.underlying4 _),Zd (by kernel_rfl) x (by kernel_rfl) r (λy A=>l y (List.mem_append_left _ A)),rfl,x.frame _,λh=>by cases h⟩
def aCA: (Rows.schedTurnsRow.inPlace==Tryz.pinned.checked.prog.inPlace 6)=true:=by kernel_rfl
def aCB: (Rows.schedTurnsRow.unfollowed==Tryz.pinned.checked.prog.unfollowed 6)=true:=by kernel_rfl
def aCC: (Rows.schedTurnsRow.recurses==Tryz.pinned.checked.prog.recurses 6)=true:=by kernel_rfl
def aCD: (Rows.schedTurnsRow.named==Tryz.pinned.checked.prog.varsNamed 6)=true:=by kernel_rfl
def aCE:joinedFacts Tryz.pinned.checked.prog 6 Tryz.f6 Rows.schedTurnsSpec Rows.schedTurnsRow=true:=by
 unfold joinedFacts;rw[aCA,aCB,aCC,aCD]
 kernel_rfl
def aCF:Tryz.pinned.checked.prog.funcNamed Rows.schedTurnsRow.func=some 6:=by kernel_rfl
theorem aCG:Func.isInstance Tryz.pinned.checked.prog Tryz.f6 Rows.schedTurnsRow.origin Rows.schedTurnsRow.targs:=au4 (by kernel_rfl)
def aCH:Func.isWrapper Tryz.pinned.checked.prog Tryz.f6 Rows.schedTurnsRow.wrapper Rows.schedTurnsRow.mainSum:=by
 unfold Func.isWrapper;first| (rw[afJ (by decide+kernel)];kernel_rfl)| (rw[afB (by decide+kernel)];exact⟨rfl,rfl⟩)
theorem aCI:Rows.SchedTurnsSaid:=
 OpenClaim.holds_of_wide 6 Tryz.f6 rfl rfl rfl rfl rfl rfl rfl ⟨rfl,rfl,rfl,rfl,rfl⟩ rfl rfl rfl rfl rfl aCF Tryz.func6 aCE aCG aCH
  (λos started H enc _=>aCz os started H enc)
theorem schedTurns_card:Rows.SchedTurnsCardSaid:=
 Claim7.holds_tied_plain_at .later [] [.funcs,.funcs] true (true, "3cb085b54df9ae21e6a6cfd8b5ade78eed0912a9576105ab43e30a5112c9242a") true aCI (λ_ h=>by cases h) (by kernel_rfl) (λ_ h=>by cases h) schedTurns_row_tie rfl ⟨rfl,rfl⟩ (by kernel_rfl) rfl
  (λf fn d b=>by
    obtain rfl:f=6:=amP ((show Tryz.prog.funcNamed "bailiwick/bailiwicklaw25.SchedTurns" =some 6 by kernel_rfl).symm.trans d)|>.symm;obtain rfl:fn=Tryz.f6:=(amP (Tryz.func6.symm.trans b)).symm;exact⟨by kernel_rfl,λj t c=>by
     rw[Tryz.params6]at c;have hm:t∈[24,5,107]:=by simpa using Array.mem_of_getElem? c
     have a: ([24,5,107].all λu=>!Tryz.prog.wantsStandIn u)=true:=by kernel_rfl
     exact(show Tryz.prog.wantsStandIn t=false by simpa using ahp.1 a t hm)⟩)
  (by kernel_rfl)
#print axioms schedTurns_card
end
end Go.Proofs.YteplichagkpciaaGreatDoor
