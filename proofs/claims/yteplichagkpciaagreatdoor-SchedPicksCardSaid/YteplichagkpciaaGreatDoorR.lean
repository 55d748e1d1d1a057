/- Variables and arguments of the law. -/
import Derived.Test.YteplichagkpciaaGreatDoorM3
import Derived.Test.YteplichagkpciaaGreatDoorK3
import Derived.Test.YteplichagkpciaaGreatDoorD2
import Derived.Test.YteplichagkpciaaGreatDoorTie
import Derived.Test.YteplichagkpciaaGreatDoorCards
import Derived.ProofKit
import Derived.Lay
import Derived.LaidMore
import Derived.ChangeShapes
import Derived.SevenTiedAt
import Derived.Stop.Joined
set_option linter.all false
set_option maxRecDepth 10000
set_option maxHeartbeats 1000000
namespace Go.Proofs.YteplichagkpciaaGreatDoor
open Go Go.Den Go.RowKit Go.ChangeShapes Go.WideShapes Go.ChangeAt Go.Proofs.YteplichagkpciaaGreatDoor
variable{f:Nat}
section
set_option maxRecDepth 100000
theorem own:ownKnob Tryz.prog.godebug=none:=by rfl
theorem Pu{α:Type}{k:Nat}{v:α}: ∀ {l:List (Nat×α)},l.lookup k=some v->(k,v)∈l
 | [],h=>by cases h
 | (a,b)::l,h=>by
   rw[List.lookup_cons]at h;split at h
   ·grind
   ·exact ajH _ (Pu h)
noncomputable def aqB(a:lB):lN:=(List.range Tryz.prog.funcs.size).filter λf=>(Tryz.prog.funcs[f]?).any (·.name.toUTF8.data.toList==a)
def aEV:xE.all (λx=>aqB x.2.1==[x.2.2])=true:=by kernel_rfl
theorem aEW:xE.all (λx=>!x.2.1.isEmpty)=true:=by rfl
def aEX:xE.Pairwise λx y=>x.1≠y.1:=by decide
def aEY:xD.all (λx=>aqB x.2.1==[x.2.2])=true:=by kernel_rfl
theorem aEZ:xD.all (λx=>!x.2.1.isEmpty)=true:=by rfl
def aE0:xD.Pairwise λx y=>x.1≠y.1:=by decide
abbrev Laid(W:World):Prop:=laidMetH Tryz.prog Rows.schedGoodRow.laid W
abbrev Pv(W:World)(g:Nat)(es:List (AV×AV)):Prop:=g<W.heap.size/\ ∃a r ms clock,r<W.heap.size/\W.cell? ⟨g,0,none⟩=some (.map (some r))/\W.heap[r]?=some (.map ms clock)/\fI (G0 W.heap.size W) a ms.toList/\ ∀k v,ea k es=some v->ea k a=some v
def aE1{W:World}(h:Laid W):Pv W vq (rh xE):=
 ahS (h.funcs ald) rfl (by rfl) (t:=244) (by rfl) Tryz.underlying244 Tryz.underlying5 Tryz.underlying242
  (λx a=>by have:=ajD.1 aEV x a;exact aup.1 this) (λx a e=>by have:=ajD.1 aEW x a;grind) aEX
def aE2{W:World}(h:Laid W):Pv W vo (rh xD):=
 ahS (h.funcs (ajH _ ald)) rfl (by rfl) (t:=168) (by rfl) Tryz.underlying168 Tryz.underlying5 Tryz.underlying166
  (λx a=>by have:=ajD.1 aEY x a;exact aup.1 this) (λx a e=>by have:=ajD.1 aEZ x a;grind) aE0
def aE3{W:World}{g:Nat}{es:List (AV×AV)}(h:Pv W g es):g<W.heap.size/\ ∃vs:List Value,(∀ (j:Nat) v,vs[j]?=some v->W.cell? ⟨g,j,none⟩=some v)/\Den.Leaves vs/\Den.aD (G0 W.heap.size W) [AV.jh g] vs:=by
 obtain⟨b,c,r,ms,clock,l,k,i,f,e⟩:=h;refine⟨b,[.map (some r)],λj v m=>?_,λv a=>by simp at a;subst a;rfl,aD.single.2 ⟨⟨r,rfl⟩,?_⟩⟩
 ·grind
 ·show(if g<W.heap.size then W.cell? ⟨g,0,none⟩else none)=_
  grind
def aqC{W:World}(h:Laid W): ∀g t,CT.lookup g=some t->Pv W g (rh t):=λg t hg=>by
 have hm:=Pu hg;simp only[CT,ajR,asj,List.mem_nil_iff,or_false]at hm;rcases hm with⟨rfl,rfl⟩| ⟨rfl,rfl⟩
 ·exact aE2 h
 ·exact aE1 h
def aqD{W:World}(h:Laid W):fz X0 W.heap.size W:=by
 refine⟨λg cs hg=>?_,λg es hg=>?_⟩
 ·obtain⟨t,a,rfl⟩:=ah3.1 (show(CT.lookup g).map (λ_=>[AV.jh g])=some cs from hg);exact aE3 (aqC h g t a)
 ·obtain⟨t,a,rfl⟩:=ah3.1 (show(CT.lookup g).map rh=some es from hg);exact aqC h g t a
def qL:pG Tryz.prog X0:=λf pf h=>by
 have a: (if kL.contains f then none else zX.lookup f)=some pf:=h;split at a
 ·grind
 ·exact ajy _ (Pu a)
def cW{pf:PF}(h:zX.lookup f=some pf):eP Tryz.prog f pf:=ajy _ (Pu h)
def ZW:Ri Tryz.prog x9:=λg pr h=>by
 have a: (if g=zk then some xA else if g=BA then some xx else none)=some pr:=h;split at a
 ·rename_i e;cases a;subst e;exact⟨false,Tryz.f308,Tryz.func308,au8⟩
 split at a
 ·rename_i e;cases a;subst e;exact⟨false,Tryz.f115,Tryz.func115,au5⟩
 grind
section
variable{B:Nat}{w:World}
def eY{g:Nat}{p q:lA->AS->Option aS}{R:Option (lA->AS->Option aS)}(b:gj Tryz.prog B w g q)(a:R=some p->gj Tryz.prog B w f p)(h: (if f=g then some q else R)=some p):gj Tryz.prog B w f p:=by grind
abbrev uO(B:Nat)(w:World)(X:Ctx):Prop:= ∀f p,X.bZ f=some p->gj Tryz.prog B w f p
variable(hg:fz X0 B w)
include hg
theorem AI:gj Tryz.prog B w iM ml:=wV hg qL (λf p h=>by cases h) (cW (by rfl))
theorem aE4:uO B w X1:=λf p h=>eY (AI hg) (λh=>by cases h) h
theorem DS:gj Tryz.prog B w ke nQ:=wV (X:=X1) hg qL (aE4 hg) (cW (by rfl))
theorem aE5:uO B w X2:=λf p h=>eY (AI hg) (eY (DS hg) (λh=>by cases h)) h
theorem Im:gj Tryz.prog B w mI qy:=wV (X:=X2) hg qL (aE5 hg) (cW (by rfl))
theorem aE6:uO B w X3:=λf p h=>eY (AI hg) (eY (DS hg) (eY (Im hg) (λh=>by cases h))) h
theorem Pw:gj Tryz.prog B w ng sb:=wV (X:=X3) hg qL (aE6 hg) (cW (by rfl))
theorem aE7:uO B w X4:=λf p h=>eY (AI hg) (eY (DS hg) (eY (Im hg) (eY (Pw hg) (λh=>by cases h)))) h
theorem ZX:gj Tryz.prog B w rl xS:=wV (X:=X4) hg qL (aE7 hg) (cW (by rfl))
theorem aE8:uO B w X5:=λf p h=>eY (AI hg) (eY (DS hg) (eY (Im hg) (eY (Pw hg) (eY (ZX hg) (λh=>by cases h))))) h
theorem aqE:gj Tryz.prog B w sV An:=wV (X:=X5) hg qL (aE8 hg) (cW (by rfl))
theorem aE9:uO B w X6:=λf p h=>eY (AI hg) (eY (DS hg) (eY (Im hg) (eY (Pw hg) (eY (ZX hg) (eY (aqE hg) (λh=>by cases h)))))) h
theorem aFa:gj Tryz.prog B w pR Dc:=wV (X:=X6) hg qL (aE9 hg) (cW (by rfl))
theorem ZY:uO B w X:=λf p h=>eY (AI hg) (eY (DS hg) (eY (Im hg) (eY (Pw hg) (eY (ZX hg) (eY (aqE hg) (eY (aFa hg) (λh=>by cases h))))))) h
theorem aFb:gj Tryz.prog B w zj Dm:=Rn (X:=X) hg qL (ZY hg) ZW Tryz.func307 au7
theorem aFc:gj Tryz.prog B w zi Dn:=Rn (X:=X) hg qL (ZY hg) ZW Tryz.func275 au6
theorem aqF:uO B w XA:=λf p h=>eY (aFb hg) (eY (aFc hg) (ZY hg f p)) h
theorem aFd:gj Tryz.prog B w wY HL:=Rn (X:=XA) hg qL (aqF hg) ZW Tryz.func91 au4
theorem aqG:uO B w XB:=λf p h=>eY (aFd hg) (aqF hg f p) h
theorem aFe:gj Tryz.prog B w pQ HP:=wV (X:=XB) hg qL (aqG hg) (cW (by rfl))
theorem aFf:uO B w XC:=λf p h=>eY (aFe hg) (eY (aEU B w) (aqG hg f p)) h
end
def aFg{W:World}(g:Laid W){f:FuncId}{fn:Func}(c:Tryz.prog.funcs[f]?=some fn)(l:fn.body.isSome=true)(b: (fn.name== "runtime.NumGoroutine")=false)
  {args:lA} {a:Array Value} (j:aD (Gh.start W) args a.toList) (h: ∃E,D XC (.fn (.func f) [] []) args ⟨[],none⟩=some (.ret (.bool true) E)):
  Calls Tryz.prog f a W λe w'=>e= .returned (.bool true)/\Below W.heap.size W w':=by
 obtain⟨E,h⟩:=h;refine(as2 (X:=XC) (aqD g) qL (aFf (aqD g)) c l b j h).mono ?_;rintro e w' ⟨G,v',rfl,i,k⟩;obtain rfl:v'= .bool true:=i
 grind
def aFh(os:Os)(args:Array Value):Laid ((World.doorLaid Tryz.prog 600 os).forCall (λ_ _=>0) ⟨#[],args,[]⟩).memory:=
 laidMetH_of_parts3 (fuel:=8) (laidMet_of_run' 8 (by kernel_rfl) (by kernel_rfl)) (by kernel_rfl) (by kernel_rfl)
section
variable{H:Type}{enc:TypeId×Value->H}{W:World}{sp:Nat->Bool}{held:Bool}{base:Nat}{v:Value}{d:DataW H}{ps:List MemPlace}
def AJ{t:Nat}{k:IntKind}{b:lA}{lo a:Int}(c:Tryz.prog.underlying t=some (.int k))(h:gk Tryz.prog (f+1) t d b)(e: ∀n,(Lit.int k n).wf=true->lo<=n/\n<=a): ∃n:Int,b=[.int k n]/\lo<=n/\n<=a:=by
 unfold gk at h
 grind
def ZZ(n:Int)(h: (Lit.int .u8 n).wf=true):0<=n/\n<=255:=by simpa[Lit.wf,IntKind.min,IntKind.max,IntKind.signed,IntKind.bits]using h
def aFi(n:Int)(h: (Lit.int .u16 n).wf=true):0<=n/\n<=65535:=by simpa[Lit.wf,IntKind.min,IntKind.max,IntKind.signed,IntKind.bits]using h
def aFj(n:Int)(h: (Lit.int .u64 n).wf=true):0<=n/\n<=18446744073709551615:=by simpa[Lit.wf,IntKind.min,IntKind.max,IntKind.signed,IntKind.bits]using h
def Z0(n:Int)(h: (Lit.int .i64 n).wf=true): -9223372036854775808<=n/\n<=9223372036854775807:=by simpa[Lit.wf,IntKind.min,IntKind.max,IntKind.signed,IntKind.bits]using h
def aqH{α:Type}{e sz:Nat}{g:α->lA}{p:α->Prop}{es:List (DataW H)}{af:List lA}(j:es.length=af.length)(h: ∀ (i:Nat) (a:DataW H) (b:lA),es[i]?=some a->af[i]?=some b->b.length=sz/\gk Tryz.prog f e a b)
  (hg: ∀ (a:DataW H) b,gk Tryz.prog f e a b-> ∃x,b=g x/\p x): ∃l:List α,af=l.map g/\ ∀x∈l,p x:=by
 induction af generalizing es with
 |nil=>simp
 |cons b af c=>
  cases es with
  |nil=>grind
  |cons a es=>
   obtain⟨l,rfl,k⟩:=c (by simpa using j) λi a b o k=>h (i+1) a b (by grind) (by grind)
   obtain⟨x,rfl,n⟩:=hg a b (h 0 a b rfl rfl).2;exact⟨x::l,rfl,λy m=>by grind⟩
def aFk(a:Value.okWide Tryz.prog W .any base 107 v)(h:DataW.Trod enc Tryz.prog W 0 sp held 107 v d ps): ∃n:Nat,v= .int .u16 n/\n<65536:=by
 obtain⟨n,rfl,_,_,hw⟩:=open_int Tryz.underlying107 a h;have:=aFi n hw;exact⟨n.toNat,by grind,by omega⟩
def aFl{b:lA}{d:DataW H}(h:gk Tryz.prog (f+2) 22 d b): ∃ (pv:AV) (l:List lB),b=[pv]/\Rv pv 1 (l.map sC):=by
 unfold gk at h;rcases h with⟨_,rfl⟩| ⟨es,rest,af,_,rfl,c,_,h⟩
 ·exact⟨_,[],rfl,.ai⟩
 ·obtain⟨l,rfl,_⟩:=aqH (α:=lB) (g:=sC) (p:=λ_=>True) c h (λa b h=>by
    unfold gk at h;obtain⟨s,_,rfl,_⟩:=h;exact⟨s.data.toList,rfl,trivial⟩)
  exact⟨_,l,rfl,.sl λel h=>by obtain⟨x,_,rfl⟩:=ais.1 h;rfl⟩
def aFm(b:Value.okWide Tryz.prog W .any base 24 v)(h:DataW.Trod enc Tryz.prog W 0 sp held 24 v d ps):
  ∃ (aM:Int) (aC:List lB) (aX:lB) (pv:AV),an (Gh.start W) (.agg (ek aM pv aX)) v/\Ii aM aC aX pv:=by
 obtain⟨xs,e,a,k⟩:=ain (f:=8) Tryz.underlying24 (by rfl) b h;unfold gk at a;obtain⟨l,_,a⟩:=a;obtain⟨_,_,_,_,_,rfl,i,_,_,_,_,_,rfl,g,_,_,_,_,_,rfl,c,_,rfl⟩:=a;obtain⟨aM,rfl,j⟩:=AJ Tryz.underlying3 i Z0;obtain⟨pv,aC,rfl,hr⟩:=aFl g;unfold gk at c;obtain⟨s,_,rfl,_⟩:=c;exact⟨aM,aC,s.data.toList,pv,e,⟨by omega,hr⟩⟩
def aFn{b:lA}{d:DataW H}(h:gk Tryz.prog (f+2) 32 d b): ∃ (c:AV) (l:lN),b=[c]/\Rv c 1 (l.map uC)/\ ∀t∈l,t<256:=by
 unfold gk at h;rcases h with⟨_,rfl⟩| ⟨es,rest,af,_,rfl,e,_,h⟩
 ·exact⟨_,[],rfl,.ai,λt h=>by cases h⟩
 ·obtain⟨l,rfl,i⟩:=aqH (α:=Nat) (g:=uC) (p:=λt=>t<256) e h (λa b h=>by
    obtain⟨n,rfl,j⟩:=AJ Tryz.underlying5 h ZZ;exact⟨n.toNat,by unfold uC;grind,by omega⟩)
  exact⟨_,l,rfl,.sl λel h=>by obtain⟨x,_,rfl⟩:=ais.1 h;rfl,i⟩
def aFo(i:Value.okWide Tryz.prog W .any base 106 v)(h:DataW.Trod enc Tryz.prog W 0 sp held 106 v d ps):
  ∃ (x:bn) (e:AV),an (Gh.start W) (.agg (aT x e)) v/\pq x/\Rv e 1 (x.order.map uC):=by
 obtain⟨xs,m,c,u⟩:=ain (f:=8) Tryz.underlying106 (by kernel_rfl) i h;unfold gk at c;rw[Tryz.underlying106]at c;obtain⟨y,_,c⟩:=c;obtain⟨_,_,_,_,_,rfl,t,_,_,_,_,_,rfl,s,_,_,_,_,_,rfl,r,_,_,_,_,_,rfl,q,_,_,_,_,_,rfl,p,_,_,_,_,_,rfl,o,_,rfl⟩:=c;obtain⟨k,rfl,E⟩:=AJ Tryz.underlying5 t ZZ;obtain⟨e,l,rfl,hr,j⟩:=aFn s;obtain⟨a,rfl,D⟩:=AJ Tryz.underlying70 r aFj;obtain⟨ev,rfl,C⟩:=AJ Tryz.underlying3 q Z0;obtain⟨b,rfl,A⟩:=AJ Tryz.underlying5 p ZZ;obtain⟨g,rfl,z⟩:=AJ Tryz.underlying3 o Z0;obtain⟨k,rfl⟩: ∃n:Nat,k=n:=⟨k.toNat,by omega⟩;obtain⟨a,rfl⟩: ∃n:Nat,a=n:=⟨a.toNat,by omega⟩;obtain⟨b,rfl⟩: ∃n:Nat,b=n:=⟨b.toNat,by omega⟩;exact⟨⟨k,l,a,ev,b,g⟩,e,m,⟨by show k<256;omega,j,by show a<18446744073709551616;omega,by show-9223372036854775808<=ev/\ev<9223372036854775808;omega,by show b<256;omega,by show-9223372036854775808<=g/\g<9223372036854775808;omega⟩,hr⟩
end
end
end Go.Proofs.YteplichagkpciaaGreatDoor
