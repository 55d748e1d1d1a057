/- A part. -/
import Derived.Test.YtcdeobefbpnfeaaGreatDoorD1
import Derived.Orders
import Derived.Carry
import Derived.ChangeArms
import Derived.OpenShut
import Derived.RecoverIn
import Derived.LaidHandle
import Derived.LaidMore
import Derived.WideShapes
set_option linter.all false
set_option maxRecDepth 10000
set_option maxHeartbeats 1000000
namespace Go.Den
open Go Go.RowKit
abbrev lA:=List AV
variable{l t a i j m n k sz r aj a' p nB:Nat}{v:AV}{d lo ak:oN}{e:Env}{w:World}{b:PC}{z vs:lA}{tg:Option TypeId}{gb:Gh}{f:FuncId}{x y:ao}{c ag:Bool}{pf:PF}{k':IntKind}{af:List lA}{H0:List ae}
def ad0:=@decide_eq_true
def afL:=@List.length_set
def afU:=@List.mem_cons_of_mem
def afV:=@List.getElem?_take_of_lt
def afW:=@List.getElem?_map
def afX:=@Array.getD_eq_getD_getElem?
def afZ:=@List.append_nil
def ahi:=@Classical.byContradiction
def ak7:=@Option.getD_some
def alc:=@and_true
def alJ:=@List.mem_range
def al1:=@Bool.true_and
def ams:=@List.length_drop
def amP:=@List.mem_zipIdx_iff_getElem?
def amQ:=@List.length_nil
def anc:=@Option.bind_eq_some_iff
def anY:=@List.pairwise_append
def anZ:=@List.prefix_append
def an0:=@Nat.not_lt_zero
def aoe:=@Nat.mod_lt
def aoh:=@List.pairwise_cons
def aoG:=@Nat.le_of_ble_eq_true
def aoH:=@List.range_succ
def ap6:=@List.getElem?_range
def aqb:=@Prod.mk.injEq
def aqf:=@Bool.true_or
def aqh:=@Array.getElem?_toList
def aqi:=@Array.all_eq_true_iff_forall_mem
def aqv:=@List.getElem?_cons_zero
def aqw:=@Bool.false_or
def aqx:=@Nat.lt_succ_self
def aqU:=@List.set_append_left
def aqV:=@List.mem_of_find?_eq_some
def aq0:=@List.getElem_mem
def asT:=@List.mem_iff_getElem?
def asU:=@List.contains_iff_mem
def atz:=@List.getElem?_of_mem
def auJ:=@Bool.and_true
def awX:=@List.find?_eq_none
def awY:=@List.append_of_mem
def axy:=@List.length_range
def axC:=@List.getElem?_cons_succ
def axE:=@Option.getD_none
def aza:=@true_and
def azc:=@List.getElem?_zipIdx
def aAf:=@not_false_eq_true
def aAh:=@Nat.lt_trichotomy
def aAo:=@List.pairwise_map
def aAM:=@Int.toNat_natCast
def aAT:=@List.isEmpty_iff
def gG{a b:Prop}(x:a)(y:b):a/\b:=⟨x,y⟩
section
variable{X:Ctx}
def jQ(X:Ctx)(C:bE)(xs:Nat->aV)(F:Nat->FP):lN->Fr->AS->Fr->AS->Prop
 | [],fr,E,b,E'=>b=fr/\E'=E
 |i::l,fr,E,b,E'=>
  (ga fr.env (xs i).g=true/\ ∃v a,exec X C (xs i).i fr.env E=some (.ok v a)/\aZ (xs i).i fr.env E a=F i/\jQ X C xs F l (fr.put (xs i).dst v) a b E')\/
  (ga fr.env (xs i).g=false/\F i= .no/\jQ X C xs F l (fr.put (xs i).dst .undef) E b E')
def ao0{l m:lN}:CW l m=true↔ ∀x∈l,x∉m:=by
 simp[CW,afQ]
def Dj{a:Fr}{dst:oN}(h:t∉dst.toList): (a.put dst v).env t=a.env t:=by
 cases dst with
 |none=>rfl
 |some d=>
  simp only[Fr.put,Env.set]
  grind
def ao1{f:Fr}{c:oN}{w:AV}(h: ∀x∈d.toList,x∉c.toList): (f.put d v).put c w=(f.put c w).put d v:=by
 cases d with
 |none=>rfl
 |some a=>
  cases c with
  |none=>rfl
  |some b=>
   have g:a≠b:=λe=>h a (by simp) (by grind)
   simp only[Fr.put]
   congr 1
   funext t
   simp only[Env.set]
   grind
def WM{g:Option (Nat×Bool)}{a:Env}(h: ∀t∈(match g with|some (t,_)=>[t]|none=>[]),e t=a t):ga e g=ga a g:=by
 cases g with
 |none=>rfl
 |some p=>simp only[ga];grind
def ao2{C:bE}{xs:Nat->aV}{F:Nat->FP}{l:lN}{a q:Fr}{E E':AS}(n:j9 (xs i) (xs j)=true)(x: (F i).ok (F j)=true)(h:jQ X C xs F (i::j::l) a E q E'):jQ X C xs F (j::i::l) a E q E':=by
 simp only[j9,af0,ao0]at n;obtain⟨⟨L,K⟩,J⟩:=n;have B: ∀v,∀t∈(xs j).reads,(a.put (xs i).dst v).env t=a.env t:=λv t d=>Dj λy=>L t y d
 have ex: ∀v,∀t∈(xs i).reads,(a.put (xs j).dst v).env t=a.env t:=λv t d=>Dj λy=>K t y d
 have e: ∀v,∀t∈(xs j).i.reads,(a.put (xs i).dst v).env t=a.env t:=λv t d=>B v t (by simp[aV.reads,d])
 have f: ∀v,∀t∈(xs i).i.reads,(a.put (xs j).dst v).env t=a.env t:=λv t d=>ex v t (by simp[aV.reads,d])
 have s: ∀v,ga (a.put (xs i).dst v).env (xs j).g=ga a.env (xs j).g:=λv=>WM λt d=>B v t (by
  simp only[aV.reads,aeq];grind)
 have u: ∀v,ga (a.put (xs j).dst v).env (xs i).g=ga a.env (xs i).g:=λv=>WM λt d=>ex v t (by
  simp only[aV.reads,aeq];grind)
 have comm: ∀v w,(a.put (xs i).dst v).put (xs j).dst w=(a.put (xs j).dst w).put (xs i).dst v:=λv w=>ao1 J
 simp only[jQ]at h⊢;rcases h with⟨o,v,c,A,m,h⟩| ⟨o,m,h⟩
 ·rcases h with⟨g1,w,b,g2,k,g⟩| ⟨g1,k,g⟩
  ·rw[s]at g1;have z:exec X C (xs j).i a.env c=some (.ok w b):=by rw[<-Hk (e v)];exact g2
   have p:aZ (xs j).i a.env c b=F j:=by rw[<-Hl (e v)];exact k
   obtain⟨r,I,H,G,D⟩:=aoZ A z (by rw[m,p];exact x);refine .inl ⟨g1,w,r,I,by rw[G];exact p,.inl ⟨by rw[u];exact o,v,b,?_,?_,by rw[<-comm];exact g⟩⟩
   ·rw[Hk (f w)];exact H
   ·rw[Hl (f w),D];exact m
  ·rw[s]at g1;refine .inr ⟨g1,k,.inl ⟨by rw[u];exact o,v,c,?_,?_,by rw[<-comm];exact g⟩⟩
   ·rw[Hk (f _)];exact A
   ·rw[Hl (f _)];exact m
 ·rcases h with⟨g1,w,b,g2,k,g⟩| ⟨g1,k,g⟩
  ·rw[s]at g1;refine .inl ⟨g1,w,b,by rw[<-Hk (e _)];exact g2,by rw[<-Hl (e _)];exact k,.inr ⟨by rw[u];exact o,m,by rw[<-comm];exact g⟩⟩
  ·rw[s]at g1;exact .inr ⟨g1,k,.inr ⟨by rw[u];exact o,m,by rw[<-comm];exact g⟩⟩
theorem NC{C:bE}{xs:Nat->aV}{F:Nat->FP}{j:Nat}{b:lN}: ∀ (a:lN) (fr c:Fr) (E E':AS),(∀i∈a,j9 (xs i) (xs j)=true/\ (F i).ok (F j)=true)->jQ X C xs F (a++j::b) fr E c E'->jQ X C xs F (j:: (a++b)) fr E c E'
 | [],_,_,_,_,_,h=>h
 |i::a,fr,c,E,E',e,h=>by
  have f:=e i (by simp);refine ao2 f.1 f.2 ?_;simp only[ahn]at h;rw[jQ]at h⊢;have m:=λfr E (h:jQ X C xs F (a++j::b) fr E c E')=>NC a fr c E E' (λk o=>e k (by grind)) h
  rcases h with⟨l,v,d,n,g,h⟩| ⟨l,g,h⟩
  ·exact .inl ⟨l,v,d,n,g,m _ _ h⟩
  simp_all
theorem ND{C:bE}{xs:Nat->aV}: ∀ (ys:List (aV×lN)) (a:List FP) (fr:Fr) (E:AS) (res:Ex×Fr×AS),(∀q y,ys[q]?=some y->xs (a.length+q)=y.1)->gw X C a ys fr E=some res->res.1= .normal->
  ∃F:Nat->FP,(∀m,m<a.length->F m=a.getD m .all)/\res.1= .normal/\jQ X C xs F ((List.range ys.length).map (a.length+ ·)) fr E res.2.1 res.2.2/\
   ∀q y,ys[q]?=some y-> ∀k∈y.2,k<a.length+q->(F k).ok (F (a.length+q))=true
 | [],a,fr,E,res,t,h,r=>by
   simp only[gw,adQ]at h;subst h;exact⟨λm=>a.getD m .all,λ_ _=>rfl,rfl,⟨rfl,rfl⟩,by simp⟩
 |o::ys,a,fr,E,res,t,h,r=>by
  have b:xs a.length=o.1:=by simpa using t 0 o rfl
  have j: ∀ (f:FP) q y,ys[q]?=some y->xs ((a++[f]).length+q)=y.1:=by
   intro f q y l;have:=t (q+1) y (by simpa using l);rw[<-this];congr 1;simp;omega
  have d: ∀f:FP,(List.range (o::ys).length).map (a.length+ ·)=a.length:: (List.range ys.length).map ((a++[f]).length+ ·):=by
   intro f;simp only[afO,List.range_succ_eq_map,al0,ayn,afM]
   congr 1
   apply aox;intro k _;simp;omega
  have fin: ∀ (f:FP) (F:Nat->FP),(∀m,m< (a++[f]).length->F m=(a++[f]).getD m .all)->F a.length=f/\ ∀m,m<a.length->F m=a.getD m .all:=by
   intro f F s;refine⟨?_,λm hm=>?_⟩
   ·rw[s _ (by simp)];simp
   ·rw[s m (by simp;omega)];simp[afK,ac7 hm]
  have c: ∀ (f:FP) (F:Nat->FP),(∀m,m<a.length->F m=a.getD m .all)->(∀k∈o.2,k<a.length->(a.getD k .all).ok (F a.length)=true)->
    (∀q y,ys[q]?=some y-> ∀k∈y.2,k< (a++[f]).length+q->(F k).ok (F ((a++[f]).length+q))=true)->
    ∀q y,(o::ys)[q]?=some y-> ∀k∈y.2,k<a.length+q->(F k).ok (F (a.length+q))=true:=by
   intro f F s w u q y l k n i;cases q with
   |zero=>
    simp at l;subst l;rw[afM]at i⊢;rw[s k i];exact w k n i
   |succ q=>
    have:=u q y (by simpa using l) k n (by simp;omega);have e: (a++[f]).length+q=a.length+(q+1):=by simp;omega
    rw[e]at this;exact this
  simp only[gw]at h;split at h
  ·rename_i hw;split at h
   ·rename_i v g hex;split at h
    ·rename_i p;obtain⟨F,f1,f2,f3,f4⟩:=ND ys _ _ _ res (j _) h r;obtain⟨g1,g2⟩:=fin _ F f1;refine⟨F,g2,f2,?_,c _ F g2 (λk n _=>?_) f4⟩
     ·rw[d (aZ o.1.i fr.env E g)];refine .inl ⟨by rw[b];exact hw,v,g,by rw[b];exact hex,by rw[b,g1],by rw[b];exact f3⟩
     ·rw[g1];exact afQ.1 p k n
    ·cases h
   ·split at h
    ·cases h;cases r
    ·cases h
   ·cases h
  ·rename_i hw;obtain⟨F,f1,f2,f3,f4⟩:=ND ys _ _ _ res (j _) h r;obtain⟨g1,g2⟩:=fin _ F f1;refine⟨F,g2,f2,?_,c _ F g2 (λk n _=>?_) f4⟩
   ·rw[d .no];exact .inr ⟨by rw[b];simpa using hw,g1,by rw[b];exact f3⟩
   ·rw[g1];cases a.getD k .all<;>rfl
theorem WN{C:bE}{xs:Nat->aV}: ∀ (ys:List (aV×lN)) (a:List FP) (fr:Fr) (E:AS) (res:Ex×Fr×AS),(∀q y,ys[q]?=some y->xs (a.length+q)=y.1)->gw X C a ys fr E=some res->res.1≠ .normal->
  ∃ (F:Nat->FP) (p:Nat) (v:AV) (b:AS) (y:aV×lN),(∀m,m<a.length->F m=a.getD m .all)/\ys[p]?=some y/\res.1= .panic v/\jQ X C xs F ((List.range p).map (a.length+ ·)) fr E res.2.1 b/\
    ga res.2.1.env (xs (a.length+p)).g=true/\exec X C (xs (a.length+p)).i res.2.1.env b=some (.panic v res.2.2)/\
    (∀q y,q<p->ys[q]?=some y-> ∀k∈y.2,k<a.length+q->(F k).ok (F (a.length+q))=true)/\
    y.2=[]/\y.1.i.cls≠0/\ (y.1.i.cls=2\/ ∀m,m<a.length+p->F m≠ .no)/\ ∀q d,p<q->ys[q]?=some d->if d.1.i.cls=0 then j9 y.1 d.1=false else a.length+p∉d.2
 | [],a,fr,E,res,D,h,K=>by
   simp only[gw,adQ]at h
   grind
 |o::ys,a,fr,E,res,D,h,K=>by
  have c:xs a.length=o.1:=by simpa using D 0 o rfl
  have B: ∀ (f:FP) q y,ys[q]?=some y->xs ((a++[f]).length+q)=y.1:=by
   intro f q y u;have:=D (q+1) y (by simpa using u);rw[<-this];congr 1;simp;omega
  have w: ∀ (f:FP) (p:Nat),(List.range (p+1)).map (a.length+ ·)=a.length:: (List.range p).map ((a++[f]).length+ ·):=by
   intro f p;simp only[List.range_succ_eq_map,al0,ayn,afM]
   congr 1
   apply aox;intro k _;simp;omega
  have e1: ∀ (f:FP) (q:Nat),(a++[f]).length+q=a.length+(q+1):=λf q=>by simp;omega
  have fin: ∀ (f:FP) (F:Nat->FP),(∀m,m< (a++[f]).length->F m=(a++[f]).getD m .all)->F a.length=f/\ ∀m,m<a.length->F m=a.getD m .all:=by
   intro f F s;refine⟨?_,λm hm=>?_⟩
   ·rw[s _ (by simp)];simp
   ·rw[s m (by simp;omega)];simp[afK,ac7 hm]
  have next: ∀ (f:FP) (g:Fr) (i:AS),gw X C (a++[f]) ys g i=some res->(∀ (F:Nat->FP) l j E',F a.length=f->jQ X C xs F l g i j E'->jQ X C xs F (a.length::l) fr E j E')->(∀k∈o.2,(a.getD k .all).ok f=true)->
    ∃ (F:Nat->FP) (p:Nat) (v:AV) (b:AS) (y:aV×lN),(∀m,m<a.length->F m=a.getD m .all)/\ (o::ys)[p]?=some y/\res.1= .panic v/\jQ X C xs F ((List.range p).map (a.length+ ·)) fr E res.2.1 b/\
      ga res.2.1.env (xs (a.length+p)).g=true/\exec X C (xs (a.length+p)).i res.2.1.env b=some (.panic v res.2.2)/\
      (∀q y,q<p->(o::ys)[q]?=some y-> ∀k∈y.2,k<a.length+q->(F k).ok (F (a.length+q))=true)/\
      y.2=[]/\y.1.i.cls≠0/\ (y.1.i.cls=2\/ ∀m,m<a.length+p->F m≠ .no)/\ ∀q d,p<q->(o::ys)[q]?=some d->if d.1.i.cls=0 then j9 y.1 d.1=false else a.length+p∉d.2:=by
   intro f g i h t H;obtain⟨F,p,v,b,y,f1,f2,f3,f4,f5,f6,f7,f8,f9,f10,f11⟩:=WN ys _ _ _ res (B f) h K;obtain⟨g1,g2⟩:=fin f F f1;refine⟨F,p+1,v,b,y,g2,by simpa using f2,f3,?_,by rw[<-e1 f];exact f5,by rw[<-e1 f];exact f6,?_,f8,f9,f10.imp id λf10 m hm=>f10 m (by rw[e1];exact hm),?_⟩
   ·rw[w f];exact t F _ _ _ g1 f4
   ·intro q d u n k x r;cases q with
    |zero=>
     simp at n;subst n;rw[afM]at r⊢;rw[g1,g2 k r];exact H k x
    |succ q=>
     have:=f7 q d (by omega) (by simpa using n) k x (by rw[e1];exact r);rw[e1]at this;exact this
   ·intro q d u n;cases q with
    |zero=>omega
    |succ q=>
     have:=f11 q d (by omega) (by simpa using n);rw[e1]at this;exact this
  simp only[gw]at h;split at h
  ·rename_i hw;split at h
   ·rename_i v b hex;split at h
    ·rename_i z;exact next _ _ _ h (λF l j E' s G=>.inl ⟨by rw[c];exact hw,v,b,by rw[c];exact hex,by rw[c,s],by rw[c];exact G⟩) (λk x=>afQ.1 z k x)
    ·cases h
   ·rename_i v E' hex;split at h
    ·rename_i J;cases h;simp only[CX,af0,aoI,au6,aAT,bne_iff_ne]at J;obtain⟨N,M,A,L⟩:=J;refine⟨λm=>a.getD m .all,0,v,E,o,λ_ _=>rfl,rfl,rfl,⟨rfl,rfl⟩,by rw[afM,c];exact hw,by rw[afM,c];exact hex,λq y u=>by omega,N,M,?_,?_⟩
     ·refine A.imp id λA m hm=>?_
      rw[afM]at hm;have:=afQ.1 A a[m] (aq0 hm);simp only[afK,adR hm,ak7];intro e;rw[e]at this;cases this
     ·intro q d u n;cases q with
      |zero=>omega
      |succ q=>
       have:=afQ.1 L d (ak8 (by simpa using n:ys[q]?=some d));split
       ·rename_i I;rw[adV I]at this;simpa using this
       ·rename_i I;rw[ada I]at this;rw[afM];simpa using this
    ·cases h
   ·cases h
  ·rename_i hw;exact next .no _ _ h (λF l j E' s G=>.inr ⟨by rw[c];simpa using hw,s,by rw[c];exact G⟩) (λk x=>by cases a.getD k .all<;>rfl)
end
section
variable{P:Program}{X:Ctx}{B:Nat}{az:World}{c8:List Deferred}
theorem WO(f:FP):FP.ok .no f=true:=by rfl
def WQ(f:FP):FP.ok f .no=true:=by cases f<;>rfl
theorem yj{C:bE}{xs:Nat->aV}{F:Nat->FP}{i:Nat}(d: (xs i).i.cls=0): ∀ (l:lN) (fr b:Fr) (E E':AS),i∈l->jQ X C xs F l fr E b E'->F i= .no
 | [],_,_,_,_,a,_=>by grind
 |j::l,fr,b,E,E',a,h=>by
  rcases ag6.1 a with rfl|a
  ·rcases h with⟨_,v,c,_,e,_⟩| ⟨_,e,_⟩
   ·grind [WG]
   omega
  ·rcases h with⟨_,v,c,_,_,h⟩| ⟨_,_,h⟩
   ·exact yj d l _ _ _ _ a h
   ·exact yj d l _ _ _ _ a h
theorem WR{rows:Bool}{ops:Array Oper}: ∀ {os:List Oper} {xs:List aV},kI P rows ops os=some xs->xs.length=os.length/\ ∀ (i:Nat) (o:Oper),os[i]?=some o-> ∃x,xs[i]?=some x/\iN P rows ops o=some x
 | [],xs,h=>by
   simp only[kI,adQ]at h;grind
 |o::os,xs,h=>by
  simp only[kI]at h;split at h
  ·rename_i x a c b;obtain⟨e1,d⟩:=WR b
   grind
  grind
theorem WS{ops:Array Oper}{e:Nat}: ∀n:Nat,e<n->(uE ops n).getD (n-1-e) 0=(uE ops (e+1)).headD 0
 |0,h=>absurd h (an0 _)
 |n+1,h=>by
  by_cases he:e=n
  ·subst he;simp[uE]
  ·have a:e<n:=by omega
   rw[show n+1-1-e=(n-1-e)+1 by omega,<-WS n a];simp[uE]
theorem WT{b:lN}{n a:Nat}{S:Nat->Prop}: ∀es:lN,(∀e∈es,S e)->(∀e∈es,e<n->Nat.testBit (b.getD (n-1-e) 0) a=true->S a)->Nat.testBit (AD b n es) a=true->S a
 | [],_,_,h=>by simp[AD]at h
 |e::es,f,d,h=>by
  have e1:AD b n (e::es)=(1<<<e||| (if e<n then b.getD (n-1-e) 0 else 0))|||AD b n es:=rfl;rw[e1,Nat.testBit_or,Nat.testBit_or,aoI,aoI]at h;rcases h with(h|h)|h
  ·simp_all[Nat.one_shiftLeft,Nat.testBit_two_pow,ai5]
  ·grind
  ·exact WT es (λx c=>f x (afU _ c)) (λx c=>d x (afU _ c)) h
def NF{ops:Array Oper}{S:Nat->Prop}(g: ∀j,S j-> ∀o,ops[j]?=some o-> ∀a∈kJ o,S a)(k i:Nat)(o:Oper)(ho:ops[i]?=some o)(d: ∀a∈kJ o,S a): ∀a∈gZ ops k i,S a:=by
 intro a h;unfold gZ at h;have key: ∀n i:Nat,i<n-> ∀o,ops[i]?=some o->(∀a∈kJ o,S a)->Nat.testBit ((uE ops (i+1)).headD 0) a=true->S a:=by
  intro n
  induction n with
  |zero=>simp
  |succ n l=>
   intro i m o ho d f;simp only[uE,List.headD_cons,ho]at f;refine WT _ d (λe hm b c=>?_) f;rw[WS i b]at c
   grind
 grind
def WU{a:Region.Mode}{e:Edge}(h:Region.binds .any e=true):Region.binds a e=true:=by
 unfold Region.binds at h⊢
 grind
theorem NG{a:Region.Mode}{ops:Array Oper}{l:lN}{S:Nat->Prop}(f: ∀x,x<ops.size->x∉l->S x): ∀ (ord pre:lN),GO a ops pre ord=true->(∀x∈pre,x<ops.size/\x∉l)->(∃x∈ord,x∈l)->
  ∃x∈l,∃o,ops[x]?=some o/\ ∀e∈o.after.toList,Region.binds a e=true->S e.on
 | [],_,_,_,⟨x,c,_⟩=>by grind
 |i::ord,pre,h,b,hex=>by
  simp only[GO,af0]at h;obtain⟨j,g⟩:=h;split at j
  ·by_cases d:i∈l
   ·grind
   ·refine NG f ord (i::pre) g (λx c=>?_) ?_
    ·grind
    grind
  grind
def Gh.later(G:Gh)(os:List ae):Gh:={G with n:=G.n+os.length,pz:=λi=>if i<G.n then G.pz i else os[i-G.n]?}
def Gh.yk(G:Gh)(os:List ae):G.le (G.later os):=
 .mk' (λ_ _ _ h=>h) (by simp[Gh.later]) (λi a=>by simp[Gh.later,a]) (λ_ _=>aen _) (λ_ _ _=>⟨rfl,rfl,rfl,rfl⟩)
def Gh.Ho{G:Gh}{os:List ae}(h: (G.later os).on i):G.on i:=by
 obtain⟨c,a⟩:=h;simp only[Gh.later]at c a;by_cases b:i<G.n
 ·rw[adV b]at a;exact⟨b,a⟩
 grind
theorem ba.later{G:Gh}{E:AS}(h:ba P B az G E w){os:List ae}(ho: ∀o∈os,∃z tg,o= .box z tg/\aI z=0):ba P B az (G.later os) (E.mo os) w where
 len:=by simp[Gh.later,AS.mo,h.len]
 bD:=h.bD
 obj id o e b:=by
  simp only[Gh.later]at b;simp only[AS.mo]at e;by_cases a:id<G.n
  ·rw[adV a]at b;rw[ac7 (by rw[<-h.len];exact a)]at e;exact iO.mono (G.yk os) ⟨a,b⟩ rfl rfl (h.obj id o e b)
  ·rw[ada a]at b;rw[afN (by rw[<-h.len];omega),<-h.len,b]at e;cases e
 inj i j a d e:=h.inj i j (Gh.Ho a) (Gh.Ho d) e
 sep i a o:=h.sep i (Gh.Ho a) o
 low i a:=h.low i (Gh.Ho a)
 lM:=h.lM
 hB:=h.hB
 lO id o c b:=by
  simp only[Gh.later]at c b;simp only[AS.mo];by_cases a:id<G.n
  ·rw[adV a]at b;obtain⟨g,f⟩:=h.lO id o a b
   grind
  ·rw[ada a]at b;exact⟨by rw[afN (by rw[<-h.len];omega),<-h.len];exact b,ho o (ak8 b)⟩
 dN:=h.dN
theorem AS.Ext.mo(E:AS)(os:List ae):E.Ext (E.mo os)where
 len:=by simp[AS.mo]
 lo _ h:=h
 obj j x e:=⟨x,by
  have:j<E.heap.length:=(ac9.1 e).1;simp[AS.mo,ac7 this,e],.inl λ_ k=>k.mono (by omega)⟩
def Gh.real(G:Gh)(id b:Nat):Gh:=
 {G with bg:=λi=>if i=id then b else G.bg i,aj:=λi=>if i=id then 0 else G.aj i,pz:=λi=>if i=id then none else G.pz i}
def Gh.Hp{G:Gh}{id b:Nat}{o:ae}(d:G.pz id=some o):G.sub (G.real id b):=by
 have c: ∀i,G.on i->i≠id:=λi a e=>by rw[e]at a;rw[a.2]at d;cases d
 exact{bD:=λ_ _ _ h=>h,n:=aen _,on:=λi a=>⟨a.1,by simp only[Gh.real];rw[ada (c i a)];exact a.2⟩,
       aj:=λi a=>by simp only[Gh.real];grind,same:=λi a _=>by simp[Gh.real,c i a]}
def Gh.Hq{G:Gh}{id b:Nat}(h: (G.real id b).on i):i=id\/ (i≠id/\G.on i):=by
 obtain⟨c,a⟩:=h;simp only[Gh.real]at c a;by_cases e:i=id
 ·omega
 ·rw[ada e]at a;exact .inr ⟨e,c,a⟩
def Hr{rows:Bool}{o:Oper}(h:kH P rows o=some (.alloc z tg)): ∃t,o.op= .alloc t/\gY P t=some z/\tg=rW z t:=by
 cases a:o.op with
 |alloc t=>
  simp only[kH,a]at h;obtain⟨e,d,b⟩:=afE.1 h;cases b;exact⟨t,rfl,d,rfl⟩
 |call c=>
  exfalso;simp only[kH,a,CY]at h
  repeat' split at h
  all_goals first| (cases h;done)| (simp only[afE]at h;obtain⟨_,_,h⟩:=h;cases h;done)|skip
 |_=>
  exfalso;simp only[kH,a]at h
  (repeat' split at h)<;>first| (cases h;done)| (simp only[afE]at h;obtain⟨_,_,h⟩:=h;first| (cases h;done)| (split at h<;>cases h))| (simp_all;done)
theorem ba.real{G:Gh}{E:AS}(h:ba P B az G E w){id:Nat}{t:TypeId}(s:id<G.n)(H:G.pz id=some (.box z (rW z t)))(N:gY P t=some z):
  ∃w',(Instr.alloc t true (.tuple #[])).run P w= .ok (.pointer (some ⟨w.heap.size,0,none⟩)) w'/\ba P B az (G.real id w.heap.size) E w'/\an (G.real id w.heap.size) (.ptr id 0) (.pointer (some ⟨w.heap.size,0,none⟩)):=by
 have p:G.sub (G.real id w.heap.size):=Gh.Hp H;obtain⟨A,e,_,l,J,_⟩:=rZ N (G.real id w.heap.size) w;obtain⟨I,_⟩:=h.lO id _ s H;have x: (G.real id w.heap.size).bg id=w.heap.size:=by simp[Gh.real]
 refine⟨w.alloc (.cells A.cells t),by simp[Instr.alloc,e,newVar,newRow],?_,⟨⟨s,by simp[Gh.real]⟩,_,rfl,λ_=>by rw[x]⟩⟩;refine{len:=h.len,bD:=λb o v K=>?_,obj:=λi o y a=>?_,inj:=λi j g L f=>?_,sep:=λi g o=>?_,low:=λi g=>?_,lM:=h.lM.alloc h.hB _,hB:=by have:=h.hB;simp;omega,lO:=λi o g a=>?_,dN:=h.dN}
 ·have m:G.bD b o=some v:=K;rw[cell?_alloc_old (h.xZ P m)];exact h.bD b o v m
 ·by_cases c:i=id
  ·subst c;rw[I]at y;cases y;refine⟨by simp[Gh.real],A.cells,t,?_,l,J,λO h=>Nm h⟩;rw[x];exact ap5 _ _
  ·have q:i<G.n:=by rw[h.len];exact(ac9.1 y).1
   simp only[Gh.real]at a;rw[ada c]at a;exact iO.dH p ⟨q,a⟩ (by simp[Gh.real,c]) (Below.heap_alloc _ _ _ (h.low i ⟨q,a⟩).2) (h.obj i o y a)
 ·rcases Gh.Hq g with d| ⟨k,d⟩<;>rcases Gh.Hq L with u| ⟨D,u⟩
  ·rw[d,u]
  ·simp only[Gh.real,d,af1,ada D]at f;have:=(h.low j u).2;omega
  ·simp only[Gh.real,u,af1,ada k]at f;have:=(h.low i d).2;omega
  ·simp only[Gh.real,ada k,ada D]at f;exact h.inj i j d u f
 ·rcases Gh.Hq g with d| ⟨k,d⟩
  ·subst d;rw[x];show G.bD w.heap.size o=none;cases M:G.bD w.heap.size o with
   |none=>rfl
   |some v=>have:=h.xZ P M;omega
  ·simp only[Gh.real,ada k];exact h.sep i d o
 ·rcases Gh.Hq g with d| ⟨k,d⟩
  ·subst d;rw[x];exact⟨h.hB,by simp⟩
  ·simp only[Gh.real,ada k];have:=h.low i d;exact⟨this.1,by simp;omega⟩
 ·simp only[Gh.real]at g a;by_cases c:i=id
  ·rw[adV c]at a;cases a
  ·rw[ada c]at a;exact h.lO i o g a
def Gh.WV{G:Gh}(h:gb.le G){id b:Nat}{o:ae}(a:G.pz id=some o)(c:gb.n<=id):gb.le (G.real id b):=
 {Gh.VB h.toSub (Gh.Hp a)with pz:=λi d=>by simp only[Gh.real];rw[ada (by omega)];exact h.pz i d}
section
variable{C:bE}(hC:fK P B az C)(hg:fz X B az){r:oN}{n nt:Nat}{rows:Bool}{ops:Array Oper}{xs:Nat->aV}{F:Nat->FP}
include hC hg
theorem go_sound(I:Region.Mode){ord:lN}(U:uF I ops ord=true)(sl:Nat->Nat)(al:Nat->Option ae)(AP: ∀i o,ops[i]?=some o->(al i=none/\iN P rows ops o=some (xs i))\/ ∃z tg g d,al i=some (.box z tg)/\iN P rows ops o=some ⟨g,d,.alloc z tg⟩/\xs i=⟨g,d,.mov (.c (.ptr (sl i) 0))⟩)
  (NH: ∀i j bi bj,al i=some bi->al j=some bj->sl i=sl j->i=j)  {cu:AS} (v9: ∀i b,al i=some b->gb.n<=sl i) (hd: ∀i,i<ops.size-> ∀d,(xs i).dst=some d->d<nt) (ao3: ∀i o,ops[i]?=some o-> ∀a∈kJ o,a<i)
  (NI: ∀i j,i<j->j<ops.size->i∉gZ ops 64 j->j9 (xs i) (xs j)=true/\ (F i).ok (F j)=true):
  ∀ (fuel t:Nat) (listed:Array Bool) (l:lN) (G:Gh) (E E':AS) (w:World) (fr u:Fr) (a:Act) (Q:Exit->Act->World->Prop),
    (∀i,i∈l↔i<ops.size/\listed.getD i true=false)->listed.size=ops.size->l.Pairwise (· < ·)->(∀j o,ops[j]?=some o->listed.getD j true=true-> ∀a∈kJ o,listed.getD a true=true)->l.length<=fuel->
    jQ X C xs F l fr E u E'->gb.le G->cu.Ext E->(∀i∈l,∀b,al i=some b->sl i<G.n/\G.pz (sl i)=some b)->ba P B az G E w->cM G nt fr.env a.tmps->gx c8 G fr.marks a.defers->(∀e a w,mv P B az c8 gb cu nt (.normal,u,E') e a w->Q e a w)->
    wpOpsIn (W r) n P ops Q (Region.linearise.go I ops fuel t listed []) a w:=by
 intro fuel
 induction fuel with
 |zero=>
  intro t listed l G E E' w fr u a Q hl T hp lQ hf hr hle s oY hw he hm hQ;have:l=[]:=ak2.1 (by omega);subst this;obtain⟨rfl,rfl⟩:=hr;exact hQ _ _ _ ⟨G,hle,hw,he,hm,s,trivial⟩
 |succ fuel ih=>
  intro t listed l G E E' w fr u a Q hl T hp lQ hf hr hle s oY hw he hm hQ;simp only[Region.linearise.go]
  change wpOpsIn (W r) n P ops Q (match(Region.ready I ops listed)[t % (Region.ready I ops listed).length]? with
   |some i=>Region.linearise.go I ops fuel (t/ (Region.ready I ops listed).length) (listed.setIfInBounds i true) [i]
   |none=>[].reverse) a w
  have J: ∀i,i∈Region.ready I ops listed↔i∈l/\ ∀o,ops[i]?=some o-> ∀e∈o.after.toList,Region.binds I e=true->listed.getD e.on false=true:=by
   intro i;simp only[Region.ready,afR,alJ,af0,aAP];rw[hl];constructor
   ·rintro⟨R,H,h3⟩;refine⟨⟨R,H⟩,λo ho e Z O=>?_⟩;rw[ho]at h3;simp only[afF,ak7,aqi]at h3;have:=h3 e (by simpa using Z);rw[O]at this;simpa using this
   ·rintro⟨⟨R,H⟩,h3⟩;refine⟨R,H,?_⟩;obtain⟨o,ho⟩: ∃o,ops[i]?=some o:=⟨ops[i],by simp[R]⟩;rw[ho];simp only[afF,ak7,aqi];intro e Z;by_cases O:Region.binds I e=true
    ·rw[h3 o ho e (by simpa using Z) O];simp
    ·simp at O;simp[O]
  have NJ: ∀a,listed.getD a false=true->listed.getD a true=true:=by
   intro a h;simp only[afX]at h⊢;cases h':listed[a]? with
   |none=>rw[h']at h;cases h
   |some b=>rw[h']at h;exact h
  cases hi: (Region.ready I ops listed)[t % (Region.ready I ops listed).length]? with
  |none=>
   have Dk:Region.ready I ops listed=[]:=by
    cases lR:Region.ready I ops listed with
    |nil=>rfl
    |cons x ys=>
     rw[lR]at hi;have x8:t % (x::ys).length< (x::ys).length:=aoe _ (by simp);rw[adR x8]at hi;cases hi
   cases l with
   |nil=>
    obtain⟨rfl,rfl⟩:=hr;exact hQ _ _ _ ⟨G,hle,hw,he,hm,s,trivial⟩
   |cons i l=>
    exfalso;simp only[uF,af0]at U;obtain⟨x,p,o,ho,uJ⟩:=NG (S:=λa=>listed.getD a false=true) (l:=i::l) (λx p qF=>by
     cases r9:listed.getD x true with
     |true=>
      simp only[afX,aw7 (show x<listed.size by omega),ak7]at r9⊢;exact r9
     |false=>exact absurd ((hl x).2 ⟨p,r9⟩) qF) ord [] U.2 (by simp) ⟨i,by
      have:=afQ.1 U.1 i (by simpa using((hl i).1 (by simp)).1);simpa using this,by simp⟩
    have:x∈Region.ready I ops listed:=(J x).2 ⟨p,λo' D e Z O=>by rw[ho]at D;cases D;exact uJ e Z O⟩;rw[Dk]at this;cases this
  |some i=>
   simp only;rw[linearise_go_acc,List.reverse_singleton,List.singleton_append];have NK:=ak8 hi;obtain⟨sa,NL⟩:=(J i).1 NK;have AQ: ∀o,ops[i]?=some o-> ∀a∈kJ o,listed.getD a true=true:=by
    intro o ho a ha;simp only[kJ,afJ,afR]at ha;obtain⟨e,⟨e1,e2⟩,rfl⟩:=ha;exact NJ _ (NL o ho e e1 (WU e2))
   have Y:=((hl i).1 sa).1;obtain⟨o,ho⟩: ∃o,ops[i]?=some o:=⟨ops[i],by simp[Y]⟩;obtain⟨f,m,rfl⟩:=awY sa;have A:=anY.1 hp;have q:=NC f fr u E E' (λx p=>by
    have qF:=(hl x).1 (by simp[p]);refine NI x i (A.2.2 x p i (by simp)) Y (λao4=>?_);have:=NF (S:=λa=>listed.getD a true=true) (λj hj o' D a ha=>lQ j o' D hj a ha) 64 i o ho (AQ o ho) x ao4;rw[qF.2]at this;cases this) hr
   rw[jQ]at q;have L: ∀k,k∈f++m↔k<ops.size/\ (listed.setIfInBounds i true).getD k true=false:=by
    intro k;have V:=hl k;have Hs: ∀x∈f++m,x≠i:=by
     intro x p e;subst e;rcases aeq.1 p with h|h
     ·have:=A.2.2 x h x (by simp);omega
     ·have:=(aoh.1 A.2.1).1 x h;omega
    simp only[afX,alL]at V⊢;constructor
    ·intro h;have sb:=Hs k h;have:=V.1 (by simp only[aeq,ag6]at h⊢;rcases h with h|h;exact .inl h;exact .inr (.inr h));rw[ada (λe=>sb e.symm)];exact this
    ·rintro⟨R,H⟩;by_cases yl:i=k
     ·subst yl;rw[adV rfl,adV (by omega)]at H;simp at H
     ·rw[ada yl]at H;have:=V.2 ⟨R,H⟩;simp only[aeq,ag6]at this⊢;rcases this with h|h|h
      ·exact .inl h
      ·exact absurd h.symm yl
      ·exact .inr h
   have oZ: (f++m).Pairwise (· < ·):=anY.2 ⟨A.1,(aoh.1 A.2.1).2,λx p y hy=>A.2.2 x p y (by simp[hy])⟩;have N: ∀j o,ops[j]?=some o->(listed.setIfInBounds i true).getD j true=true-> ∀a∈kJ o,(listed.setIfInBounds i true).getD a true=true:=by
    intro j o' D hj a ha;have key:listed.getD a true=true->(listed.setIfInBounds i true).getD a true=true:=by
     intro h;simp only[afX,alL]at h⊢;split
     ·split<;>rfl
     ·exact h
    apply key;by_cases Dl:i=j
    ·subst Dl;rw[ho]at D;cases D;exact AQ _ ho a ha
    ·refine lQ j o' D ?_ a ha;simp only[afX,alL]at hj⊢;rw[ada Dl]at hj;exact hj
   have qD: (f++m).length<=fuel:=by simp at hf⊢;omega
   have NN:i∉f++m:=λhm=>by
    rcases aeq.1 hm with h|h
    ·have:=A.2.2 i h i (by simp);omega
    ·have:=(aoh.1 A.2.1).1 i h;omega
   have K: ∀k∈f++m,∀b,al k=some b->sl k<G.n/\G.pz (sl k)=some b:=λk V b O=>oY k (by
    simp only[aeq,ag6]at V⊢;rcases V with h|h
    ·exact .inl h
    ·exact .inr (.inr h)) b O
   rcases AP i o ho with⟨ig,p⟩| ⟨z,tg,g,d,ig,p,ym⟩
   ·have gy:guardOf ops o=some (xs i).g:=by
      unfold iN at p;split at p
      ·rename_i H;have:=akw p;rw[<-this];exact H
      ·cases p
    have M: (xs i).dst=o.dst:=by
     unfold iN at p;split at p
     ·have:=akw p;rw[<-this]
     ·cases p
    have uL:=yd he gy;simp only[wpOpsIn,ho];rw[uL];rcases q with⟨R,v,yn,H,_,h4⟩| ⟨R,_,h4⟩
    ·rw[adV R];refine ye hC hg p (hd i Y) hw he hm H (λDm nU e G' a' w' q1 q2 q3 q4 q5=>?_) (λDm nU e=>by cases e);cases e;exact ih _ _ (f++m) G' yn E' w' _ u a' Q L (by simpa using T) oZ N qD h4 (Gh.le_trans hle q1) (s.trans q3) (λk V b O=>by
      obtain⟨p1,p2⟩:=K k V b O;exact⟨ai3 p1 q1.n,by rw[q1.pz _ p1];exact p2⟩) q2 q4 q5 hQ
    ·rw[ada (by rw[R];simp)];refine⟨λ_ _=>trivial,?_⟩;obtain⟨p1,p2,p3⟩:=qC (a:=a) he (hd i Y) (v:=.undef) (v':=undef) yc;rw[<-M];exact ih _ _ (f++m) G E E' w _ u _ Q L (by simpa using T) oZ N qD h4 hle s K hw p1 (by rw[p2,p3];exact hm) hQ
   ·rw[ym]at q;have yo: ∀d',d=some d'->d'<nt:=λd' AR=>hd i Y d' (by rw[ym];exact AR)
    have Dn:kH P rows o=some (.alloc z tg)/\guardOf ops o=some g/\o.dst=d:=by
     unfold iN at p;split at p
     ·rename_i i' g' H h3;simp only[adQ,aV.mk.injEq]at p;obtain⟨rfl,rfl,rfl⟩:=p;exact⟨H,h3,rfl⟩
     ·cases p
    obtain⟨NO,gy,M⟩:=Dn;have uL:=yd he gy;simp only[wpOpsIn,ho];rw[uL];rcases q with⟨R,v,yn,H,_,h4⟩| ⟨R,_,h4⟩
    ·rw[adV R];simp only[exec,ao.get,adQ,Out.ok.injEq]at H;obtain⟨rfl,rfl⟩:=H;obtain⟨p1,p2⟩:=oY i (by simp) _ ig;obtain⟨t,o5,NP,rfl⟩: ∃t,o.op= .alloc t/\gY P t=some z/\tg=rW z t:=Hr NO;obtain⟨w',e1,e2,e3⟩:=hw.real p1 p2 NP;refine⟨λ_ _=>trivial,?_⟩;have Dp:o.semAt (W r).round a.eval=execOp a.eval o:=by
      apply Oper.semAt_eq;intro c e;rw[o5]at e;cases e
     have Dq: (execOp a.eval o).run P w= .ok (.value (.pointer (some ⟨w.heap.size,0,none⟩))) w':=by
      unfold execOp;simp only[o5];rw[Sem.run_bind,e1];rfl
     rw[Dp,Dq];simp only[Oper.uponIn];have Dr:=Gh.Hp (b:=w.heap.size) p2;obtain⟨r1,r2,r3⟩:=qC (a:=a) (dst:=d) (he.dH Dr) yo e3;rw[M];exact ih _ _ (f++m) _ E E' w' _ u _ Q L (by simpa using T) oZ N qD h4 (Gh.WV hle p2 (v9 i _ ig)) s (λk V b O=>by
      obtain⟨p3,p4⟩:=K k V b O;refine⟨p3,?_⟩;have sb:sl k≠sl i:=λe=>NN (by rw[NH i k _ _ ig O e.symm];exact V)
      simp only[Gh.real];rw[ada sb];exact p4) e2 r1 (by rw[r2,r3];exact hm.dH Dr) hQ
    ·rw[ada (by rw[R];simp)];refine⟨λ_ _=>trivial,?_⟩;obtain⟨p1,p2,p3⟩:=qC (a:=a) (dst:=d) he yo (v:=.undef) (v':=undef) yc;rw[M];exact ih _ _ (f++m) G E E' w _ u _ Q L (by simpa using T) oZ N qD h4 hle s K hw p1 (by rw[p2,p3];exact hm) hQ
theorem ao5(L:Region.Mode){ord:lN}(yp:uF L ops ord=true)(sl:Nat->Nat)(al:Nat->Option ae)(AP: ∀i o,ops[i]?=some o->(al i=none/\iN P rows ops o=some (xs i))\/ ∃z tg g d,al i=some (.box z tg)/\iN P rows ops o=some ⟨g,d,.alloc z tg⟩/\xs i=⟨g,d,.mov (.c (.ptr (sl i) 0))⟩)
  (NH: ∀i j bi bj,al i=some bi->al j=some bj->sl i=sl j->i=j)  {cu:AS} (v9: ∀i b,al i=some b->gb.n<=sl i) (hd: ∀i,i<ops.size-> ∀d,(xs i).dst=some d->d<nt) (ao3: ∀i o,ops[i]?=some o-> ∀a∈kJ o,a<i)
  {f:Nat} (Ht:f<ops.size) (NI: ∀i j,i<j->j<f->i∉gZ ops 64 j->j9 (xs i) (xs j)=true/\ (F i).ok (F j)=true) (NQ: ∀i,i<f->i∈gZ ops 64 f) (NR: ∀j,f<j->j<ops.size->f∈gZ ops 64 j) {G8:AV} {WW:AS}:
  ∀ (fuel t:Nat) (listed:Array Bool) (l:lN) (G:Gh) (E E':AS) (w:World) (fr D:Fr) (a:Act) (Q:Exit->Act->World->Prop),
    (∀i,i∈l↔i<f/\listed.getD i true=false)->listed.size=ops.size->(∀j,f<=j->j<ops.size->listed.getD j true=false)->l.Pairwise (· < ·)->(∀j o,ops[j]?=some o->listed.getD j true=true-> ∀a∈kJ o,listed.getD a true=true)->l.length<fuel->
    jQ X C xs F l fr E D E'->ga D.env (xs f).g=true->exec X C (xs f).i D.env E'=some (.panic G8 WW)->gb.le G->cu.Ext E->(∀i∈l,∀b,al i=some b->sl i<G.n/\G.pz (sl i)=some b)->ba P B az G E w->cM G nt fr.env a.tmps->gx c8 G fr.marks a.defers->(∀e a w,mv P B az c8 gb cu nt (.panic G8,D,WW) e a w->Q e a w)->
    wpOpsIn (W r) n P ops Q (Region.linearise.go L ops fuel t listed []) a w:=by
 intro fuel
 induction fuel with
 |zero=>simp
 |succ fuel ih=>
  intro t listed l G E E' w fr D a Q hl r6 AM hp lQ hf hr Ds K hle I oY hw he hm hQ;simp only[Region.linearise.go]
  change wpOpsIn (W r) n P ops Q (match(Region.ready L ops listed)[t % (Region.ready L ops listed).length]? with
   |some i=>Region.linearise.go L ops fuel (t/ (Region.ready L ops listed).length) (listed.setIfInBounds i true) [i]
   |none=>[].reverse) a w
  have M: ∀i,i∈Region.ready L ops listed↔(i<ops.size/\listed.getD i true=false)/\ ∀o,ops[i]?=some o-> ∀e∈o.after.toList,Region.binds L e=true->listed.getD e.on false=true:=by
   intro i;simp only[Region.ready,afR,alJ,af0,aAP];constructor
   ·rintro⟨J,A,h3⟩;refine⟨⟨J,A⟩,λo ho e Dt V=>?_⟩;rw[ho]at h3;simp only[afF,ak7,aqi]at h3;have:=h3 e (by simpa using Dt);rw[V]at this;simpa using this
   ·rintro⟨⟨J,A⟩,h3⟩;refine⟨J,A,?_⟩;obtain⟨o,ho⟩: ∃o,ops[i]?=some o:=⟨ops[i],by simp[J]⟩;rw[ho];simp only[afF,ak7,aqi];intro e Dt;by_cases V:Region.binds L e=true
    ·rw[h3 o ho e (by simpa using Dt) V];simp
    ·simp at V;simp[V]
  have NJ: ∀a,listed.getD a false=true->listed.getD a true=true:=by
   intro a h;simp only[afX]at h⊢;cases h':listed[a]? with
   |none=>rw[h']at h;cases h
   |some b=>rw[h']at h;exact h
  cases hi: (Region.ready L ops listed)[t % (Region.ready L ops listed).length]? with
  |none=>
   have Dk:Region.ready L ops listed=[]:=by
    cases lR:Region.ready L ops listed with
    |nil=>rfl
    |cons x ys=>
     rw[lR]at hi;have x8:t % (x::ys).length< (x::ys).length:=aoe _ (by simp);rw[adR x8]at hi;cases hi
   exfalso;simp only[uF,af0]at yp;obtain⟨x,p,o,ho,uJ⟩:=NG (S:=λa=>listed.getD a false=true) (l:=(List.range ops.size).filter λi=>listed.getD i true==false) (λx p qF=>by
    cases r9:listed.getD x true with
    |true=>
     simp only[afX,aw7 (show x<listed.size by omega),ak7]at r9⊢;exact r9
    |false=>exact absurd (afR.2 ⟨alJ.2 p,by simpa using r9⟩) qF) ord [] yp.2 (by simp) ⟨f,by
     have:=afQ.1 yp.1 f (by simpa using Ht);simpa using this,afR.2 ⟨alJ.2 Ht,by simpa using AM f (aen _) Ht⟩⟩
   have Dn:x<ops.size/\listed.getD x true=false:=by simpa using afR.1 p
   have:x∈Region.ready L ops listed:=(M x).2 ⟨Dn,λo' u e Dt V=>by rw[ho]at u;cases u;exact uJ e Dt V⟩;rw[Dk]at this;cases this
  |some i=>
   simp only;rw[linearise_go_acc,List.reverse_singleton,List.singleton_append];have NK:=ak8 hi;obtain⟨sa,NL⟩:=(M i).1 NK;have AQ: ∀o,ops[i]?=some o-> ∀a∈kJ o,listed.getD a true=true:=by
    intro o ho a ha;simp only[kJ,afJ,afR]at ha;obtain⟨e,⟨e1,e2⟩,rfl⟩:=ha;exact NJ _ (NL o ho e e1 (WU e2))
   have Z:=sa.1;obtain⟨o,ho⟩: ∃o,ops[i]?=some o:=⟨ops[i],by simp[Z]⟩;have Y: ∀x∈gZ ops 64 i,listed.getD x true=true:=NF (S:=λa=>listed.getD a true=true) (λj hj o' u a ha=>lQ j o' u hj a ha) 64 i o ho (AQ o ho);by_cases Hu: ¬i<f
   ·have ao6:i=f:=by
      refine ahi λsb=>?_
      have:=Y _ (NR i (by omega) Z);rw[AM f (aen _) Ht]at this;cases this
    subst ao6;have Dk:l=[]:=by
     cases l with
     |nil=>rfl
     |cons x l=>
      obtain⟨q1,q2⟩:=(hl x).1 (by simp);have:=Y _ (NQ x q1);rw[q2]at this;cases this
    subst Dk;obtain⟨rfl,rfl⟩:=hr;rcases AP i o ho with⟨ig,p⟩| ⟨z,tg,g,d,ig,p,ym⟩
    ·have gy:guardOf ops o=some (xs i).g:=by
       unfold iN at p;split at p
       ·rename_i A;have:=akw p;rw[<-this];exact A
       ·cases p
     have uL:=yd he gy;simp only[wpOpsIn,ho];rw[uL,adV Ds];exact ye hC hg p (hd i Z) hw he hm K (λDm nU e=>by cases e) (λDm nU e e' a' w' h=>by cases e;exact hQ _ _ _ (h.trans hle I))
    ·rw[ym]at K;simp[exec]at K
   have Hu:i<f:=Decidable.byContradiction Hu;have sa:i∈l:=(hl i).2 ⟨Hu,sa.2⟩;obtain⟨m,q,rfl⟩:=awY sa;have H:=anY.1 hp;have s:=NC m fr D E E' (λx p=>by
    have qF:=(hl x).1 (by simp[p]);refine NI x i (H.2.2 x p i (by simp)) Hu (λY=>?_);have:=NF (S:=λa=>listed.getD a true=true) (λj hj o' u a ha=>lQ j o' u hj a ha) 64 i o ho (AQ o ho) x Y;rw[qF.2]at this;cases this) hr
   rw[jQ]at s;have O: ∀k,k∈m++q↔k<f/\ (listed.setIfInBounds i true).getD k true=false:=by
    intro k;have hk:=hl k;have Hs: ∀x∈m++q,x≠i:=by
     intro x p e;subst e;rcases aeq.1 p with h|h
     ·have:=H.2.2 x h x (by simp);omega
     ·have:=(aoh.1 H.2.1).1 x h;omega
    simp only[afX,alL]at hk⊢;constructor
    ·intro h;have sb:=Hs k h;have:=hk.1 (by simp only[aeq,ag6]at h⊢;rcases h with h|h;exact .inl h;exact .inr (.inr h));rw[ada (λe=>sb e.symm)];exact this
    ·rintro⟨J,A⟩;by_cases yl:i=k
     ·subst yl;rw[adV rfl,adV (by omega)]at A;simp at A
     ·rw[ada yl]at A;have:=hk.2 ⟨J,A⟩;simp only[aeq,ag6]at this⊢;rcases this with h|h|h
      ·exact .inl h
      ·exact absurd h.symm yl
      ·exact .inr h
   have oZ: (m++q).Pairwise (· < ·):=anY.2 ⟨H.1,(aoh.1 H.2.1).2,λx p y hy=>H.2.2 x p y (by simp[hy])⟩;have U: ∀j o,ops[j]?=some o->(listed.setIfInBounds i true).getD j true=true-> ∀a∈kJ o,(listed.setIfInBounds i true).getD a true=true:=by
    intro j o' u hj a ha;have key:listed.getD a true=true->(listed.setIfInBounds i true).getD a true=true:=by
     intro h;simp only[afX,alL]at h⊢;split
     ·split<;>rfl
     ·exact h
    apply key;by_cases Dl:i=j
    ·subst Dl;rw[ho]at u;cases u;exact AQ _ ho a ha
    ·refine lQ j o' u ?_ a ha;simp only[afX,alL]at hj⊢;rw[ada Dl]at hj;exact hj
   have qD: (m++q).length<fuel:=by simp at hf⊢;omega
   have R: ∀j,f<=j->j<ops.size->(listed.setIfInBounds i true).getD j true=false:=by
    intro j J A;have:=AM j J A;simp only[afX,alL]at this⊢;rw[ada (by omega)];exact this
   have NN:i∉m++q:=λhm=>by
    rcases aeq.1 hm with h|h
    ·have:=H.2.2 i h i (by simp);omega
    ·have:=(aoh.1 H.2.1).1 i h;omega
   have N: ∀k∈m++q,∀b,al k=some b->sl k<G.n/\G.pz (sl k)=some b:=λk hk b V=>oY k (by
    simp only[aeq,ag6]at hk⊢;rcases hk with h|h
    ·exact .inl h
    ·exact .inr (.inr h)) b V
   rcases AP i o ho with⟨ig,p⟩| ⟨z,tg,g,d,ig,p,ym⟩
   ·have gy:guardOf ops o=some (xs i).g:=by
      unfold iN at p;split at p
      ·rename_i A;have:=akw p;rw[<-this];exact A
      ·cases p
    have T: (xs i).dst=o.dst:=by
     unfold iN at p;split at p
     ·have:=akw p;rw[<-this]
     ·cases p
    have uL:=yd he gy;simp only[wpOpsIn,ho];rw[uL];rcases s with⟨J,v,yn,A,_,h4⟩| ⟨J,_,h4⟩
    ·rw[adV J];refine ye hC hg p (hd i Z) hw he hm A (λDm nU e G' a' w' q1 q2 q3 q4 q5=>?_) (λDm nU e=>by cases e);cases e;exact ih _ _ (m++q) G' yn E' w' _ D a' Q O (by simpa using r6) R oZ U qD h4 Ds K (Gh.le_trans hle q1) (I.trans q3) (λk hk b V=>by
      obtain⟨p1,p2⟩:=N k hk b V;exact⟨ai3 p1 q1.n,by rw[q1.pz _ p1];exact p2⟩) q2 q4 q5 hQ
    ·rw[ada (by rw[J];simp)];refine⟨λ_ _=>trivial,?_⟩;obtain⟨p1,p2,p3⟩:=qC (a:=a) he (hd i Z) (v:=.undef) (v':=undef) yc;rw[<-T];exact ih _ _ (m++q) G E E' w _ D _ Q O (by simpa using r6) R oZ U qD h4 Ds K hle I N hw p1 (by rw[p2,p3];exact hm) hQ
   ·rw[ym]at s;have yo: ∀d',d=some d'->d'<nt:=λd' AR=>hd i Z d' (by rw[ym];exact AR)
    have Dn:kH P rows o=some (.alloc z tg)/\guardOf ops o=some g/\o.dst=d:=by
     unfold iN at p;split at p
     ·rename_i i' g' A h3;simp only[adQ,aV.mk.injEq]at p;obtain⟨rfl,rfl,rfl⟩:=p;exact⟨A,h3,rfl⟩
     ·cases p
    obtain⟨NO,gy,T⟩:=Dn;have uL:=yd he gy;simp only[wpOpsIn,ho];rw[uL];rcases s with⟨J,v,yn,A,_,h4⟩| ⟨J,_,h4⟩
    ·rw[adV J];simp only[exec,ao.get,adQ,Out.ok.injEq]at A;obtain⟨rfl,rfl⟩:=A;obtain⟨p1,p2⟩:=oY i (by simp) _ ig;obtain⟨t,o5,NP,rfl⟩: ∃t,o.op= .alloc t/\gY P t=some z/\tg=rW z t:=Hr NO;obtain⟨w',e1,e2,e3⟩:=hw.real p1 p2 NP;refine⟨λ_ _=>trivial,?_⟩;have Dp:o.semAt (W r).round a.eval=execOp a.eval o:=by
      apply Oper.semAt_eq;intro c e;rw[o5]at e;cases e
     have Dq: (execOp a.eval o).run P w= .ok (.value (.pointer (some ⟨w.heap.size,0,none⟩))) w':=by
      unfold execOp;simp only[o5];rw[Sem.run_bind,e1];rfl
     rw[Dp,Dq];simp only[Oper.uponIn];have Dr:=Gh.Hp (b:=w.heap.size) p2;obtain⟨r1,r2,r3⟩:=qC (a:=a) (dst:=d) (he.dH Dr) yo e3;rw[T];exact ih _ _ (m++q) _ E E' w' _ D _ Q O (by simpa using r6) R oZ U qD h4 Ds K (Gh.WV hle p2 (v9 i _ ig)) I (λk hk b V=>by
      obtain⟨p3,p4⟩:=N k hk b V;refine⟨p3,?_⟩;have sb:sl k≠sl i:=λe=>NN (by rw[NH i k _ _ ig V e.symm];exact hk)
      simp only[Gh.real];rw[ada sb];exact p4) e2 r1 (by rw[r2,r3];exact hm.dH Dr) hQ
    ·rw[ada (by rw[J];simp)];refine⟨λ_ _=>trivial,?_⟩;obtain⟨p1,p2,p3⟩:=qC (a:=a) (dst:=d) he yo (v:=.undef) (v':=undef) yc;rw[T];exact ih _ _ (m++q) G E E' w _ D _ Q O (by simpa using r6) R oZ U qD h4 Ds K hle I N hw p1 (by rw[p2,p3];exact hm) hQ
end
end
section
variable{P:Program}{X:Ctx}{B:Nat}{az:World}{c8:List Deferred}
def Du{x:aV}{b:ae}(h:x.fH=some b): ∃z tg,x.i= .alloc z tg/\b= .box z tg:=by
 unfold aV.fH at h
 grind
def AT{x:aV}(h:x.fH=none):lK m x=x:=by unfold lK;rw[h]
def AU{x:aV}{b:ae}(h:x.fH=some b):lK m x={x with i:=.mov (.c (.ptr m 0))}:=by unfold lK;rw[h]
def Hv{x:aV}: (lK m x).dst=x.dst:=by
 cases h:x.fH with
 |none=>rw[AT h]
 |some b=>rw[AU h]
def WX{x:aV}: (lK m x).reads=x.reads:=by
 cases h:x.fH with
 |none=>rw[AT h]
 |some b=>
  rw[AU h];obtain⟨z,tg,a,_⟩:=Du h;unfold aV.reads;rw[a];rfl
theorem Dv: ∀ (ys:List (aV×lN)) (n q:Nat),(ic n ys)[q]?=(ys[q]?).map λy=>(lK (n+(dG (ys.take q)).length) y.1,y.2)
 | [],n,q=>by rfl
 |o::os,n,0=>by rfl
 |o::os,n,q+1=>by
  simp only[ic,axC,aql];rw[Dv os];cases h:o.1.fH with
  |none=>simp[dG,h]
  |some b=>
   simp only[dG,h,afO]
   grind
theorem NS: ∀ (ys:List (aV×lN)) (n:Nat),(ic n ys).length=ys.length
 | [],_=>rfl
 |o::os,n=>by simp[ic,NS os]
theorem NT: ∀ (ys:List (aV×lN)) (q:Nat) (y:aV×lN) (b:ae),ys[q]?=some y->y.1.fH=some b->(dG ys)[(dG (ys.take q)).length]?=some b
 | [],q,y,b,h,_=>by grind
 |o::os,0,y,b,h,a=>by
  simp at h;subst h;simp[dG,a]
 |o::os,q+1,y,b,h,a=>by
  have c:=NT os q y b (by grind) a;simp only[aql,dG]
  grind
theorem Dw: ∀ (ys:List (aV×lN)) (i j:Nat) (y:aV×lN) (b:ae),ys[i]?=some y->y.1.fH=some b->i<j->(dG (ys.take i)).length< (dG (ys.take j)).length
 | [],i,j,y,b,h,_,_=>by grind
 |o::os,0,j+1,y,b,h,a,_=>by
  simp at h;subst h;simp[dG,a]
 |o::os,i+1,j+1,y,b,h,a,c=>by
  have d:=Dw os i j y b (by grind) a (by omega);simp only[aql,dG]
  grind
 |o::os,_,0,y,b,h,a,c=>by omega
theorem Hw: ∀ (ys:List (aV×lN)) (b:ae),b∈dG ys-> ∃y∈ys,y.1.fH=some b
 | [],b,h=>by trivial
 |o::os,b,h=>by
  simp only[dG]at h;cases ho:o.1.fH with
  |none=>
   rw[ho]at h;obtain⟨y,c,a⟩:=Hw os b h
   grind
  |some d=>
   rw[ho]at h;rcases ag6.1 h with rfl|h
   ·grind
   ·obtain⟨y,c,a⟩:=Hw os b h
    grind
def NU(hg:fz X B az):AN P X B az:=by
 intro c8 C hC rows r n nt id ops u ys AP hd O G E w fr a res Q hw he hm hr hQ;obtain⟨NV,Z⟩:=WR AP;have WY:u.length=ops.size:=by omega
 unfold M5 at O;simp only at O;split at O
 ·rename_i WZ;simp only[af0]at WZ;obtain⟨⟨⟨⟨W4,W5⟩,W7⟩,W8⟩,Y⟩:=WZ;simp only[adQ]at O
  let g:Nat->aV:=λi=>u.getD i default
  have s: ∀i,i<u.length->u[i]?=some (g i):=λi H=>by
   simp only[g,afK,adR H,ak7]
  have Dx: ∀i,¬i<u.length->(g i).fH=none:=λi H=>by
   simp only[g,afK,alh (Nat.le_of_not_lt H),axE];rfl
  let sl:Nat->Nat:=λi=>E.heap.length+(dG (ys.take i)).length
  let xs:Nat->aV:=λi=>lK (sl i) (g i)
  have Dy:ys.length=u.length:=by rw[<-O];simp
  have I: ∀q y,ys[q]?=some y->y.1=g q:=by
   intro q y S;rw[<-O]at S;simp only[afW,azc,afE]at S;obtain⟨p,⟨z,hz,rfl⟩,rfl⟩:=S;have K:q<u.length:=(ac9.1 hz).1;have:=s q K;rw[hz]at this;simpa using this
  have AW: ∀q,q<u.length-> ∃L,ys[q]?=some (g q,L):=λq S=>by
   have:q<ys.length:=by omega
   refine⟨(ys[q]).2,?_⟩;have e:=adR this;rw[e];have:=I q _ e;rw[<-this]
  by_cases hn:res.1= .normal
  ·obtain⟨F,f1,f2,f3,f4⟩:=ND (xs:=xs) (ic E.heap.length ys) [] fr _ res (λq y S=>by
     rw[Dv]at S;obtain⟨y',R,rfl⟩:=afE.1 S;have:=I q y' R;simp only[amQ,alf,xs,sl,<-this]) hr hn
   have NW: (List.range (ic E.heap.length ys).length).map (([]:List FP).length+ ·)=List.range ops.size:=by
    rw[NS,Dy,WY];simp
   rw[NW]at f3;obtain⟨ex,Hi,E'⟩:=res;simp only at f2 f3;subst f2;have V: ∀i o,ops[i]?=some o-> ∀a∈kJ o,a<i:=by
    intro i o ho a ha;have H:i<ops.size:=(al6.1 ho).1;have:=afQ.1 W8 i (by simp;omega);rw[ho]at this;simpa using afQ.1 this a ha
   have T: ∀i j,i<j->j<ops.size->i∉gZ ops 64 j->j9 (xs i) (xs j)=true/\ (F i).ok (F j)=true:=by
    intro i j A D c;have H:i<ops.size:=by omega
    have hb: (((List.range u.length).map λi=>(gZ ops 64 i).eraseDups).getD j []).contains i=false:=by
     simp only[afK,afW,ap6 (show j<u.length by omega),afF,ak7];cases h: (gZ ops 64 j).eraseDups.contains i with
     |false=>rfl
     |true=>
      rw[asU,List.mem_eraseDups]at h;exact absurd h c
    have R:=afQ.1 Y (g i,i) (by rw[amP];exact s i (by omega));have W:=afQ.1 R (g j,j) (by rw[amP];exact s j (by omega));simp only[ge_iff_le,aoI,ai5]at W;refine⟨?_,?_⟩
    ·have sc:j9 (xs i) (xs j)=j9 (g i) (g j):=by
       unfold j9;simp only[xs,Hv,WX]
     rw[sc];rcases W with(h|h)|h
     ·omega
     ·rw[hb]at h;cases h
     ·exact h
    ·by_cases ci: (xs i).i.cls=0
     ·rw[yj ci _ _ _ _ _ (by simp;omega) f3];exact WO _
     ·by_cases cj: (xs j).i.cls=0
      ·rw[yj cj _ _ _ _ _ (by simp;omega) f3];exact WQ _
      ·have same: ∀k,(xs k).i.cls≠0->xs k=g k:=by
         intro k hk;cases v: (g k).fH with
         |none=>exact AT v
         |some b=>exact absurd (by show(lK (sl k) (g k)).i.cls=0;rw[AU v];rfl) hk
       have ei:=same i ci;have ej:=same j cj;have NX:ys[j]?=some (g j,rX u.zipIdx ((List.range u.length).map λi=>(gZ ops 64 i).eraseDups) (g j) j):=by
        rw[<-O];simp only[afW,azc,s j (by omega),afF,alf]
       have N: (ic E.heap.length ys)[j]?=some (xs j,rX u.zipIdx ((List.range u.length).map λi=>(gZ ops 64 i).eraseDups) (g j) j):=by
        rw[Dv,NX];rfl
       have:=f4 j _ N i (by
        rw[ej]at cj;rw[ei]at ci;exact M4 (x:=g i) (by rw[amP];exact s i (by omega)) A ci cj hb) (by simpa using A)
       simpa using this
   refine wpIn_region_draw (λt=>?_);have J: ∃md ord t',Region.schedule (P.follows .mixedOrders) ops t=Region.linearise md ops t'/\uF md ops ord=true:=by
    unfold Region.schedule;split
    ·exact⟨.any,_,t,rfl,W4⟩
    ·split
     ·exact⟨.text,_,_,rfl,W5⟩
     ·exact⟨.gc,_,_,rfl,W7⟩
   obtain⟨md,ord,t',J,yp⟩:=J;rw[J];unfold Region.linearise;have NY: ∀o∈dG ys,∃z tg,o= .box z tg/\aI z=0:=by
    intro o ho;obtain⟨y,R,W⟩:=Hw ys o ho;obtain⟨z,tg,M,rfl⟩:=Du W;refine⟨z,tg,rfl,?_⟩;obtain⟨q,S⟩:=atz R;have K:q<ops.size:=by
     have:=(ac9.1 S).1;omega
    obtain⟨x,e1,e2⟩:=Z q ops[q] (by simp[K]);have e3:=s q (by omega);rw[e1]at e3;rw[I q y S]at M;rw[akw e3]at e2;have:kH P rows ops[q]=some (.alloc z tg):=by
     unfold iN at e2;split at e2
     ·rename_i i' g' h4 h5;rw[<-akw e2]at M;simp only at M;rw[h4,M]
     ·cases e2
    obtain⟨t,_,hc,_⟩:=Hr this;obtain⟨z',_,_,l,_⟩:=rZ hc (Gh.mk (λ_ _=>none) 0 (λi=>i) (λi=>i) (λi=>i) (λi=>i) (λi=>i) (λ_=>none)) w;have:=aG.refs _ _ l;simpa using this
   refine go_sound hC hg (xs:=xs) (F:=F) (rows:=rows) (nt:=nt) md yp sl (λi=>(g i).fH) (λi o ho=>?_) (λi j bi bj H D A=>?_) (gb:=G) (cu:=E) (λi b H=>?_) (λi H d yq=>hd (g i) (ak8 (s i (by omega))) d (by rw[<-Hv (m:=sl i)];exact yq)) V T ops.size t' _ (List.range ops.size) (G.later (dG ys)) (E.mo (dG ys)) E' _ fr Hi a Q
    (λi=>?_) (by simp) List.pairwise_lt_range (λj o ho D=>?_) (by simp) f3 (G.yk _) (.mo E _) (λi H b hb=>?_) (hw.later NY).drew (he.mono (G.yk _)) (hm.mono (G.yk _)) hQ
   ·obtain⟨x,R,W⟩:=Z i o (by simpa using ho);have M:=s i (ac9.1 R).1;rw[R]at M;have M:=akw M;subst M;cases v: (g i).fH with
    |none=>exact .inl ⟨rfl,by rw[W];show _=some (lK (sl i) (g i));rw[AT v]⟩
    |some b=>
     obtain⟨z,tg,h4,rfl⟩:=Du v;refine .inr ⟨z,tg,(g i).g,(g i).dst,rfl,?_,?_⟩
     ·rw[W,<-h4]
     ·show lK (sl i) (g i)=_;rw[AU v]
   ·have NZ:i<u.length:=by
      by_cases h:i<u.length
      ·exact h
      ·have:=Dx i h;rw[this]at H;cases H
    have N0:j<u.length:=by
     by_cases h:j<u.length
     ·exact h
     ·have:=Dx j h;rw[this]at D;cases D
    obtain⟨Li,ei⟩:=AW i NZ;obtain⟨Lj,ej⟩:=AW j N0;have ao7: (dG (ys.take i)).length=(dG (ys.take j)).length:=by
     have:E.heap.length+(dG (ys.take i)).length=E.heap.length+(dG (ys.take j)).length:=A;omega
    rcases aAh i j with h|h|h
    ·have:=Dw ys i j _ bi ei H h;omega
    ·exact h
    ·have:=Dw ys j i _ bj ej D h;omega
   ·show G.n<=E.heap.length+_;rw[hw.len];omega
   ·simp only[alJ,afX,axB];constructor
    ·intro h;exact⟨h,by simp[h]⟩
    ·exactλh=>h.1
   ·exfalso;have K:j<ops.size:=(al6.1 ho).1;simp[afX,K]at D
   ·have K:i<ops.size:=by simpa using H
    obtain⟨L,e⟩:=AW i (by omega);have Dz:=NT ys i _ b e hb;have AX:=(ac9.1 Dz).1;have hn:=hw.len;refine⟨by show E.heap.length+_<G.n+_;omega,?_⟩;show(if E.heap.length+_<G.n then _ else _)=some b;rw[ada (by omega),hn,ahy];exact Dz
  ·obtain⟨F,f,G8,yn,aBZ,f1,q1,f2,f3,f5,f6,f4,f8,f9,f10,f11⟩:=WN (xs:=xs) (ic E.heap.length ys) [] fr _ res (λq y S=>by
     rw[Dv]at S;obtain⟨y',R,rfl⟩:=afE.1 S;have:=I q y' R;simp only[amQ,alf,xs,sl,<-this]) hr hn
   have NW: (List.range f).map (([]:List FP).length+ ·)=List.range f:=by simp
   rw[NW]at f3;obtain⟨ex,Hi,E'⟩:=res;simp only[amQ,alf]at f2 f3 f5 f6 f10 f11;subst f2;have U:f<ops.size:=by
    have:=(ac9.1 q1).1;rw[NS,Dy,WY]at this;exact this
   have V: ∀i o,ops[i]?=some o-> ∀a∈kJ o,a<i:=by
    intro i o ho a ha;have H:i<ops.size:=(al6.1 ho).1;have:=afQ.1 W8 i (by simp;omega);rw[ho]at this;simpa using afQ.1 this a ha
   have N2: ∀i j,j<ops.size->i∉gZ ops 64 j->(((List.range u.length).map λi=>(gZ ops 64 i).eraseDups).getD j []).contains i=false:=by
    intro i j D c;simp only[afK,afW,ap6 (show j<u.length by omega),afF,ak7];cases h: (gZ ops 64 j).eraseDups.contains i with
    |false=>rfl
    |true=>
     rw[asU,List.mem_eraseDups]at h;exact absurd h c
   have sc: ∀i j,i<j->j<ops.size->i∉gZ ops 64 j->j9 (xs i) (xs j)=true:=by
    intro i j A D c;have hb:=N2 i j D c;have R:=afQ.1 Y (g i,i) (by rw[amP];exact s i (by omega));have W:=afQ.1 R (g j,j) (by rw[amP];exact s j (by omega));simp only[ge_iff_le,aoI,ai5]at W;have sc:j9 (xs i) (xs j)=j9 (g i) (g j):=by
     unfold j9;simp only[xs,Hv,WX]
    rw[sc];rcases W with(h|h)|h
    ·omega
    ·rw[hb]at h;cases h
    ·exact h
   have same: ∀k,(xs k).i.cls≠0->xs k=g k:=by
    intro k hk;cases v: (g k).fH with
    |none=>exact AT v
    |some b=>exact absurd (by show(lK (sl k) (g k)).i.cls=0;rw[AU v];rfl) hk
   have N: ∀j,j<ops.size->(ic E.heap.length ys)[j]?=some (xs j,rX u.zipIdx ((List.range u.length).map λi=>(gZ ops 64 i).eraseDups) (g j) j):=by
    intro j D;have NX:ys[j]?=some (g j,rX u.zipIdx ((List.range u.length).map λi=>(gZ ops 64 i).eraseDups) (g j) j):=by
     rw[<-O];simp only[afW,azc,s j (by omega),afF,alf]
    rw[Dv,NX];rfl
   have N3: ∀i j,i<j->j<ops.size->i∉gZ ops 64 j->(xs i).i.cls≠0->(xs j).i.cls≠0->i∈rX u.zipIdx ((List.range u.length).map λi=>(gZ ops 64 i).eraseDups) (g j) j:=by
    intro i j A D c ci cj;have hb:=N2 i j D c;rw[same i ci]at ci;rw[same j cj]at cj;exact M4 (x:=g i) (by rw[amP];exact s i (by omega)) A ci cj hb
   have wa:=N f U;rw[q1]at wa;have wa:=akw wa;subst wa;have T: ∀i j,i<j->j<f->i∉gZ ops 64 j->j9 (xs i) (xs j)=true/\ (F i).ok (F j)=true:=by
    intro i j A D c;refine⟨sc i j A (by omega) c,?_⟩;by_cases ci: (xs i).i.cls=0
    ·rw[yj ci _ _ _ _ _ (by simp;omega) f3];exact WO _
    ·by_cases cj: (xs j).i.cls=0
     ·rw[yj cj _ _ _ _ _ (by simp;omega) f3];exact WQ _
     ·have:=f4 j _ D (N j (by omega)) i (N3 i j A (by omega) c ci cj) (by simpa using A);simpa using this
   have NQ: ∀i,i<f->i∈gZ ops 64 f:=by
    intro i H;refine ahi λc=>?_
    simp only at f8 f9 f10;rcases f10 with f10|f10
    ·rw[same f f9]at f10;exact amY (x:=g i) (by rw[amP];exact s i (by omega)) H f10 (N2 i f U c) f8
    ·have ci: (xs i).i.cls≠0:=λci=>f10 i H (yj ci _ _ _ _ _ (by simp;omega) f3)
     have:=N3 i f H U c ci f9;rw[f8]at this;cases this
   have NR: ∀j,f<j->j<ops.size->f∈gZ ops 64 j:=by
    intro j D N4;refine ahi λc=>?_
    have yr:=f11 j _ D (N j N4);simp only at yr;split at yr
    ·rw[sc f j D N4 c]at yr;cases yr
    ·rename_i cj;exact yr (N3 f j D N4 c f9 cj)
   refine wpIn_region_draw (λt=>?_);have J: ∃md ord t',Region.schedule (P.follows .mixedOrders) ops t=Region.linearise md ops t'/\uF md ops ord=true:=by
    unfold Region.schedule;split
    ·exact⟨.any,_,t,rfl,W4⟩
    ·split
     ·exact⟨.text,_,_,rfl,W5⟩
     ·exact⟨.gc,_,_,rfl,W7⟩
   obtain⟨md,ord,t',J,yp⟩:=J;rw[J];unfold Region.linearise;have NY: ∀o∈dG ys,∃z tg,o= .box z tg/\aI z=0:=by
    intro o ho;obtain⟨y,R,W⟩:=Hw ys o ho;obtain⟨z,tg,M,rfl⟩:=Du W;refine⟨z,tg,rfl,?_⟩;obtain⟨q,S⟩:=atz R;have K:q<ops.size:=by
     have:=(ac9.1 S).1;omega
    obtain⟨x,e1,e2⟩:=Z q ops[q] (by simp[K]);have e3:=s q (by omega);rw[e1]at e3;rw[I q y S]at M;rw[akw e3]at e2;have:kH P rows ops[q]=some (.alloc z tg):=by
     unfold iN at e2;split at e2
     ·rename_i i' g' h4 h5;rw[<-akw e2]at M;simp only at M;rw[h4,M]
     ·cases e2
    obtain⟨t,_,hc,_⟩:=Hr this;obtain⟨z',_,_,l,_⟩:=rZ hc (Gh.mk (λ_ _=>none) 0 (λi=>i) (λi=>i) (λi=>i) (λi=>i) (λi=>i) (λ_=>none)) w;have:=aG.refs _ _ l;simpa using this
   refine ao5 hC hg (xs:=xs) (F:=F) (rows:=rows) (nt:=nt) md yp sl (λi=>(g i).fH) (λi o ho=>?_) (λi j bi bj H D A=>?_) (gb:=G) (cu:=E) (λi b H=>?_) (λi H d yq=>hd (g i) (ak8 (s i (by omega))) d (by rw[<-Hv (m:=sl i)];exact yq)) V U T NQ NR ops.size t' _ (List.range f) (G.later (dG ys)) (E.mo (dG ys)) yn _ fr Hi a Q
    (λi=>?_) (by simp) (λj _ D=>by simp[D]) List.pairwise_lt_range (λj o ho D=>?_) (by simpa using U) f3 f5 f6 (G.yk _) (.mo E _) (λi H b hb=>?_) (hw.later NY).drew (he.mono (G.yk _)) (hm.mono (G.yk _)) hQ
   ·obtain⟨x,R,W⟩:=Z i o (by simpa using ho);have M:=s i (ac9.1 R).1;rw[R]at M;have M:=akw M;subst M;cases v: (g i).fH with
    |none=>exact .inl ⟨rfl,by rw[W];show _=some (lK (sl i) (g i));rw[AT v]⟩
    |some b=>
     obtain⟨z,tg,h4,rfl⟩:=Du v;refine .inr ⟨z,tg,(g i).g,(g i).dst,rfl,?_,?_⟩
     ·rw[W,<-h4]
     ·show lK (sl i) (g i)=_;rw[AU v]
   ·have NZ:i<u.length:=by
      by_cases h:i<u.length
      ·exact h
      ·have:=Dx i h;rw[this]at H;cases H
    have N0:j<u.length:=by
     by_cases h:j<u.length
     ·exact h
     ·have:=Dx j h;rw[this]at D;cases D
    obtain⟨Li,ei⟩:=AW i NZ;obtain⟨Lj,ej⟩:=AW j N0;have ao7: (dG (ys.take i)).length=(dG (ys.take j)).length:=by
     have:E.heap.length+(dG (ys.take i)).length=E.heap.length+(dG (ys.take j)).length:=A;omega
    rcases aAh i j with h|h|h
    ·have:=Dw ys i j _ bi ei H h;omega
    ·exact h
    ·have:=Dw ys j i _ bj ej D h;omega
   ·show G.n<=E.heap.length+_;rw[hw.len];omega
   ·simp only[alJ,afX,axB];constructor
    ·intro h;exact⟨h,by simp[Nat.lt_trans h U]⟩
    ·exactλh=>h.1
   ·exfalso;have K:j<ops.size:=(al6.1 ho).1;simp[afX,K]at D
   ·have K:i<ops.size:=Nat.lt_trans (by simpa using H) U;obtain⟨L,e⟩:=AW i (by omega);have Dz:=NT ys i _ b e hb;have AX:=(ac9.1 Dz).1;have hn:=hw.len;refine⟨by show E.heap.length+_<G.n+_;omega,?_⟩;show(if E.heap.length+_<G.n then _ else _)=some b;rw[ada (by omega),hn,ahy];exact Dz
 grind
def ao8(n:Nat):yf (iter n):=λ_ _ _ _ h=>⟨n,h⟩
theorem W9(a:fz X B az)(b:oX P X)(c: ∀f p,X.b8 f=some p->gz P B az f p): ∀n,fK P B az (iM X n)
 |0=>by intro fv args E d h;simp[iM]at h
 |n+1=>aoS (W9 a b c n) a b (NU a) (ao8 n) c
end
section
variable{P:Program}{X:Ctx}{B:Nat}{az:World}
def Gh.start(w:World):Gh where
 bD b o:=if b<w.heap.size then w.cell? ⟨b,o,none⟩else none
 n:=0
 bg:=id
 base:=id
 aj:=id
 eh:=id
 sz:=id
theorem ba.start(w:World):ba P w.heap.size w (Gh.start w) {heap:=[],lo:=none} w where
 len:=rfl
 bD b o v h:=by
  simp only[Gh.start]at h
  grind
 obj id o h:=by grind
 inj i j a:=absurd a.1 (an0 _)
 sep i a:=absurd a.1 (an0 _)
 low i a:=absurd a.1 (an0 _)
 lO i o a:=absurd a (an0 _)
 lM:=⟨rfl,rfl,rfl,aen _,λ_ _=>rfl⟩
 hB:=aen _
 dN b o v c h:=by simp only[Gh.start];grind
end
section
variable{P:Program}{X:Ctx}{B:Nat}{az:World}
def bE.le(C a:bE):Prop:= ∀f args E r,C f args E=some r->a f args E=some r
def qG(b a:Fr->AS->jw):Prop:= ∀fr E r,b fr E=some r->a fr E=some r
def eA.le(L c:eA):Prop:= ∀b a,qG b a->qG (L b) (c a)
theorem AY{C c:bE}(b:bE.le C c)(i:I)(e:Env)(E:AS)(r:Out)(h:exec X C i e E=some r):exec X c i e E=some r:=by
 cases i with
 |call f args=>
  simp only[exec]at h⊢;split at h
  ·rename_i a;rw[b _ _ _ _ a];exact h
  ·rename_i a;rw[b _ _ _ _ a];exact h
  grind
 |_=>simpa only[exec]using h
theorem Hx{C b:bE}(a:bE.le C b): ∀ (os:List aV),qG (eP X C os) (eP X b os)
 | [],_,_,_,h=>by trivial
 |o::os,fr,E,r,h=>by
  simp only[eP]at h⊢;split at h
  ·rename_i hw;rw[adV hw];split at h
   ·rename_i c;rw[AY a _ _ _ _ c];exact Hx a os _ _ _ h
   ·grind [AY]
   grind
  ·rename_i hw;rw[ada hw];exact Hx a os _ _ _ h
theorem Hy{C c:bE}(b:bE.le C c): ∀ (os:List (aV×lN)) (a:List FP),qG (gw X C a os) (gw X c a os)
 | [],_,_,_,_,h=>by trivial
 |o::os,a,fr,E,r,h=>by
  simp only[gw]at h⊢;split at h
  ·rename_i hw;rw[adV hw];split at h
   ·rename_i d;rw[AY b _ _ _ _ d];simp only;split at h
    ·rename_i e;rw[adV e];exact Hy b os _ _ _ _ h
    grind
   ·grind [AY]
   grind
  ·rename_i hw;rw[ada hw];exact Hy b os _ _ _ _ h
theorem qH{C m:bE}{L l:eA}(d:bE.le C m)(e:eA.le L l)(bT:FuncId)(rd:Bool): ∀pc,qG (bm X C L bT rd pc) (bm X m l bT rd pc)
 |.skip,_,_,_,h=>by trivial
 |.seq a b,fr,E,r,h=>by
  simp only[bm]at h⊢;split at h
  ·rename_i f;rw[qH d e bT rd a _ _ _ f];exact qH d e bT rd b _ _ _ h
  ·cases i:bm X C L bT rd a fr E with
   |none=>grind
   |some q=>
    rw[qH d e bT rd a _ _ _ i]
    grind
 |.cond c a b,fr,E,r,h=>by
  simp only[bm]at h⊢;split at h
  ·rename_i t o;split at h
   ·rename_i j;rw[adV j];exact qH d e bT rd a _ _ _ h
   ·rename_i j;rw[ada j];exact qH d e bT rd b _ _ _ h
  omega
 |.block id body,fr,E,r,h=>by
  simp only[bm]at h⊢;cases i:bm X C L bT rd body fr E with
  |none=>rw[i]at h;cases h
  |some q=>rw[qH d e bT rd body _ _ _ i];rw[i]at h;exact h
 |.loop body,fr,E,r,h=>by
  simp only[bm]at h⊢;exact e _ _ (qH d e bT rd body) _ _ _ h
 |.exit id,_,_,_,h=>by simpa only[bm]using h
 |.ret,_,_,_,h=>by simpa only[bm]using h
 |.aR ops,fr,E,r,h=>by
  simp only[bm]at h⊢;exact Hx d ops _ _ _ h
 |.uA ops,fr,E,r,h=>by
  simp only[bm]at h⊢;exact Hy d _ _ _ _ _ h
 |.ib g ps as bd,fr,E,r,h=>by
  simp only[bm]at h⊢;split at h
  ·cases h
  ·rename_i k;rw[ada k];split at h
   ·rename_i n;rw[adV n];split at h
    ·rename_i f;rw[d _ _ _ _ f];exact h
    ·rename_i f;rw[d _ _ _ _ f];exact h
    ·cases h
   ·cases h
theorem ao9{C o:bE}{L n:eA}(m:bE.le C o)(k:eA.le L n)(l:Nat)(args:lA)(E:AS)(r:aX)(h:lL X C L l args E=some r):lL X o n l args E=some r:=by
 simp only[lL]at h⊢;split at h
 ·rename_i st i f env ps as bd u;split at h
  ·rename_i a;simp only[a,af1];split at h
   ·rename_i fr d p;rw[qH m k _ _ _ _ _ _ p];simp only;split at h
    ·rename_i b t c e g jb s;cases j:bm X C L f true bd fr (d.set l (.loop .busy b t c e g jb) 0)with
     |none=>rw[j]at h;cases h
     |some q=>rw[qH m k _ _ _ _ _ _ j];grind
    omega
   grind
  grind
 omega
def Xa{C c:bE}{L b:eA}(e:bE.le C c)(d:eA.le L b):bE.le (step X C L) (step X c b):=by
 intro v args E r h;unfold step at h⊢;split at h
 ·rename_i f first cap
  split at h
  ·omega
  ·split at h
   ·rename_i pf g;split at h
    ·cases a:bm X C L f false pf.body {env:=di (first++args++cap),marks:=[]} {E with lo:=none}with
     |none=>rw[a]at h;cases h
     |some q=>rw[qH e d _ _ _ _ _ _ a];grind
    grind
   omega
 ·grind [ao9]
 omega
theorem N5: ∀n,eA.le (iter n) (iter (n+1))
 |0,b,c,a,fr,E,r,h=>by trivial
 |n+1,b,c,a,fr,E,r,h=>by
  rw[iter]at h⊢;split at h
  ·rename_i d;rw[a _ _ _ d];exact N5 n b c a _ _ _ h
  ·rw[a _ _ _ h]
   grind
theorem Xb: ∀n,bE.le (iM X n) (iM X (n+1))
 |0=>λf args E r h=>by trivial
 |n+1=>by
  exact Xa (Xb n) (N5 n)
def bE.le_trans{A B C:bE}(h:bE.le A B)(k:bE.le B C):bE.le A C:=λf a s r e=>k f a s r (h f a s r e)
def yt(h:n<=m):bE.le (iM X n) (iM X m):=by
 induction h with
 |refl=>exactλf a s r e=>e
 |step _ b=>exact bE.le_trans b (Xb _)
def N6(h:n<=m)(b:Fr->AS->jw):qG (iter n b) (iter m b):=by
 induction h with
 |refl=>exactλfr s r e=>e
 |step _ a=>exactλfr s r e=>N5 _ b b (λ_ _ _ h=>h) _ _ _ (a fr s r e)
theorem Hz: ∀n (b a:Fr->AS->jw),qG b a->qG (iter n b) (iter n a)
 |0,_,_,_=>λfr E r h=>by trivial
 |n+1,b,a,c=>λfr E r h=>by
  rw[iter]at h⊢;split at h
  ·rename_i d;rw[c _ _ _ d];exact Hz n b a c _ _ _ h
  ·rw[c _ _ _ h]
   grind
def Xc(h:n<=m):eA.le (iter n) (iter m):=by
 intro b a c fr s r e;exact N6 h a _ _ _ (Hz n b a c _ _ _ e)
noncomputable def D(X:Ctx):bE:=λf args E=>
 open Classical in if h: ∃r,∃n,iM X n f args E=some r then some h.choose else none
noncomputable def Lw:eA:=λb fr E=>
 open Classical in if h: ∃r,∃n,iter n b fr E=some r then some h.choose else none
def N7:bE.le (iM X n) (D X):=by
 intro f args E r h;have a: ∃r,∃n,iM X n f args E=some r:=⟨r,n,h⟩;unfold D;obtain⟨m,hm⟩:=a.choose_spec;have c:=yt (aqN n m) _ _ _ _ h;have b:=yt (aqy n m) _ _ _ _ hm
 grind
theorem yu{f:AV}{args:lA}{E:AS}{r:aX}(h:D X f args E=some r): ∃n,iM X n f args E=some r:=by
 unfold D at h;split at h
 ·grind
 grind
def N8{b:Fr->AS->jw}:qG (iter n b) (Lw b):=by
 intro fr E r h;have a: ∃r,∃n,iter n b fr E=some r:=⟨r,n,h⟩;unfold Lw;obtain⟨m,hm⟩:=a.choose_spec;have d:=N6 (aqN n m) b _ _ _ h;have c:=N6 (aqy n m) b _ _ _ hm
 grind
def DA{b:Fr->AS->jw}{a:Fr}{E:AS}{r:Ex×Fr×AS}(h:Lw b a E=some r): ∃n,iter n b a E=some r:=by
 unfold Lw at h;split at h
 ·grind
 grind
theorem apa(b:Fr->AS->jw)(e:Fr)(E:AS):Lw b e E=match b e E with
  |some (.normal,c,E')=>Lw b c E'
  |r=>r:=by
 split
 ·rename_i c E' d;cases g:Lw b c E' with
  |none=>
   cases f:Lw b e E with
   |none=>rfl
   |some r=>
    obtain⟨n,a⟩:=DA f;cases n with
    |zero=>trivial
    |succ n=>rw[iter,d]at a;rw[N8 _ _ _ a]at g;cases g
  |some r=>
   obtain⟨n,a⟩:=DA g;exact N8 (n:=n+1) _ _ _ (by rw[iter,d];exact a)
 ·cases d:b e E with
  |none=>
   cases f:Lw b e E with
   |none=>rfl
   |some r=>
    obtain⟨n,a⟩:=DA f;cases n with
    |zero=>trivial
    |succ n=>rw[iter,d]at a;cases a
  |some q=>
   refine N8 (n:=1) _ _ _ ?_;rw[iter,d]
   grind
theorem HA{i:I}{E:AS}{r:Out}(h:exec X (D X) i e E=some r): ∃n,exec X (iM X n) i e E=some r:=by
 cases i with
 |call f args=>
  simp only[exec]at h⊢;split at h
  ·grind [yu]
  ·rename_i b;obtain⟨n,a⟩:=yu b;exact⟨n,by rw[a];exact h⟩
  grind
 |_=>exact⟨0,by simpa only[exec]using h⟩
theorem N9: ∀ (os:List aV) (fr:Fr) (E:AS) (r:Ex×Fr×AS),eP X (D X) os fr E=some r-> ∃n,eP X (iM X n) os fr E=some r
 | [],_,_,_,h=>⟨0,by trivial⟩
 |o::os,fr,E,r,h=>by
  simp only[eP]at h⊢;split at h
  ·rename_i hw;simp only[hw,af1];split at h
   ·rename_i a;obtain⟨n,b⟩:=HA a;obtain⟨m,hm⟩:=N9 os _ _ _ h;refine⟨max n m,?_⟩;rw[AY (yt (aqN n m)) _ _ _ _ b];exact Hx (yt (aqy n m)) _ _ _ _ hm
   ·grind [HA]
   grind
  ·obtain⟨m,hm⟩:=N9 os _ _ _ h
   grind
theorem Oa: ∀ (os:List (aV×lN)) (a:List FP) (fr:Fr) (E:AS) (r:Ex×Fr×AS),gw X (D X) a os fr E=some r-> ∃n,gw X (iM X n) a os fr E=some r
 | [],_,_,_,_,h=>⟨0,by trivial⟩
 |o::os,a,fr,E,r,h=>by
  simp only[gw]at h⊢;split at h
  ·rename_i hw;simp only[hw,af1];split at h
   ·rename_i b;obtain⟨n,c⟩:=HA b;split at h
    ·rename_i d;obtain⟨m,hm⟩:=Oa os _ _ _ _ h;refine⟨max n m,?_⟩;rw[AY (yt (aqN n m)) _ _ _ _ c];simp only;rw[adV d];exact Hy (yt (aqy n m)) _ _ _ _ _ hm
    grind
   ·rename_i b;obtain⟨n,c⟩:=HA b
    grind
   grind
  ·obtain⟨m,hm⟩:=Oa os _ _ _ _ h
   grind
def yv(h:n<=m)(bT:FuncId)(rd:Bool)(pc:PC):qG (bm X (iM X n) (iter n) bT rd pc) (bm X (iM X m) (iter m) bT rd pc):=
 qH (yt h) (Xc h) bT rd pc
theorem qI(bT:FuncId)(rd:Bool): ∀ (pc:PC) (fr:Fr) (E:AS) (r:Ex×Fr×AS),bm X (D X) Lw bT rd pc fr E=some r-> ∃n,bm X (iM X n) (iter n) bT rd pc fr E=some r
 |.skip,_,_,_,h=>⟨0,by trivial⟩
 |.seq a b,fr,E,r,h=>by
  simp only[bm]at h;split at h
  ·rename_i e;obtain⟨n,d⟩:=qI bT rd a _ _ _ e;obtain⟨m,hm⟩:=qI bT rd b _ _ _ h;refine⟨max n m,?_⟩;simp only[bm];rw[yv (aqN n m) _ _ _ _ _ _ d];exact yv (aqy n m) _ _ _ _ _ _ hm
  ·rename_i e;obtain⟨n,d⟩:=qI bT rd a _ _ _ h;refine⟨n,?_⟩;simp only[bm];rw[d];obtain⟨ex,l,E'⟩:=r;cases ex with
   |normal=>exact absurd h (e _ _)
   |_=>rfl
 |.cond c a b,fr,E,r,h=>by
  simp only[bm]at h;split at h
  ·rename_i t p;split at h
   ·rename_i i;obtain⟨n,d⟩:=qI bT rd a _ _ _ h;exact⟨n,by simp only[bm,p,i,af1];exact d⟩
   ·rename_i i;obtain⟨n,d⟩:=qI bT rd b _ _ _ h;exact⟨n,by simp only[bm,p,ada i];exact d⟩
  ·cases h
 |.block id body,fr,E,r,h=>by
  simp only[bm]at h;cases j:bm X (D X) Lw bT rd body fr E with
  |none=>rw[j]at h;cases h
  |some q=>
   obtain⟨n,d⟩:=qI bT rd body _ _ _ j;refine⟨n,?_⟩;simp only[bm];rw[d];rw[j]at h;exact h
 |.loop body,fr,E,r,h=>by
  simp only[bm]at h;obtain⟨k,u⟩:=DA h;have key: ∀k fr,∀E,iter k (bm X (D X) Lw bT rd body) fr E=some r-> ∃n,iter n (bm X (iM X n) (iter n) bT rd body) fr E=some r:=by
   intro k
   induction k with
   |zero=>intro fr E h;simp[iter]at h
   |succ k s=>
    intro fr E h;rw[iter]at h;split at h
    ·rename_i e;obtain⟨n,d⟩:=qI bT rd body _ _ _ e;obtain⟨m,hm⟩:=s _ _ h;refine⟨max n m+1,?_⟩;rw[iter];rw[yv (show n<=max n m+1 by omega) _ _ _ _ _ _ d];exact Xc (show m<=max n m by omega) _ _ (yv (show m<=max n m+1 by omega) _ _ _) _ _ _ hm
    ·rename_i e;obtain⟨n,d⟩:=qI bT rd body _ _ _ h;refine⟨n+1,?_⟩;rw[iter,yv (Nat.le_succ n) _ _ _ _ _ _ d];obtain⟨ex,l,E'⟩:=r;cases ex with
     |normal=>exact absurd h (e _ _)
     |_=>rfl
  obtain⟨n,d⟩:=key k fr E u;exact⟨n,by simp only[bm];exact d⟩
 |.exit id,_,_,_,h=>⟨0,by simpa only[bm]using h⟩
 |.ret,_,_,_,h=>⟨0,by simpa only[bm]using h⟩
 |.aR ops,fr,E,r,h=>by
  simp only[bm]at h;obtain⟨n,d⟩:=N9 _ _ _ _ h;exact⟨n,by simp only[bm];exact d⟩
 |.uA ops,fr,E,r,h=>by
  simp only[bm]at h;obtain⟨n,d⟩:=Oa _ _ _ _ _ h;exact⟨n,by simp only[bm];exact d⟩
 |.ib g ps as bd,fr,E,r,h=>by
  simp only[bm]at h;split at h
  ·cases h
  ·rename_i f;split at h
   ·rename_i o;split at h
    ·rename_i e;obtain⟨n,d⟩:=yu e;exact⟨n,by simp only[bm];rw[ada f,adV o,d];exact h⟩
    ·rename_i e;obtain⟨n,d⟩:=yu e;exact⟨n,by simp only[bm];rw[ada f,adV o,d];exact h⟩
    ·cases h
   ·cases h
def apb{args:lA}{E:AS}{r:aX}(h:lL X (D X) Lw l args E=some r): ∃n,lL X (iM X n) (iter n) l args E=some r:=by
 simp only[lL]at h⊢;split at h
 ·rename_i st i f env ps as bd t;split at h
  ·rename_i d;split at h
   ·rename_i fr c k;obtain⟨n,o⟩:=qI _ _ _ _ _ _ k;split at h
    ·rename_i a s b e g jb p;cases j:bm X (D X) Lw f true bd fr (c.set l (.loop .busy a s b e g jb) 0)with
     |none=>rw[j]at h;cases h
     |some q=>
      obtain⟨m,hm⟩:=qI _ _ _ _ _ _ j;have e1:=yv (aqN n m) _ _ _ _ _ _ o;have u:=yv (aqy n m) _ _ _ _ _ _ hm
      grind
    grind
   grind
  grind
 grind
def HB{args:lA}{E:AS}{r:aX}(h:step X (D X) Lw v args E=some r):D X v args E=some r:=by
 have key: ∃n,step X (iM X n) (iter n) v args E=some r:=by
  unfold step at h⊢;split at h
  ·rename_i f first cap
   split at h
   ·simp_all
   ·split at h
    ·rename_i pf c;split at h
     ·cases a:bm X (D X) Lw f false pf.body {env:=di (first++args++cap),marks:=[]} {E with lo:=none}with
      |none=>rw[a]at h;cases h
      |some q=>grind [qI]
     grind
    grind
  ·exact apb h
  grind
 obtain⟨n,b⟩:=key;exact N7 (n:=n+1) _ _ _ _ (by trivial)
def Ob(b:fz X B az)(c:oX P X)(d: ∀f p,X.b8 f=some p->gz P B az f p):fK P B az (D X):=by
 intro fv args E e h;obtain⟨n,a⟩:=yu h;exact W9 b c d n fv args E e a
end
def HC:Value->Prop
 |.slice (some a) _ _=>a.spot=none
 |_=>True
section
variable{H:Type}{enc:TypeId×Value->H}{P:Program}{w:World}{sp:Nat->Bool}{held:Bool}
def Oc(R:TypeId->DataW H->lA->Prop):List Field->List (DataW H)->lA->Prop
 | [],e,xs=>e=[]/\xs=[]
 |x::r,e,xs=> ∃d c a b,e=d::c/\xs=a++b/\R x.type d a/\Oc R r c b
def ij(P:Program):Nat->TypeId->DataW H->lA->Prop
 |0,_,_,_=>False
 |f+1,t,d,xs=>match P.underlying t with
  |some .bool=> ∃b,d= .lit (.bool b)/\xs=[.bool b]
  |some (.int k)=> ∃n,d= .lit (.int k n)/\xs=[.int k n]/\ (Lit.int k n).wf=true
  |some .string=> ∃s:ByteArray,d= .lit (.string s.data.toList)/\xs=[.str s]/\s.size<=maxLen
  |some (.slice e)=>(d= .nil/\xs=[.aq])\/ ∃ (es rest:List (DataW H)) (af:List lA),d= .slice es rest/\xs=[.sl af false]/\es.length=af.length/\af.length<=maxLen/\
    ∀ (i:Nat) (a:DataW H) (b:lA),es[i]?=some a->af[i]?=some b->b.length=P.cellsOf e/\ij P f e a b
  |some (.struct fs)=> ∃c,d= .agg c/\Oc (ij P f) fs.toList c xs
  |some (.array n e)=> ∃ (c:List (DataW H)) (af:List lA),d= .agg c/\xs=af.flatten/\c.length=n/\af.length=n/\ ∀ (i:Nat) (a:DataW H) (b:lA),c[i]?=some a->af[i]?=some b->ij P f e a b
  |_=>False
def AZ(P:Program)(g:TypeId->Bool):List Field->Nat->Nat->Bool
 | [],off,n=>off==n
 |x::r,off,n=>x.offset==off&&g x.type&&AZ P g r (off+P.cellsOf x.type) n
def A0(P:Program)(nest:Bool):Nat->TypeId->Bool
 |0,_=>false
 |f+1,t=>match P.underlying t with
  |some .bool=>true
  |some (.int _)=>true
  |some .string=>true
  |some (.slice e)=>nest&&A0 P nest f e
  |some (.struct fs)=>AZ P (A0 P nest f) fs.toList 0 (P.cellsOf t)
  |some (.array n e)=>A0 P nest f e&&P.cellsOf t==n*P.cellsOf e
  |_=>false
def Xd(w:World)(b o:Nat):Option Value:=if b<w.heap.size then w.cell? ⟨b,o,none⟩else none
def apc{b o:Nat}{v:Value}(h:w.cell? ⟨b,o,none⟩=some v):Xd w b o=some v:=by
 unfold Xd;rw[adV,h];unfold World.cell? at h
 grind
def Xe{a:Addr}(h:a.spot=none)(n:Nat):a.add n=⟨a.block,a.off+n,none⟩:=by
 unfold Addr.add;split
 ·obtain⟨b,o,s⟩:=a;grind
 ·rfl
def apd{a:Addr}(e:a.spot=none){c:Nat}{cs:List Value}(h:w.cells? 0 (a.add k) c=some cs):cs.length=c/\ ∀ (j:Nat) (v:Value),cs[j]?=some v->w.cell? ⟨a.block,a.off+k+j,none⟩=some v:=by
 have b:=mapM_some_length h;rw[axy]at b;refine⟨b,λj v d=>?_⟩;have:=mapM_some_get h j j (by grind);rw[d]at this;rw[Xe e,Xe rfl]at this;omega
def Xf{e:TypeId}{R:DataW H->lA->Prop}{a:Addr}(A:a.spot=none)
  (D: ∀ (cs:List Value) d ps,(∀ (j:Nat) (v:Value),cs[j]?=some v-> ∃o,w.cell? ⟨a.block,o,none⟩=some v)->DataW.trod enc P w 0 sp held n e cs=some (d,ps)-> ∃xs,R d xs/\aG (Gh.start w) xs cs/\Leaves cs/\xs.length=cs.length)
  {es:List (DataW H×List MemPlace)} (len:Nat) (M:len<=es.length)
  (h: ∀i,i<len->(w.cells? 0 (a.add (i*P.cellsOf e)) (P.cellsOf e)).bind (DataW.trod enc P w 0 sp held n e)=es[i]?):
  ∃ (af:List lA) (vs:List Value),af.length=len/\ (∀ (i:Nat) (x:DataW H×List MemPlace) (b:lA),es[i]?=some x->af[i]?=some b->b.length=P.cellsOf e/\R x.1 b)/\aG (Gh.start w) af.flatten vs/\Leaves vs/\vs.length=len*P.cellsOf e/\qA (Gh.start w) a.block a.off vs:=by
 induction len with
 |zero=>exact⟨[],[],rfl,λi x b _ f=>by grind,rfl,λv c=>by grind,by simp,λj v c=>by grind⟩
 |succ m y=>
  obtain⟨af,vs,q,J,I,G,F,E⟩:=y (by omega) (λi p=>h i (by omega));have hm:=h m (aqx m);have g:es[m]?=some es[m]:=adR (by omega);rw[g,anc]at hm;obtain⟨cs,C,z⟩:=hm;obtain⟨K,r⟩:=apd A C;obtain⟨xs,u,t,s,L⟩:=D cs es[m].1 es[m].2 (λj v c=>⟨_,r j v c⟩) z;refine⟨af++[xs],vs++cs,by simp[q],λi x b k f=>?_,by rw[amR];simpa using I.append t,G.append s,by simp[F,K,aou],λj v c=>?_⟩
  ·by_cases p:i<af.length
   ·rw[ac7 p]at f;exact J i x b k f
   ·have l:=(ac9.1 f).1;rw[aem,aqP]at l;have:i=m:=by omega
    subst this;rw[afN (by omega),q,Nat.sub_self]at f;simp only[aqv,adQ]at f;rw[g]at k;cases k;cases f;exact⟨by omega,u⟩
  ·by_cases B:j<vs.length
   ·rw[ac7 B]at c;exact E j v c
   ·rw[afN (by omega)]at c;have:=r _ _ c;have e1:a.off+m*P.cellsOf e+(j-vs.length)=a.off+j:=by omega
    rw[e1]at this;exact apc this
theorem Od{n:Nat}{R:TypeId->DataW H->lA->Prop}{g:TypeId->Bool}{cs:List Value}
  (m: ∀t c d ps,g t=true->(∀v∈c,v∈cs)->DataW.trod enc P w 0 sp held n t c=some (d,ps)-> ∃xs,R t d xs/\aG (Gh.start w) xs c/\Leaves c/\xs.length=c.length)
  (N:Nat) (u:cs.length=N):
  ∀ (fs:List Field) (ys:List (DataW H×List MemPlace)) (off:Nat),AZ P g fs off N=true->ys.length=fs.length->(∀ (i:Nat) (f:Field),fs[i]?=some f->DataW.trod enc P w 0 sp held n f.type ((cs.drop f.offset).take (P.cellsOf f.type))=ys[i]?)->
    ∃xs,Oc R fs (ys.map (·.1)) xs/\aG (Gh.start w) xs (cs.drop off)/\Leaves (cs.drop off)/\xs.length=(cs.drop off).length
 | [],ys,off,j,k,_=>by
   simp only[AZ,au6]at j;have:cs.drop off=[]:=ahl (by omega);rw[this];cases ys with
   |nil=>exact⟨[],⟨rfl,rfl⟩,rfl,λv l=>by grind,rfl⟩
   |cons _ _=>grind
 |x::r,ys,off,j,k,h=>by
  simp only[AZ,af0,au6]at j;obtain⟨⟨rfl,s⟩,p⟩:=j;cases ys with
  |nil=>grind
  |cons y ys=>
   have o:=h 0 x rfl;simp only[aqv]at o;obtain⟨a,G,F,E,D⟩:=m x.type _ y.1 y.2 s (λv l=>aoq (ahz l)) o;obtain⟨b,C,B,A,z⟩:=Od m N u r ys (x.offset+P.cellsOf x.type) p (by simpa using k) (λi f q=>by have:=h (i+1) f q;simpa using this);have e:cs.drop x.offset=(cs.drop x.offset).take (P.cellsOf x.type)++cs.drop (x.offset+P.cellsOf x.type):=by
    rw[<-apf];exact(al5 _ _).symm
   refine⟨a++b,⟨y.1,ys.map (·.1),a,b,rfl,rfl,G,C⟩,?_,?_,?_⟩
   ·rw[e];exact F.append B
   ·rw[e];exact E.append A
   ·rw[e,aem,aem,D,z]
def Xg{e:TypeId}{R:DataW H->lA->Prop}{cs:List Value}
  (A: ∀ (c:List Value) d ps,(∀v∈c,v∈cs)->DataW.trod enc P w 0 sp held n e c=some (d,ps)-> ∃xs,R d xs/\aG (Gh.start w) xs c/\Leaves c/\xs.length=c.length)
  {ys:List (DataW H×List MemPlace)} (k:Nat) (z:k*P.cellsOf e<=cs.length) (F:k<=ys.length) (h: ∀i,i<k->DataW.trod enc P w 0 sp held n e ((cs.drop (i*P.cellsOf e)).take (P.cellsOf e))=ys[i]?):
  ∃af:List lA,af.length=k/\ (∀ (i:Nat) (x:DataW H×List MemPlace) (b:lA),ys[i]?=some x->af[i]?=some b->R x.1 b)/\aG (Gh.start w) af.flatten (cs.take (k*P.cellsOf e))/\Leaves (cs.take (k*P.cellsOf e))/\af.flatten.length=k*P.cellsOf e:=by
 induction k with
 |zero=>exact⟨[],rfl,λi x b _ a=>by grind,by simp[aG],λv l=>by grind,by simp⟩
 |succ m y=>
  rw[aou]at z;obtain⟨af,p,E,D,C,B⟩:=y (by omega) (by omega) (λi o=>h i (by omega));have hm:=h m (aqx m);have g:ys[m]?=some ys[m]:=adR (by omega);rw[g]at hm;obtain⟨xs,u,t,s,r⟩:=A _ ys[m].1 ys[m].2 (λv l=>aoq (ahz l)) hm;have f:xs.length=P.cellsOf e:=by rw[r,afT,ams];omega
  have q:cs.take ((m+1)*P.cellsOf e)=cs.take (m*P.cellsOf e)++(cs.drop (m*P.cellsOf e)).take (P.cellsOf e):=by rw[aou,List.take_add]
  refine⟨af++[xs],by simp[p],λi x b f a=>?_,by rw[q,amR];simpa using D.append t,by rw[q];exact C.append s,by rw[amR,aem,B,aou];simp[f]⟩;by_cases o:i<af.length
  ·rw[ac7 o]at a;exact E i x b f a
  ·have j:=(ac9.1 a).1;rw[aem,aqP]at j;have:i=m:=by omega
   subst this;rw[afN (by omega),p,Nat.sub_self]at a;simp only[aqv,adQ]at a;rw[g]at f;cases f;cases a;exact u
theorem HD{nest:Bool}(J:nest=true-> ∀b o v,w.cell? ⟨b,o,none⟩=some v->HC v): ∀ (f:Nat) (t:TypeId) (n:Nat) (cs:List Value) (d:DataW H) (ps:List MemPlace),A0 P nest f t=true->(nest=true-> ∀v∈cs,HC v)->
  DataW.trod enc P w 0 sp held n t cs=some (d,ps)-> ∃xs,ij P f t d xs/\aG (Gh.start w) xs cs/\Leaves cs/\xs.length=cs.length
 |0,_,_,_,_,_,r,_,_=>by trivial
 |f+1,t,n,cs,d,ps,r,C,h=>by
  unfold A0 at r;unfold ij;cases B:P.underlying t with
  |none=>grind
  |some td=>
   rw[B]at r;cases td with
   |bool=>
    obtain⟨b,rfl,l⟩:=DataW.trod_bool B h;cases l;exact⟨[.bool b],⟨b,rfl,rfl⟩,aG.single.2 rfl,λv g=>by simp at g;subst g;rfl,rfl⟩
   |int k=>
    obtain⟨b,rfl,l,T⟩:=DataW.trod_int B h;cases l;exact⟨[.int k b],⟨b,rfl,rfl,T⟩,aG.single.2 rfl,λv g=>by simp at g;subst g;rfl,rfl⟩
   |string=>
    obtain⟨s,rfl,l,F⟩:=DataW.trod_string B h;cases l;exact⟨[.str s],⟨s,rfl,rfl,F⟩,aG.single.2 rfl,λv g=>by simp at g;subst g;rfl,rfl⟩
   |slice e=>
    simp only[af0]at r;obtain⟨D,r⟩:=r;rcases DataW.trod_slice B h with⟨rfl,l⟩| ⟨a,len,cap,es,rest,m,rfl,rfl,l,_,hlc,Wh,W,V,_,_⟩
    ·cases l;exact⟨[.aq],.inl ⟨rfl,rfl⟩,aG.single.2 rfl,λv g=>by simp at g;subst g;rfl,rfl⟩
    ·cases l;have F:a.spot=none:=C D _ (List.mem_singleton_self _);obtain⟨af,vs,Q,O,N,M,h5,h6⟩:=Xf (R:=ij P f e) F (λc I p u q=>HD J f e m c I p r (λ_ v g=>by
      obtain⟨j,L⟩:=asT.1 g;obtain⟨o,ho⟩:=u j v L;exact J D _ _ _ ho) q) len (by omega) V
     refine⟨[.sl af false],.inr ⟨es.map (·.1),rest.map (·.1),af,rfl,rfl,by simp[W,Q],by omega,λi x b l Y=>?_⟩,aG.single.2 ?_,λv g=>by simp at g;subst g;rfl,rfl⟩
     ·rw[afW,afE]at l;obtain⟨y,S,rfl⟩:=l;exact O i y b S Y
     ·refine⟨a.block,a.off,cap,P.cellsOf e,vs,?_,by omega,(λu=>absurd u (by decide)),λel G=>?_,h6,M,bw.iff.2 N⟩
      ·rw[Q];obtain⟨b,o,s⟩:=a;simp at F;subst F;rfl
      ·obtain⟨j,L⟩:=asT.1 G;have hjl:=(ac9.1 L).1;exact(O j es[j] el (adR (by omega)) L).1
   |struct fs=>
    obtain⟨ys,m,rfl,l,K,A,z⟩:=DataW.trod_struct B h;cases l;obtain⟨xs,x1,x2,x3,x4⟩:=Od (R:=ij P f) (cs:=cs) (λt' c I p hg u q=>HD J f t' m c I p hg (λD v g=>C D v (u v g)) q) _ K fs.toList ys 0 r (by simpa using A) (λi fl hi=>z i fl (by simpa using hi));exact⟨xs,⟨_,rfl,x1⟩,by simpa using x2,by simpa using x3,by simpa using x4⟩
   |array k e=>
    simp only[af0,au6]at r;obtain⟨U,u⟩:=r;obtain⟨ys,m,rfl,l,K,A,z⟩:=DataW.trod_array B h;cases l;obtain⟨af,Q,O,N,M,h5⟩:=Xg (R:=ij P f e) (cs:=cs) (λc I p X q=>HD J f e m c I p U (λD v g=>C D v (X v g)) q) k (by rw[K,u];exact aen _) (by omega) z;have E:k*P.cellsOf e=cs.length:=by rw[K,u]
    rw[E,afH]at N M;exact⟨af.flatten,⟨_,af,rfl,rfl,by simpa using A,Q,λi a b Z Y=>by
     rw[afW,afE]at Z;obtain⟨y,S,rfl⟩:=Z;exact O i y b S Y⟩,N,M,by rw[h5,E]⟩
   |_=>cases r
theorem Xh{W j:World}(g:laidOutB P=true)(i:Below W.heap.size W j): ∀ {ts:List TypeId} {vs:List Value} {e:List (DataW H)} {ps:List MemPlace},(ts.all λt=>P.readableRec t&&decide (t<P.types.size))=true->
  DataW.TrodAll enc P W 0 (λ_=>true) true ts vs e ps->(∀x∈ps,x.block<W.heap.size)->DataW.TrodAll enc P j 0 (λb=>decide (b<W.heap.size)) true ts vs e ps
 | [],[],[],_,_,h,_=>h
 |t::ts,v::vs,d::e,ps,c,h,f=>by
  simp only[atB,af0,ai5]at c;obtain⟨p,q,l,k,rfl⟩:=h;exact⟨p,q,Below.trod g c.1.1 c.1.2 l i (λx a=>f x (List.mem_append_left _ a)),Xh g i (by grind) k (λx a=>f x (List.mem_append_right _ a)),rfl⟩
 | [],[],_::_,_,_,h,_=>h.elim
 | [],_::_,_,_,_,h,_=>h.elim
 |_::_,[],_,_,_,h,_=>h.elim
 |_::_,_::_,[],_,_,h,_=>h.elim
end
def apg{P:Program}{X:Ctx}(m:fz X w.heap.size w)(q:oX P X)(r: ∀f p,X.b8 f=some p->gz P w.heap.size w f p){fn:Func}(j:P.funcs[f]?=some fn)(o:fn.body.isSome=true)
  (d: (fn.name== "runtime.NumGoroutine")=false) {args:lA} {a:Array Value} (l:aG (Gh.start w) args a.toList)  {E':AS} (h:D X (.fn (.func f) [] []) args ⟨[],none⟩=some (.ret v E')):
  Calls P f a w λe w'=> ∃G v',e= .returned v'/\an G v v'/\Below w.heap.size w w':=by
 have k:=Ob m q r _ _ _ _ h (Gh.start w) w (.func (.func f) #[] #[]) a (.start w) ⟨_,_,_,rfl,rfl,rfl,rfl⟩ l;have b: (vY (.func (.func f) #[] #[]) a).run P w= .ok (.enter f a) w:=by
  have g: ¬fn.name= "runtime.NumGoroutine" :=by grind
  obtain⟨c,n⟩:=asm.1 o;simp[vY,Deferred.ofValue,invoke,callFunc,aqA,j,g,n]
 rw[b]at k;have i:CallsIn Fence.wide 0 P f a w (Ends P w.heap.size w (Gh.start w) {heap:=[],lo:=none} (.ret v E')):=k;refine callsIn_wide.1 (i.mono λe w' he=>?_);cases e with
 |returned v'=>
  obtain⟨u,x,t,s,_⟩:=he;exact⟨u,v',rfl,s,t.lM⟩
 |panicked _=>trivial
 |outgrown=>trivial
section
abbrev bW:=Ex->Fr->AS->Prop
variable(X:Ctx)
def wp(f:FuncId)(rd:Bool)(pc:PC)(fr:Fr)(E:AS)(Q:bW):Prop:=
 ∃ex a E',bm X (D X) Lw f rd pc fr E=some (ex,a,E')/\Q ex a E'
def dB(os:List aV)(fr:Fr)(E:AS)(Q:bW):Prop:=
 ∃ex a E',eP X (D X) os fr E=some (ex,a,E')/\Q ex a E'
def gL(b:List FP)(os:List (aV×lN))(fr:Fr)(E:AS)(Q:bW):Prop:=
 ∃ex a E',gw X (D X) b os fr E=some (ex,a,E')/\Q ex a E'
def qJ(K Kp:AV->AS->Prop):Option Out->Prop
 |some (.ok v E)=>K v E
 |some (.panic v E)=>Kp v E
 |none=>False
def aW(i:I)(e:Env)(E:AS)(K Kp:AV->AS->Prop):Prop:=qJ K Kp (exec X (D X) i e E)
def DB(f:FuncId)(rd:Bool)(b:PC)(Q:bW):bW
 |.normal,fr,E=>wp X f rd b fr E Q
 |ex,fr,E=>Q ex fr E
def yw(id:Nat)(Q:bW):bW
 |.exit i,fr,E=>if i=id then Q .normal fr E else Q (.exit i) fr E
 |ex,fr,E=>Q ex fr E
def HE(K Kp:AV->AS->Prop):Option aX->Prop
 |some (.ret v E)=>K v E
 |some (.panic v E)=>Kp v E
 |none=>False
def dO(n:Nat)(lo:oN)(b:List RV)(R:aX->Prop):bW
 |.normal,fr,E|.ret,fr,E=> ∃a v,dM E fr.marks=some a/\fI X a fr.env b=some v/\R (.ret (finish n lo v a).1 (finish n lo v a).2)
 |.panic v,fr,E=> ∃a,dM E fr.marks=some a/\R (.panic (finish n lo v a).1 (finish n lo v a).2)
 |.exit _,_,_=>False
def HF(c:AV)(b:Bool)(A B:Prop):Prop:=
 match c with
 |.bool t=>(t=b->A)/\ (t=(!b)->B)
 |_=>False
variable{X}{f:FuncId}{rd:Bool}{fr:Fr}{E:AS}{Q:bW}{e:Env}{ms:lN}{K Kp:AV->AS->Prop}
def aB0{a:Ex}{b:Fr}{c:AS}: (∃ex d E',(some (a,b,c):jw)=some (ex,d,E')/\Q ex d E')↔Q a b c:=
 by grind
def yx(c:AV)(b:Bool)(A B C:Prop):Prop:=
 match c with
 |.bool t=>(t=b->A)/\ (t=(!b)->B)
 |_=>C
def wp_skip:wp X f rd .skip fr E Q=Q .normal fr E:=propext (by simp only[wp,bm];grind)
def wp_exit{id:Nat}:wp X f rd (.exit id) fr E Q=Q (.exit id) fr E:=propext (by simp only[wp,bm];grind)
def wp_ret:wp X f rd .ret fr E Q=Q .ret fr E:=propext (by simp only[wp,bm];grind)
def wp_seq{a:PC}:wp X f rd (.seq a b) fr E Q=wp X f rd a fr E (DB X f rd b Q):=by
 apply propext;simp only[wp,bm];constructor
 ·rintro⟨ex,d,E',h,c⟩;split at h
  ·rename_i g i j;exact⟨_,_,_,j,ex,d,E',h,c⟩
  ·refine⟨_,_,_,h,?_⟩;cases ex with
   |normal=>grind
   |_=>exact c
 ·rintro⟨ex,d,E',h,c⟩;rw[h];cases ex with
  |normal=>exact c
  |exit _=>exact⟨_,_,_,rfl,c⟩
  |ret=>exact⟨_,_,_,rfl,c⟩
  |panic _=>exact⟨_,_,_,rfl,c⟩
def wp_block{id:Nat}:wp X f rd (.block id b) fr E Q=wp X f rd b fr E (yw id Q):=by
 apply propext;simp only[wp,bm];constructor
 ·rintro⟨ex,c,E',h,a⟩;split at h
  ·simp only[yw]
   grind
  ·refine⟨_,_,_,h,?_⟩;cases ex with
   |exit i=>grind
   |_=>exact a
 ·rintro⟨ex,c,E',h,a⟩;rw[h];cases ex with
  |normal=>exact⟨_,_,_,rfl,a⟩
  |exit i=>
   simp only[yw]at a
   grind
  |ret=>exact⟨_,_,_,rfl,a⟩
  |panic _=>exact⟨_,_,_,rfl,a⟩
def wp_cond{c:ao}{a:PC}:wp X f rd (.cond c a b) fr E Q=HF (c.get fr.env) true (wp X f rd a fr E Q) (wp X f rd b fr E Q):=by
 apply propext;simp only[wp,bm,HF];constructor
 ·grind
 ·intro h;cases d:c.get fr.env<;>rw[d]at h<;>simp only at h<;>try rfl
  rename_i t;cases t
  ·grind
  grind
theorem Oe{os:List aV}:wp X f rd (.aR os) fr E Q=dB X os fr E Q:=by rfl
theorem aph{os:List (aV×lN)}:wp X f rd (.uA os) fr E Q=gL X [] (ic E.heap.length os) fr (E.mo (dG os)) Q:=by rfl
def wp_loop{S:Type}(I:S->Fr->AS->Prop)(μ:S->Nat)(s:S)(i:I s fr E)
  (h: ∀s fr E,I s fr E->wp X f rd b fr E (λex a E'=>match ex with|.normal=> ∃s',μ s'<μ s/\I s' a E'|ex=>Q ex a E')):wp X f rd (.loop b) fr E Q:=by
 have key: ∀n s fr E,μ s<n->I s fr E-> ∃ex a E',Lw (bm X (D X) Lw f rd b) fr E=some (ex,a,E')/\Q ex a E':=by
  intro n
  induction n with
  |zero=>simp
  |succ n j=>
   intro s fr E k g;obtain⟨ex,a,E',c,d⟩:=h s fr E g;rw[apa,c]
   grind
 obtain⟨ex,a,E',c,d⟩:=key _ s fr E (aqx _) i;exact⟨ex,a,E',by trivial,d⟩
def wp_mono{pc:PC}{c:bW}(h:wp X f rd pc fr E Q)(g: ∀ex fr E,Q ex fr E->c ex fr E):wp X f rd pc fr E c:=by
 obtain⟨ex,b,E',d,a⟩:=h;exact⟨ex,b,E',d,g _ _ _ a⟩
theorem Xi:DB X f rd b Q .normal fr E=wp X f rd b fr E Q:=rfl
theorem Xj:DB X f rd b Q (.exit i) fr E=Q (.exit i) fr E:=rfl
theorem Xk:DB X f rd b Q .ret fr E=Q .ret fr E:=rfl
theorem Xl:DB X f rd b Q (.panic v) fr E=Q (.panic v) fr E:=rfl
theorem Xm{id:Nat}:yw id Q .normal fr E=Q .normal fr E:=rfl
theorem Xn{id:Nat}:yw id Q (.exit i) fr E=if i=id then Q .normal fr E else Q (.exit i) fr E:=rfl
theorem Xo{id:Nat}:yw id Q .ret fr E=Q .ret fr E:=rfl
theorem Xp{id:Nat}:yw id Q (.panic v) fr E=Q (.panic v) fr E:=rfl
theorem yy{b:List RV}{R:aX->Prop}:dO X n lo b R .ret fr E= ∃a v,dM E fr.marks=some a/\fI X a fr.env b=some v/\R (.ret (finish n lo v a).1 (finish n lo v a).2):=rfl
theorem HG{t b:Bool}{A B:Prop}:HF (.bool t) b A B=((t=b->A)/\ (t=(!b)->B)):=rfl
theorem Xq:HE K Kp (some (.ret v E))=K v E:=rfl
theorem Xr:HE K Kp (some (.panic v E))=Kp v E:=rfl
def Xs:dB X [] fr E Q=Q .normal fr E:=propext (by simp only[dB,eP];grind)
theorem Fr.Xt{d:Nat}:Fr.put ⟨e,ms⟩ (some d) v=⟨e.set d v,ms⟩:=rfl
theorem Fr.Xu:Fr.put ⟨e,ms⟩ none v=⟨e,ms⟩:=rfl
def Of{i:I}{os:List aV}:dB X (⟨none,d,i⟩::os) fr E Q=aW X i fr.env E (λv E'=>dB X os (fr.put d v) E' Q) (λv E'=>Q (.panic v) fr E'):=by
 simp only[dB,aW,eP,ga,af1];cases a:exec X (D X) i fr.env E with
 |none=>simp[qJ]
 |some o=>
  cases o with
  |ok v E'=>rfl
  |panic v E'=>simp only[qJ];grind
def Env.Og{e:Env}:e.set t (e t)=e:=by
 unfold Env.set;grind
def Xv{b:Bool}{i:I}{os:List aV}:dB X (⟨some (t,b),d,i⟩::os) ⟨e,ms⟩ E Q=
  yx (e t) b (aW X i (e.set t (.bool b)) E (λv E'=>dB X os (Fr.put ⟨e.set t (.bool b),ms⟩ d v) E' Q) (λv E'=>Q (.panic v) ⟨e.set t (.bool b),ms⟩ E'))
   (dB X os (Fr.put ⟨e.set t (.bool (!b)),ms⟩ d .undef) E Q) (dB X os (Fr.put ⟨e,ms⟩ d .undef) E Q):=by
 cases g:e t with
 |bool c=>
  have o:c=b->dB X (⟨some (t,b),d,i⟩::os) ⟨e,ms⟩ E Q=dB X (⟨none,d,i⟩::os) ⟨e,ms⟩ E Q:=by
   intro h;subst h;simp only[dB,eP,ga,g,beq_self_eq_true,af1]
  have n:c=(!b)->dB X (⟨some (t,b),d,i⟩::os) ⟨e,ms⟩ E Q=dB X os (Fr.put ⟨e,ms⟩ d .undef) E Q:=by
   intro h;subst h;have: ((!b)==b)=false:=by simp
   simp only[dB,eP,ga,g,this,afG,aiz]
  have l:e.set t (.bool c)=e:=by rw[<-g];exact Env.Og
  apply propext;simp only[yx];by_cases j:c=b
  ·have m: ¬c=(!b):=by subst j;cases c<;>simp
   rw[o j,Of];subst j;rw[l];exact⟨λh=>⟨λ_=>h,λk=>absurd k m⟩,λh=>h.1 rfl⟩
  ·have a:c=(!b):=by cases c<;>cases b<;>simp_all
   rw[n a,<-a,l];exact⟨λh=>⟨λk=>absurd k j,λ_=>h⟩,λh=>h.2 rfl⟩
 |_=>simp only[dB,eP,ga,g,yx,afG,aiz]
theorem Oh{f:FuncId}{first cap args:lA}{H:List ae}{R:aX->Prop}(j:X.b8 f=none)(l:X.code f=some pf)(n: (first++args++cap).length<=pf.ntmps)
  (h:wp X f false pf.body ⟨di (first++args++cap),[]⟩ ⟨H,none⟩ (dO X H.length lo pf.results R)): ∃b,D X (.fn (.func f) first cap) args ⟨H,lo⟩=some b/\R b:=by
 obtain⟨ex,fr,E,m,g⟩:=h;have key: ∀b,leave X H.length lo pf (some (ex,fr,E))=some b->D X (.fn (.func f) first cap) args ⟨H,lo⟩=some b:=by
  intro b k;refine HB ?_;simp only[step,j,l]
  grind
 cases ex with
 |normal=>obtain⟨a,v,d,i,c⟩:=g;exact⟨_,key _ (by simp only[leave,qy,d,i]),c⟩
 |ret=>obtain⟨a,v,d,i,c⟩:=g;exact⟨_,key _ (by simp only[leave,qy,d,i]),c⟩
 |panic v=>obtain⟨a,d,c⟩:=g;exact⟨_,key _ (by simp only[leave,d]),c⟩
 |exit _=>trivial
theorem Xw{f:FuncId}{first cap args:lA}{H:List ae}{a:aX}(b:X.b8 f=none)(d:X.code f=some pf)(c: (first++args++cap).length<=pf.ntmps)
 (h:wp X f false pf.body ⟨di (first++args++cap),[]⟩ ⟨H,none⟩ (dO X H.length lo pf.results (· =a))):D X (.fn (.func f) first cap) args ⟨H,lo⟩=some a:=by grind [Oh]
end
section
variable{X:Ctx}{f:FuncId}{rd:Bool}{fr:Fr}{E:AS}{Q:bW}{e:Env}{ms:lN}{K Kp:AV->AS->Prop}
def cZ{α:Type}(r:Option α)(K:α->Prop):Prop:=
 match r with
 |some a=>K a
 |none=>False
def Xx{g:ao}{as:List ao}:aW X (.call g as) e E K Kp=HE K Kp (D X (g.get e) (as.map (·.get e)) E):=by
 simp only[aW,exec];cases D X (g.get e) (as.map (·.get e)) E with
 |none=>rfl
 |some r=>cases r<;>rfl
def jz{r:Option AV}:qJ K Kp (fV E r)=cZ r (λv=>K v E):=by cases r<;>rfl
def kN(c:BinOp)(x y:AV):Option AV:=match x,y with
 |.int k a,.int _ b=>vS c k a b
 |_,_=>none
theorem aB1:aW X (.mov x) e E K Kp=(K (x.get e) E):=by
 rfl
def api{c:ao}{a:ao}{b:ao}:aW X (.pick c a b) e E K Kp=(cZ (match c.get e with|.bool t=>some t|_=>none) λt=>K (if t then a.get e else b.get e) E):=by
 simp only[aW,exec];cases c.get e<;>rfl
theorem aB2:aW X (.alloc z tg) e E K Kp=(K (.ptr E.heap.length 0) (E.push (.box z tg))):=by
 rfl
def apj:aW X (.box x tg) e E K Kp=(((x.get e).cq=false/\K (.ptr E.heap.length 0) (E.push (.box (x.get e).cells tg)))):=by
 simp only[aW,exec];cases h: (x.get e).cq<;>simp[qJ]
def apk{a:List (Nat×Nat×ao)}:aW X (.build z a) e E K Kp=(cZ (ez z (a.map λp=>(p.1,p.2.1,p.2.2.get e))) λcs=>K (.agg cs) E):=by
 simp only[aW,exec];cases ez z (a.map λp=>(p.1,p.2.1,p.2.2.get e))<;>rfl
def apl{len:Nat}{a:List (Nat×Nat×ao)}:aW X (.bslice z len a) e E K Kp=(cZ (ez (List.replicate len z).flatten (a.map λp=>(p.1,p.2.1,p.2.2.get e))) λcs=>K (.sl (chunks z.length len cs) true) E):=by
 simp only[aW,exec];cases ez (List.replicate len z).flatten (a.map λp=>(p.1,p.2.1,p.2.2.get e))<;>rfl
def apm{ty:TypeId}{len:Nat}{a:List (Nat×Nat×ao)}:aW X (.rQ ty z len a) e E K Kp=(cZ (ez (List.replicate len z).flatten (a.map λp=>(p.1,p.2.1,p.2.2.get e))) λcs=>K (.ref E.heap.length 0 z.length 0 len false) (E.push (.row 0 z.length ty (chunks z.length len cs)))):=by
 simp only[aW,exec];cases ez (List.replicate len z).flatten (a.map λp=>(p.1,p.2.1,p.2.2.get e))<;>rfl
theorem apn{agg:Bool}{a:ao}:aW X (.load agg n a) e E K Kp=(cZ (ck X E agg n (a.get e)) λv=>K v E):=by
 simp only[aW,exec,jz]
theorem apo{a:ao}{v:ao}:aW X (.store n a v) e E K Kp=(cZ (j7 E n (a.get e) (v.get e)) λE'=>K .undef E'):=by
 simp only[aW,exec];cases j7 E n (a.get e) (v.get e)<;>rfl
theorem apq:aW X (.nilck x) e E K Kp=(cZ (vW (x.get e)) λv=>K v E):=by
 simp only[aW,exec,jz]
theorem apr{a:BinOp}:aW X (.bin a x y) e E K Kp=(cZ (dt a (x.get e) (y.get e)) λv=>K v E):=by
 simp only[aW,exec,jz]
theorem aps{a:BinOp}:aW X (.shf a x y) e E K Kp=(cZ (kN a (x.get e) (y.get e)) λv=>K v E):=by
 simp only[aW,exec,kN];cases x.get e<;>first|rfl| (cases y.get e<;>first|rfl|exact jz)
def apt{k:EK}:aW X (.eq k x y) e E K Kp=(cZ (dE k (x.get e) (y.get e)) λb=>K (.bool b) E):=by
 simp only[aW,exec];cases dE k (x.get e) (y.get e)<;>rfl
def apu{k:EK}:aW X (.ne k x y) e E K Kp=(cZ (dE k (x.get e) (y.get e)) λb=>K (.bool !b) E):=by
 simp only[aW,exec];cases dE k (x.get e) (y.get e)<;>rfl
theorem apv{a:UnOp}:aW X (.un a x) e E K Kp=(cZ (xS a (x.get e)) λv=>K v E):=by
 simp only[aW,exec,jz]
def apw{k:IntKind}:aW X (.conv k x) e E K Kp=(cZ (rR (x.get e)) λn=>K (.int k (k.wrap n)) E):=by
 simp only[aW,exec];cases x.get e<;>rfl
def apx:aW X (.s2b x) e E K Kp=(cZ (match x.get e with|.str s=>if s.size<=room then some s else none|_=>none) λs=>K (.sl (rS s) false) E):=by
 simp only[aW,exec];cases x.get e<;>first|rfl| (simp only[];split<;>rfl)
theorem aB3{t:TypeId}:aW X (.mki t x) e E K Kp=(K (.dh t (x.get e)) E):=by
 rfl
theorem aB4{f:Fn}{first:List ao}{cap:List ao}:aW X (.mkf f first cap) e E K Kp=(K (.fn f (first.map (·.get e)) (cap.map (·.get e))) E):=by
 rfl
theorem aB5:aW X (.nN) e E K Kp=(K (.mp E.heap.length) (E.push (.map []))):=by
 rfl
theorem apy{lo:Option ao}{a:Option ao}:aW X (.slstr x lo a) e E K Kp=(cZ (uB (x.get e) (lo.map (·.get e)) (a.map (·.get e))) λv=>K v E):=by
 simp only[aW,exec,jz]
theorem apz{lo:Option ao}{b:Option ao}{a:Option ao}:aW X (.slsl n x lo b a) e E K Kp=(cZ (gu n (x.get e) (lo.map (·.get e)) (b.map (·.get e)) (a.map (·.get e))) λv=>K v E):=by
 simp only[aW,exec,jz]
theorem apA{lo:Option ao}{a:Option ao}:aW X (.slarr n sz x lo a) e E K Kp=(cZ (qt X n sz (x.get e) (lo.map (·.get e)) (a.map (·.get e))) λv=>K v E):=by
 simp only[aW,exec,jz]
theorem apB:aW X (.faddr n x) e E K Kp=(cZ (vV X n (x.get e)) λv=>K v E):=by
 simp only[aW,exec,jz]
def apC{agg:Bool}{off:Nat}:aW X (.fld agg n off x) e E K Kp=(cZ (match x.get e with|.agg cs=>part agg n cs off|_=>none) λv=>K v E):=by
 simp only[aW,exec];cases x.get e<;>first|rfl|exact jz
theorem apD{i:ao}:aW X (.iaddra n sz x i) e E K Kp=(cZ (uC X n sz (x.get e) (i.get e)) λv=>K v E):=by
 simp only[aW,exec,jz]
theorem apE{i:ao}:aW X (.iaddrs sz x i) e E K Kp=(cZ (j8 sz (x.get e) (i.get e)) λv=>K v E):=by
 simp only[aW,exec,jz]
theorem apF{agg:Bool}{i:ao}:aW X (.idxa agg n sz x i) e E K Kp=(cZ (qw agg n sz (x.get e) (i.get e)) λv=>K v E):=by
 simp only[aW,exec,jz]
theorem apG{i:ao}:aW X (.idxs x i) e E K Kp=(cZ (xT (x.get e) (i.get e)) λv=>K v E):=by
 simp only[aW,exec,jz]
theorem apH{b:EK}{z:AV}{m:ao}{k:ao}{a:Bool}:aW X (.lookup b z m k a) e E K Kp=(cZ (jv X.fU E b z (m.get e) (k.get e) a) λv=>K v E):=by
 simp only[aW,exec,jz]
theorem apI{a:EK}{m:ao}{k:ao}{v:ao}:aW X (.oS a m k v) e E K Kp=(cZ (mn E a (m.get e) (k.get e) (v.get e)) λE'=>K .undef E'):=by
 simp only[aW,exec];cases mn E a (m.get e) (k.get e) (v.get e)<;>rfl
theorem apJ{z:AV}{t:TypeId}{a:Bool}:aW X (.ta z x t a) e E K Kp=(cZ (Az z (x.get e) t a) λv=>K v E):=by
 simp only[aW,exec,jz]
def apK:aW X (.ext x i) e E K Kp=(cZ (match x.get e with|.ay vs=>vs[i]?|_=>none) λv=>K v E):=by
 simp only[aW,exec];cases x.get e<;>first|rfl|exact jz
theorem apL{k:EK}:aW X (.len k x) e E K Kp=(cZ (fW E k (x.get e)) λv=>K v E):=by
 simp only[aW,exec,jz]
def apM{ty:TypeId}{bytes:Nat}{s:ao}:aW X (.append ty sz bytes s x) e E K Kp=(cZ (elems E sz (x.get e)) λys=>cZ (du E ty sz bytes (s.get e) ys) λp=>K p.1 p.2):=by
 simp only[aW,exec];cases elems E sz (x.get e)with
 |none=>rfl
 |some ys=>simp only[cZ];cases du E ty sz bytes (s.get e) ys<;>rfl
theorem apN{d:ao}{s:ao}:aW X (.copy sz d s) e E K Kp=(cZ (rT E sz (d.get e) (s.get e)) λp=>K p.1 p.2):=by
 simp only[aW,exec];cases rT E sz (d.get e) (s.get e)<;>rfl
theorem apO:aW X (.clear z x) e E K Kp=(cZ (rU E z (x.get e)) λE'=>K .undef E'):=by
 simp only[aW,exec];cases rU E z (x.get e)<;>rfl
theorem apP{xs:List ao}:aW X (.max xs) e E K Kp=(cZ (gv qu (xs.map (·.get e))) λv=>K v E):=by
 simp only[aW,exec,jz]
theorem apQ{xs:List ao}:aW X (.min xs) e E K Kp=(cZ (gv vU (xs.map (·.get e))) λv=>K v E):=by
 simp only[aW,exec,jz]
def apR:aW X (.panic x) e E K Kp=(cZ (match x.get e with|.dh t v=>some (AV.dh t v)|_=>none) λv=>Kp v E):=by
 simp only[aW,exec];cases x.get e<;>rfl
def HH(b:Bool)(v:AV)(e:Env)(t:Nat):AV:=match b with|true=>v|false=>e t
theorem Xy:HH true v e t=v:=rfl
theorem Xz:HH false v e t=e t:=rfl
def XD{d:Nat}: (e.set d v) t=HH (d==t) v e t:=by
 unfold Env.set HH
 grind
theorem HI{t b:Bool}{A B C:Prop}:yx (.bool t) b A B C=((t=b->A)/\ (t=(!b)->B)):=rfl
theorem push_mk{H:List ae}{o:ae}:AS.push ⟨H,lo⟩ o=⟨H++[o],lo⟩:=rfl
theorem set_mk{H:List ae}{id:Nat}{o:ae}:AS.set ⟨H,lo⟩ id o r=⟨H.set id o,if r<=id+1 then lo else cL lo id⟩:=rfl
end
section
variable{H L:List ae}{n k:Nat}
def dv(h:H.length=n): (H++L)[n]?=L[0]?:=by grind
def bA(h:H.length=n): (H++L)[n+k]?=L[k]?:=by grind
theorem HJ{o:ae}(h:H.length=n): (H++L).set n o=H++L.set 0 o:=by grind
theorem mZ{o:ae}(h:H.length=n): (H++L).set (n+k) o=H++L.set k o:=by grind
def kb(h:H.length=n): (H++L).take n=H:=by grind
end
def HK{v':AV}{H:List ae}(a: (match ak with|none=>true|some j=>decide (n<=j))=true)(b:freeze ⟨H,ak⟩ n 12 v=some v'):finish n lo v ⟨H,ak⟩=(v',⟨H.take n,lo⟩):=by
 cases ak with
 |none=>simp[finish,b]
 |some j=>simp[finish,a,b]
def yz{E:AS}(h:v.refs<=n):freeze E n (k+1) v=some v:=by
 unfold freeze;grind
def XE{H:List ae}(a: (match ak with|none=>true|some j=>decide (n<=j))=true)(b:v.refs<=n):finish n lo v ⟨H,ak⟩=(v,⟨H.take n,lo⟩):=
 HK a (yz b)
def wrap_i64{n:Int}(h: -9223372036854775808<=n)(a:n<=9223372036854775807):IntKind.wrap .i64 n=n:=by
 unfold IntKind.wrap IntKind.bits IntKind.signed;grind
def wrap_u64{n:Int}(h:0<=n)(a:n<=18446744073709551615):IntKind.wrap .u64 n=n:=by
 unfold IntKind.wrap IntKind.bits IntKind.signed;grind
def wrap_u32{n:Int}(h:0<=n)(a:n<=4294967295):IntKind.wrap .u32 n=n:=by
 unfold IntKind.wrap IntKind.bits IntKind.signed;grind
def wrap_i32{n:Int}(h: -2147483648<=n)(a:n<=2147483647):IntKind.wrap .i32 n=n:=by
 unfold IntKind.wrap IntKind.bits IntKind.signed;grind
def wrap_u16{n:Int}(h:0<=n)(a:n<=65535):IntKind.wrap .u16 n=n:=by
 unfold IntKind.wrap IntKind.bits IntKind.signed;grind
def wrap_u8{n:Int}(h:0<=n)(a:n<=255):IntKind.wrap .u8 n=n:=by
 unfold IntKind.wrap IntKind.bits IntKind.signed;grind
def S(l:lB):AV:=.str ⟨l.toArray⟩
theorem apS(l:lB): (⟨l.toArray⟩:ByteArray).size=l.length:=by rfl
def o(d:Nat)(i:I):aV:=⟨none,some d,i⟩
def u(i:I):aV:=⟨none,none,i⟩
def gt(t:Nat)(d:oN)(i:I):aV:=⟨some (t,true),d,i⟩
def gf(t:Nat)(d:oN)(i:I):aV:=⟨some (t,false),d,i⟩
def ci(n:Int):ao:=.c (.int .i64 n)
def cf(f:Nat):ao:=.c (.fn (.func f) [] [])
def kO(P:Program)(f:Nat)(pf:PF):Prop:= ∃rows fn,P.funcs[f]?=some fn/\CZ P rows fn=some pf
section
variable{X:Ctx}{f:FuncId}{rd:Bool}{fr:Fr}{E:AS}{Q:bW}{e:Env}{ms:lN}{K Kp:AV->AS->Prop}
def apT{i:I}{os:List aV}:dB X (gt t d i::os) ⟨e,ms⟩ E Q=
 yx (e t) true (aW X i (e.set t (.bool true)) E (λv E'=>dB X os (Fr.put ⟨e.set t (.bool true),ms⟩ d v) E' Q) (λv E'=>Q (.panic v) ⟨e.set t (.bool true),ms⟩ E'))
  (dB X os (Fr.put ⟨e.set t (.bool false),ms⟩ d .undef) E Q) (dB X os (Fr.put ⟨e,ms⟩ d .undef) E Q):=Xv
def apU{i:I}{os:List aV}:dB X (gf t d i::os) ⟨e,ms⟩ E Q=
 yx (e t) false (aW X i (e.set t (.bool false)) E (λv E'=>dB X os (Fr.put ⟨e.set t (.bool false),ms⟩ d v) E' Q) (λv E'=>Q (.panic v) ⟨e.set t (.bool false),ms⟩ E'))
  (dB X os (Fr.put ⟨e.set t (.bool true),ms⟩ d .undef) E Q) (dB X os (Fr.put ⟨e,ms⟩ d .undef) E Q):=Xv
end
theorem XF:ao.get e (.t i)=e i:=rfl
theorem XG:ao.get e (.c v)=v:=rfl
theorem XH{n:Int}:ao.get e (ci n)= .int .i64 n:=rfl
theorem XI{f:Nat}:ao.get e (cf f)= .fn (.func f) [] []:=rfl
def Oi{X:Ctx}(pf:PF){args:lA}{H:List ae}{a:aX}(b:X.b8 f=none)(g:X.code f=some pf)(c:Nat.ble args.length pf.ntmps=true)
 (h: ∀n,H.length=n->wp X f false pf.body ⟨di args,[]⟩ ⟨H,none⟩ (dO X n lo pf.results (· =a))):D X (.fn (.func f) [] []) args ⟨H,lo⟩=some a:=by grind [Nat.le_of_ble_eq_true,Xw]
def apV{X:Ctx}(pf:PF){args:lA}{H:List ae}{R:aX->Prop}(b:X.b8 f=none)(g:X.code f=some pf)(c:Nat.ble args.length pf.ntmps=true)
 (h: ∀n,H.length=n->wp X f false pf.body ⟨di args,[]⟩ ⟨H,none⟩ (dO X n lo pf.results R)): ∃a,D X (.fn (.func f) [] []) args ⟨H,lo⟩=some a/\R a:=by simp_all[aoG,Oh]
theorem XJ{X:Ctx}{E:AS}:fI X E e [.t t]=some (e t):=rfl
theorem apW{X:Ctx}{E:AS}{u:Nat}:fI X E e [.t t,.t u]=some (.ay [e t,e u]):=rfl
theorem apX{X:Ctx}{E:AS}{u v:Nat}:fI X E e [.t t,.t u,.t v]=some (.ay [e t,e u,e v]):=rfl
theorem yA{E:AS}:dM E []=some E:=rfl
def DC(x:AV)(i:Nat):Option AV:=match x with|.ay vs=>vs[i]?|_=>none
def XK(agg:Bool)(n off:Nat)(x:AV):Option AV:=match x with|.agg cs=>part agg n cs off|_=>none
def nV(E:AS)(x:AV)(tg:Option TypeId):Option (AV×AS):=if x.cq=false then some (.ptr E.heap.length 0,E.push (.box x.cells tg))else none
def Oj(z:lA)(a:List (Nat×Nat×AV)):Option AV:=(ez z a).map .agg
def Ol(z:lA)(len:Nat)(a:List (Nat×Nat×AV)):Option AV:=(ez (List.replicate len z).flatten a).map λcs=>.sl (chunks z.length len cs) true
def Om(E:AS)(ty:TypeId)(z:lA)(len:Nat)(a:List (Nat×Nat×AV)):Option (AV×AS):=
 (ez (List.replicate len z).flatten a).map λcs=>(.ref E.heap.length 0 z.length 0 len false,E.push (.row 0 z.length ty (chunks z.length len cs)))
def XL(x:AV):Option AV:=match x with|.dh t v=>some (.dh t v)|_=>none
def HL(x:AV):Option AV:=match x with|.str s=>if s.size<=room then some (.sl (rS s) false)else none|_=>none
section
variable(X:Ctx)
def kV(os:List aV)(d:Nat)(e:Env)(ms:lN)(Q:bW):AV->AS->Prop:=λv E=>dB X os ⟨e.set d v,ms⟩ E Q
def kU(os:List aV)(e:Env)(ms:lN)(Q:bW):AV->AS->Prop:=λ_ E=>dB X os ⟨e,ms⟩ E Q
def kP(e:Env)(ms:lN)(Q:bW):AV->AS->Prop:=λv E=>Q (.panic v) ⟨e,ms⟩ E
def okV(r:Option AV)(K:AV->AS->Prop)(E:AS):Prop:=match r with|some v=>K v E|none=>False
def wb(r:Option AS)(K:AV->AS->Prop):Prop:=match r with|some E=>K .undef E|none=>False
def sd(r:Option (AV×AS))(K:AV->AS->Prop):Prop:=match r with|some p=>K p.1 p.2|none=>False
def okB(r:Option Bool)(a:Bool)(K:AV->AS->Prop)(E:AS):Prop:=match r with|some b=>K (.bool (if a then !b else b)) E|none=>False
def XM(k:IntKind)(x:AV)(K:AV->AS->Prop)(E:AS):Prop:=match x with|.int _ n=>K (.int k (k.wrap n)) E|_=>False
def On(c a b:AV)(K:AV->AS->Prop)(E:AS):Prop:=match c with|.bool t=>K (if t then a else b) E|_=>False
def XN(r:Option (List lA))(ty:TypeId)(sz bytes:Nat)(s:AV)(K:AV->AS->Prop)(E:AS):Prop:=match r with|some ys=>sd (du E ty sz bytes s ys) K|none=>False
def nW(f:FuncId)(rd:Bool)(a b:PC)(fr:Fr)(E:AS)(Q:bW)(c:AV):Prop:=HF c true (wp X f rd a fr E Q) (wp X f rd b fr E Q)
def gK(t:Nat)(b:Bool)(d:oN)(i:I)(os:List aV)(e:Env)(ms:lN)(E:AS)(Q:bW)(c:AV):Prop:=
 yx c b (aW X i (e.set t (.bool b)) E (match d with|some d=>kV X os d (e.set t (.bool b)) ms Q|none=>kU X os (e.set t (.bool b)) ms Q) (kP (e.set t (.bool b)) ms Q))
  (dB X os (Fr.put ⟨e.set t (.bool (!b)),ms⟩ d .undef) E Q) (dB X os (Fr.put ⟨e,ms⟩ d .undef) E Q)
end
section
variable{X:Ctx}{f:FuncId}{rd:Bool}{fr:Fr}{E:AS}{Q:bW}{e:Env}{ms:lN}{K Kp:AV->AS->Prop}{t:Nat}{d:oN}{i:I}{os:List aV}{dd:Nat}
theorem jA{r:Option AV}:cZ r (λv=>K v E)=okV r K E:=by cases r<;>rfl
theorem Oo{r:Option AS}:cZ r (λE'=>K .undef E')=wb r K:=by cases r<;>rfl
theorem XO{r:Option (AV×AS)}:cZ r (λp=>K p.1 p.2)=sd r K:=by cases r<;>rfl
def XP:dB X (o dd i::os) ⟨e,ms⟩ E Q=aW X i e E (kV X os dd e ms Q) (kP e ms Q):=Of
def XQ:dB X (u i::os) ⟨e,ms⟩ E Q=aW X i e E (kU X os e ms Q) (kP e ms Q):=Of
def Oq:dB X (gt t d i::os) ⟨e,ms⟩ E Q=gK X t true d i os e ms E Q (e t):=by
 rw[apT];cases d<;>rfl
def Ot:dB X (gf t d i::os) ⟨e,ms⟩ E Q=gK X t false d i os e ms E Q (e t):=by
 rw[apU];cases d<;>rfl
theorem XR:kV X os dd e ms Q v E=dB X os ⟨e.set dd v,ms⟩ E Q:=rfl
theorem XS:kU X os e ms Q v E=dB X os ⟨e,ms⟩ E Q:=rfl
theorem XT:kP e ms Q v E=Q (.panic v) ⟨e,ms⟩ E:=rfl
theorem XU:okV (some v) K E=K v E:=rfl
def XV{c:Prop}[Decidable c]{v:Option AV}:okV (if c then v else none) K E=(c/\okV v K E):=by split<;>simp[*,okV]
theorem XW:wb (some E) K=K .undef E:=rfl
def XX{c:Prop}[Decidable c]{v:Option AS}:wb (if c then v else none) K=(c/\wb v K):=by split<;>simp[*,wb]
theorem XY:sd (some (v,E)) K=K v E:=rfl
theorem XZ{b:Bool}:okB (some b) false K E=K (.bool b) E:=rfl
theorem X7{b:Bool}:okB (some b) true K E=K (.bool (!b)) E:=rfl
theorem X8{k:IntKind}{n:Int}:XM k (.int k' n) K E=K (.int k (k.wrap n)) E:=rfl
theorem X9{a b:AV}:On (.bool true) a b K E=K a E:=rfl
theorem Ya{a b:AV}:On (.bool false) a b K E=K b E:=rfl
theorem Yb{ys:List lA}{ty:TypeId}{bytes:Nat}{s:AV}:XN (some ys) ty sz bytes s K E=sd (du E ty sz bytes s ys) K:=rfl
def Ou{c:ao}{a:PC}:wp X f rd (.cond c a b) fr E Q=nW X f rd a b fr E Q (c.get fr.env):=wp_cond
def Yc{a:PC}:nW X f rd a b fr E Q (.bool true)=wp X f rd a fr E Q:=by simp[nW,HG]
def Yd{a:PC}:nW X f rd a b fr E Q (.bool false)=wp X f rd b fr E Q:=by simp[nW,HG]
def bQ{a:PC}{p:Prop}[Decidable p]:nW X f rd a b fr E Q (.bool (decide p))=((p->wp X f rd a fr E Q)/\ (¬p->wp X f rd b fr E Q)):=by simp[nW,HG]
def Ye{a:PC}:nW X f rd a b fr E Q (.bool (!c))=nW X f rd b a fr E Q (.bool c):=by cases c<;>simp[nW,HG]
theorem Yf{b:Bool}{c:lA}:gK X t b (some dd) i os e ms E Q (.ay c)=dB X os ⟨e.set dd .undef,ms⟩ E Q:=rfl
theorem Yg{b:Bool}{c:lA}:gK X t b none i os e ms E Q (.ay c)=dB X os ⟨e,ms⟩ E Q:=rfl
def Yh:gK X t true (some dd) i os e ms E Q (.bool true)=aW X i (e.set t (.bool true)) E (kV X os dd (e.set t (.bool true)) ms Q) (kP (e.set t (.bool true)) ms Q):=by simp[gK,HI]
def Yi:gK X t false (some dd) i os e ms E Q (.bool false)=aW X i (e.set t (.bool false)) E (kV X os dd (e.set t (.bool false)) ms Q) (kP (e.set t (.bool false)) ms Q):=by simp[gK,HI]
def Yj:gK X t true d i os e ms E Q (.bool false)=dB X os (Fr.put ⟨e.set t (.bool false),ms⟩ d .undef) E Q:=by simp[gK,HI]
def Yk:gK X t false d i os e ms E Q (.bool true)=dB X os (Fr.put ⟨e.set t (.bool true),ms⟩ d .undef) E Q:=by simp[gK,HI]
def Yl{b:Bool}{p:Prop}[Decidable p]:gK X t b d i os e ms E Q (.bool (decide p))=((p->gK X t b d i os e ms E Q (.bool true))/\ (¬p->gK X t b d i os e ms E Q (.bool false))):=by
 by_cases h:p<;>simp[h]
theorem Ym:aW X (.mov x) e E K Kp=(K (x.get e) E):=by rfl
def Yn{c:ao}{a:ao}{b:ao}:aW X (.pick c a b) e E K Kp=(On (c.get e) (a.get e) (b.get e) K E):=by
 first|rfl|rfl|rfl|rfl| (rw[api];cases c.get e<;>rfl)
theorem Yo:aW X (.alloc z tg) e E K Kp=(K (.ptr E.heap.length 0) (E.push (.box z tg))):=by rfl
def Yp{agg:Bool}{a:ao}:aW X (.load agg n a) e E K Kp=(okV (ck X E agg n (a.get e)) K E):=by grind [apn,jA]
def Yq{a:ao}{v:ao}:aW X (.store n a v) e E K Kp=(wb (j7 E n (a.get e) (v.get e)) K):=by grind [apo,Oo]
def Yr:aW X (.nilck x) e E K Kp=(okV (vW (x.get e)) K E):=by grind [apq,jA]
def Ys{a:BinOp}:aW X (.bin a x y) e E K Kp=(okV (dt a (x.get e) (y.get e)) K E):=by grind [apr,jA]
def Yt{a:BinOp}:aW X (.shf a x y) e E K Kp=(okV (kN a (x.get e) (y.get e)) K E):=by grind [aps,jA]
def Yu{k:EK}:aW X (.eq k x y) e E K Kp=(okB (dE k (x.get e) (y.get e)) false K E):=by
 first|rfl|rfl|rfl|rfl| (rw[apt];cases dE k (x.get e) (y.get e)<;>rfl)
def Yv{k:EK}:aW X (.ne k x y) e E K Kp=(okB (dE k (x.get e) (y.get e)) true K E):=by
 first|rfl|rfl|rfl|rfl| (rw[apu];cases dE k (x.get e) (y.get e)<;>rfl)
def Yw{a:UnOp}:aW X (.un a x) e E K Kp=(okV (xS a (x.get e)) K E):=by grind [apv,jA]
def Yx{k:IntKind}:aW X (.conv k x) e E K Kp=(XM k (x.get e) K E):=by
 first|rfl|rfl|rfl|rfl| (rw[apw];cases x.get e<;>rfl)
theorem Yy{t:TypeId}:aW X (.mki t x) e E K Kp=(K (.dh t (x.get e)) E):=by rfl
theorem Yz{f:Fn}{first:List ao}{cap:List ao}:aW X (.mkf f first cap) e E K Kp=(K (.fn f (first.map (ao.get e)) (cap.map (ao.get e))) E):=by rfl
theorem YA:aW X (.nN) e E K Kp=(K (.mp E.heap.length) (E.push (.map []))):=by rfl
def YB{lo:Option ao}{a:Option ao}:aW X (.slstr x lo a) e E K Kp=(okV (uB (x.get e) (lo.map (ao.get e)) (a.map (ao.get e))) K E):=by grind [apy,jA]
def YC{lo:Option ao}{b:Option ao}{a:Option ao}:aW X (.slsl n x lo b a) e E K Kp=(okV (gu n (x.get e) (lo.map (ao.get e)) (b.map (ao.get e)) (a.map (ao.get e))) K E):=by grind [apz,jA]
def YD{lo:Option ao}{a:Option ao}:aW X (.slarr n sz x lo a) e E K Kp=(okV (qt X n sz (x.get e) (lo.map (ao.get e)) (a.map (ao.get e))) K E):=by grind [apA,jA]
def YE:aW X (.faddr n x) e E K Kp=(okV (vV X n (x.get e)) K E):=by grind [apB,jA]
def YF{i:ao}:aW X (.iaddra n sz x i) e E K Kp=(okV (uC X n sz (x.get e) (i.get e)) K E):=by grind [apD,jA]
def YG{i:ao}:aW X (.iaddrs sz x i) e E K Kp=(okV (j8 sz (x.get e) (i.get e)) K E):=by grind [apE,jA]
def YH{agg:Bool}{i:ao}:aW X (.idxa agg n sz x i) e E K Kp=(okV (qw agg n sz (x.get e) (i.get e)) K E):=by grind [apF,jA]
def YI{i:ao}:aW X (.idxs x i) e E K Kp=(okV (xT (x.get e) (i.get e)) K E):=by grind [apG,jA]
def YJ{b:EK}{z:AV}{m:ao}{k:ao}{a:Bool}:aW X (.lookup b z m k a) e E K Kp=(okV (jv X.fU E b z (m.get e) (k.get e) a) K E):=by grind [apH,jA]
def YK{a:EK}{m:ao}{k:ao}{v:ao}:aW X (.oS a m k v) e E K Kp=(wb (mn E a (m.get e) (k.get e) (v.get e)) K):=by grind [apI,Oo]
def YL{z:AV}{t:TypeId}{a:Bool}:aW X (.ta z x t a) e E K Kp=(okV (Az z (x.get e) t a) K E):=by grind [apJ,jA]
def YM{k:EK}:aW X (.len k x) e E K Kp=(okV (fW E k (x.get e)) K E):=by grind [apL,jA]
def YN{ty:TypeId}{bytes:Nat}{s:ao}:aW X (.append ty sz bytes s x) e E K Kp=(XN (elems E sz (x.get e)) ty sz bytes (s.get e) K E):=by
 first|rfl|rfl|rfl|rfl| (rw[apM];cases elems E sz (x.get e)<;>first|rfl|exact XO)
def YO{d:ao}{s:ao}:aW X (.copy sz d s) e E K Kp=(sd (rT E sz (d.get e) (s.get e)) K):=by grind [apN,XO]
def YP:aW X (.clear z x) e E K Kp=(wb (rU E z (x.get e)) K):=by grind [apO,Oo]
def YQ{xs:List ao}:aW X (.max xs) e E K Kp=(okV (gv qu (xs.map (ao.get e))) K E):=by grind [apP,jA]
def YR{xs:List ao}:aW X (.min xs) e E K Kp=(okV (gv vU (xs.map (ao.get e))) K E):=by grind [apQ,jA]
def YS{i:Nat}:aW X (.ext x i) e E K Kp=(okV (DC (x.get e) i) K E):=by
 first|rfl| (rw[apK];exact jA)|rfl|rfl|rfl
def YT{agg:Bool}{off:Nat}:aW X (.fld agg n off x) e E K Kp=(okV (XK agg n off (x.get e)) K E):=by
 first|rfl| (rw[apC];exact jA)|rfl|rfl|rfl
def YU:aW X (.box x tg) e E K Kp=(sd (nV E (x.get e) tg) K):=by
 first|rfl|rfl|rfl|rfl| (rw[apj];unfold nV;cases h: (x.get e).cq<;>simp[sd])
def YW{a:List (Nat×Nat×ao)}:aW X (.build z a) e E K Kp=(okV (Oj z (a.map λp=>(p.1,p.2.1,p.2.2.get e))) K E):=by
 first|rfl|rfl|rfl|rfl| (rw[apk];unfold Oj;cases ez z (a.map λp=>(p.1,p.2.1,p.2.2.get e))<;>rfl)
def YX{len:Nat}{a:List (Nat×Nat×ao)}:aW X (.bslice z len a) e E K Kp=(okV (Ol z len (a.map λp=>(p.1,p.2.1,p.2.2.get e))) K E):=by
 first|rfl|rfl|rfl|rfl| (rw[apl];unfold Ol;cases ez (List.replicate len z).flatten (a.map λp=>(p.1,p.2.1,p.2.2.get e))<;>rfl)
def YY{ty:TypeId}{len:Nat}{a:List (Nat×Nat×ao)}:aW X (.rQ ty z len a) e E K Kp=(sd (Om E ty z len (a.map λp=>(p.1,p.2.1,p.2.2.get e))) K):=by
 first|rfl|rfl|rfl|rfl| (rw[apm];unfold Om;cases ez (List.replicate len z).flatten (a.map λp=>(p.1,p.2.1,p.2.2.get e))<;>rfl)
def YZ:aW X (.panic x) e E K Kp=(okV (XL (x.get e)) Kp E):=by
 first|rfl|rfl|rfl|rfl| (rw[apR];cases x.get e<;>rfl)
def Y0:aW X (.s2b x) e E K Kp=(okV (HL (x.get e)) K E):=by
 first|rfl|rfl|rfl|rfl| (rw[apx];cases x.get e<;>first|rfl| (rename_i q;simp only[HL];by_cases a:q.size<=room<;>simp only[a,af1,aiz]<;>rfl))
end
def R1:=gG @wp_skip<|gG @wp_exit<|gG @wp_ret<|gG @wp_seq<|gG @wp_block<|gG @Ou<|gG @Oe<|gG @Xi<|gG @Xj<|gG @Xk<|gG @Xl<|gG @Xm<|gG @Xn<|gG @Xo<|gG @Xp<|gG @Xs<|gG @XP<|gG @XQ<|gG @Oq<|gG @Ot<|gG @XR<|gG @XS<|gG @XT<|gG @Xx<|gG @Ym<|gG @Yn<|gG @Yo<|gG @Yp<|gG @Yq<|gG @Yr<|gG @Ys<|gG @Yt<|gG @Yu<|gG @Yv<|gG @Yw<|gG @Yx<|gG @Yy<|gG @Yz<|gG @YA<|gG @YB<|gG @YC<|gG @YD<|gG @YE<|gG @YF<|gG @YG<|gG @YH<|gG @YI<|gG @YJ<|gG @YK<|gG @YL<|gG @YM<|gG @YN<|gG @YO<|gG @YP<|gG @YQ<|gG @YR<|gG @YS<|gG @YT<|gG @YU<|gG @YW<|gG @YX<|gG @YY<|gG @YZ @Y0
def R2:=gG @Xq<|gG @Xr<|gG @XU<|gG @XV<|gG @XW<|gG @XX<|gG @XY<|gG @XZ<|gG @X7<|gG @X8<|gG @X9<|gG @Ya<|gG @Yb<|gG @Yc<|gG @Yd<|gG @Ye<|gG @Yf<|gG @Yg<|gG @Yh<|gG @Yi<|gG @Yj<|gG @Yk<|gG @Fr.Xt<|gG @Fr.Xu<|gG @XF<|gG @XG<|gG @XH<|gG @XI<|gG @push_mk @set_mk
def R4:=gG @Yl @bQ
section
variable{X:Ctx}{f:FuncId}{rd:Bool}{E:AS}{Q:bW}{e:Env}{ms:lN}{K Kp:AV->AS->Prop}{k:IntKind}{a b c:Int}{l m:lB}{n:Nat}{lo:oN}{H L:List ae}{R:aX->Prop}
def Y1:dt .add (.int k a) (.int k b)=some (.int k (k.wrap (a+b))):=by simp[dt,mm]
def Y2:dt .sub (.int k a) (.int k b)=some (.int k (k.wrap (a-b))):=by simp[dt,mm]
def Y3:dt .mul (.int k a) (.int k b)=some (.int k (k.wrap (a*b))):=by simp[dt,mm]
def Y4:dt .quo (.int k a) (.int k b)=if b≠0 then some (.int k (k.wrap (a.tdiv b)))else none:=by
 by_cases h:b=0<;>simp[dt,mm,h]
def Y5:dt .rem (.int k a) (.int k b)=if b≠0 then some (.int k (a.tmod b))else none:=by
 by_cases h:b=0<;>simp[dt,mm,h]
def Y6:dt .lss (.int k a) (.int k b)=some (.bool (decide (a<b))):=by simp[dt,mm]
def Y7:dt .leq (.int k a) (.int k b)=some (.bool (decide (a<=b))):=by simp[dt,mm]
def Y8:dt .gtr (.int k a) (.int k b)=some (.bool (decide (b<a))):=by simp[dt,mm]
def Y9:dt .geq (.int k a) (.int k b)=some (.bool (decide (b<=a))):=by simp[dt,mm]
def DD:dt .and (.int k a) (.int k b)=some (.int k (k.wrap (BitVec.ofInt k.bits a&&&BitVec.ofInt k.bits b).toNat)):=by simp[dt,mm,vR]
def HM:dt .or (.int k a) (.int k b)=some (.int k (k.wrap (BitVec.ofInt k.bits a|||BitVec.ofInt k.bits b).toNat)):=by simp[dt,mm,vR]
def Ov:dt .xor (.int k a) (.int k b)=some (.int k (k.wrap (BitVec.ofInt k.bits a^^^BitVec.ofInt k.bits b).toNat)):=by simp[dt,mm,vR]
def Ox:dt .andNot (.int k a) (.int k b)=some (.int k (k.wrap (BitVec.ofInt k.bits a&&& ~~~ (BitVec.ofInt k.bits b)).toNat)):=by simp[dt,mm,vR]
def A1:kN .shl (.int k a) (.int k' b)=if 0<=b then some (.int k (k.wrap (a*2^(min b.toNat k.bits))))else none:=by
 by_cases h:0<=b
 ·have: ¬b<0:=by omega
  simp[kN,vS,h,this]
 ·have:b<0:=by omega
  simp[kN,vS,h,this]
def DE:kN .shr (.int k a) (.int k' b)=if 0<=b then some (.int k (a.fdiv (2^(min b.toNat k.bits))))else none:=by
 by_cases h:0<=b
 ·have: ¬b<0:=by omega
  simp[kN,vS,h,this]
 ·have:b<0:=by omega
  simp[kN,vS,h,this]
def eq_int:dE .int (.int k a) (.int k b)=some (decide (a=b)):=by
 simp only[dE,qs,af1];grind
theorem Za{x y:Bool}:dE .bool (.bool x) (.bool y)=some (x==y):=rfl
theorem Zb{x:Bool}:xS .not (.bool x)=some (.bool !x):=rfl
theorem Zc:xS .neg (.int k a)=some (.int k (k.wrap (0-a))):=rfl
theorem Zd:fW E .str (S l)=some (.int .i64 l.length):=by rfl
def Ze:xT (S l) (.int k a)=if 0<=a/\a<l.length then some (.int .u8 (l.getD a.toNat 0).toNat)else none:=by
 simp only[xT,rR,S]
 grind
def apY(i j:Nat): (⟨l.toArray⟩:ByteArray).extract i j=⟨((l.take j).drop i).toArray⟩:=by
 apply ByteArray.ext;simp[ByteArray.data_extract,awZ]
def HN:uB (S l) (some (.int k a)) none=if 0<=a/\a<=l.length then some (S (l.drop a.toNat))else none:=by
 simp only[uB,S,gr,lH,apS];by_cases h:0<=a/\a<=l.length
 ·simp_all[adV,apY]
 grind
theorem Zf: (S l).cq=false:=rfl
theorem Zg: (S l).cells=[S l]:=rfl
theorem Zh: (S l).refs=0:=rfl
def Zi:dO X n lo [.t t] R .ret ⟨e,[]⟩ E=R (.ret (finish n lo (e t) E).1 (finish n lo (e t) E).2):=by
 simp[dO,dM,XJ]
def Zj{u:Nat}:dO X n lo [.t t,.t u] R .ret ⟨e,[]⟩ E=R (.ret (finish n lo (.ay [e t,e u]) E).1 (finish n lo (.ay [e t,e u]) E).2):=by
 simp[dO,dM,apW]
def Zk{u v:Nat}:dO X n lo [.t t,.t u,.t v] R .ret ⟨e,[]⟩ E=R (.ret (finish n lo (.ay [e t,e u,e v]) E).1 (finish n lo (.ay [e t,e u,e v]) E).2):=by
 simp[dO,dM,apX]
def Zl:dO X n lo [] R .ret ⟨e,[]⟩ E=R (.ret (finish n lo (.ay []) E).1 (finish n lo (.ay []) E).2):=by
 simp[dO,dM,fI,ka]
def Zm:dO X n lo [] R .normal ⟨e,[]⟩ E=R (.ret (finish n lo (.ay []) E).1 (finish n lo (.ay []) E).2):=by
 simp[dO,dM,fI,ka]
def yB:finish n lo v ⟨H,none⟩=if v.refs<=n then(v,⟨H.take n,lo⟩)else match freeze ⟨H,none⟩ n 12 v with|some v'=>(v',⟨H.take n,lo⟩)|none=>(v,⟨H,gq lo none⟩):=by
 by_cases h:v.refs<=n
 ·rw[adV h,XE rfl h]
 ·rw[ada h];rfl
def DF:finish n lo v ⟨H,some j⟩=if n<=j then(if v.refs<=n then(v,⟨H.take n,lo⟩)else match freeze ⟨H,some j⟩ n 12 v with|some v'=>(v',⟨H.take n,lo⟩)|none=>(v,⟨H,gq lo (some j)⟩))else(v,⟨H,gq lo (some j)⟩):=by
 by_cases d:n<=j
 ·rw[adV d];by_cases h:v.refs<=n
  ·rw[adV h,XE (by grind) h]
  ·rw[ada h];simp only[finish,ai5,adV d];rfl
 ·simp only[finish,ai5,ada d]
def Zn(h:H.length=n):H.take n=H:=by grind
theorem Zo{agg:Bool}{m id off:Nat}{lo:oN}:ck X ⟨H,lo⟩ agg m (.ptr id off)=match H[id]? with
 |some (.box cs _)=>part agg m cs off
 |_=>none:=rfl
theorem Zp{agg:Bool}{m off:Nat}{cs:lA}:ck X E agg m (.eX cs off)=part agg m cs off:=rfl
theorem Zq{m id off:Nat}{v:AV}{lo:oN}:j7 ⟨H,lo⟩ m (.ptr id off) v=match H[id]? with
 |some (.box cs tg)=>if v.cq=false/\v.cells.length=m/\off+m<=cs.length then some (AS.set ⟨H,lo⟩ id (.box (aK cs off v.cells) tg) v.refs)else none
 |_=>none:=rfl
theorem Zr{m:Nat}{cs:lA}{off:Nat}:part false m cs off=cs[off]?:=rfl
theorem Zs{m:Nat}{cs:lA}{off:Nat}:part true m cs off=if off+m<=cs.length then some (.agg ((cs.drop off).take m))else none:=rfl
theorem Zt{id off:Nat}:vW (.ptr id off)=some (.ptr id off):=rfl
theorem Zu{id off:Nat}:vW (.dp id aj i off)=some (.dp id aj i off):=rfl
theorem Zv{cs:lA}{off:Nat}:vW (.eX cs off)=some (.eX cs off):=rfl
theorem Zw{id off m:Nat}:vV X m (.ptr id off)=some (.ptr id (off+m)):=rfl
theorem Zx{id off m:Nat}:vV X m (.dp id aj i off)=some (.dp id aj i (off+m)):=rfl
theorem Zy{cs:lA}{off m:Nat}:vV X m (.eX cs off)=some (.eX cs (off+m)):=rfl
theorem ZA:nV E (.int k a) tg=some (.ptr E.heap.length 0,E.push (.box [.int k a] tg)):=rfl
theorem ZB{b:Bool}:nV E (.bool b) tg=some (.ptr E.heap.length 0,E.push (.box [.bool b] tg)):=rfl
theorem ZC:nV E (S l) tg=some (.ptr E.heap.length 0,E.push (.box [S l] tg)):=rfl
theorem ZD{cs:lA}:nV E (.agg cs) tg=some (.ptr E.heap.length 0,E.push (.box cs tg)):=rfl
def ZE{cs:lA}:aK cs 0 vs=vs++cs.drop vs.length:=by simp[aK]
def ZF{cs:lA}{c:AV}{off:Nat}:aK (c::cs) (off+1) vs=c::aK cs off vs:=by
 simp[aK,Nat.add_right_comm]
theorem ZG{k:IntKind}{n:Int}:AV.cq (.int k n)=false:=rfl
theorem ZH{k:IntKind}{n:Int}:AV.cells (.int k n)=[.int k n]:=rfl
theorem ZI{b:Bool}:AV.cq (.bool b)=false:=rfl
theorem ZJ{b:Bool}:AV.cells (.bool b)=[.bool b]:=rfl
theorem ZK{o:Nat}:AV.cq (.ptr i o)=false:=rfl
theorem ZL{o:Nat}:AV.cells (.ptr i o)=[.ptr i o]:=rfl
theorem ZM{v o:Nat}:AV.cq (.dp i v j o)=false:=rfl
theorem ZN{v o:Nat}:AV.cells (.dp i v j o)=[.dp i v j o]:=rfl
theorem ZO{cs:lA}{o:Nat}:AV.cq (.eX cs o)=false:=rfl
theorem ZP{cs:lA}{o:Nat}:AV.cells (.eX cs o)=[.eX cs o]:=rfl
theorem ZQ:AV.cq (.dD)=false:=rfl
theorem ZR:AV.cells (.dD)=[.dD]:=rfl
theorem ZS:AV.cq (.aq)=false:=rfl
theorem ZT:AV.cells (.aq)=[.aq]:=rfl
theorem ZU{c:Bool}:AV.cq (.sl af c)=false:=rfl
theorem ZV{c:Bool}:AV.cells (.sl af c)=[.sl af c]:=rfl
theorem ZW{v z o l:Nat}{c:Bool}:AV.cq (.ref i v z o l c)=false:=rfl
theorem ZX{v z o l:Nat}{c:Bool}:AV.cells (.ref i v z o l c)=[.ref i v z o l c]:=rfl
theorem ZY{z o l:Nat}:AV.cq (.fj i z o l)=false:=rfl
theorem ZZ{z o l:Nat}:AV.cells (.fj i z o l)=[.fj i z o l]:=rfl
theorem Z0:AV.cq (.ml)=false:=rfl
theorem Z1:AV.cells (.ml)=[.ml]:=rfl
theorem Z2:AV.cq (.mp i)=false:=rfl
theorem Z3:AV.cells (.mp i)=[.mp i]:=rfl
theorem Z4{f:Fn}{a b:lA}:AV.cq (.fn f a b)=false:=rfl
theorem Z5{f:Fn}{a b:lA}:AV.cells (.fn f a b)=[.fn f a b]:=rfl
theorem Z6:AV.cq (.ds)=false:=rfl
theorem Z7:AV.cells (.ds)=[.ds]:=rfl
theorem Z8{t:TypeId}:AV.cq (.dh t v)=false:=rfl
theorem Z9{t:TypeId}:AV.cells (.dh t v)=[.dh t v]:=rfl
theorem aaa:AV.cq (.eJ)=false:=rfl
theorem aab:AV.cells (.eJ)=[.eJ]:=rfl
theorem aac{g:Nat}:AV.cq (.dJ g)=false:=rfl
theorem aad{g:Nat}:AV.cells (.dJ g)=[.dJ g]:=rfl
theorem aae{cs:lA}:AV.cq (.agg cs)=false:=rfl
theorem aaf{cs:lA}:AV.cells (.agg cs)=cs:=rfl
theorem aag{k:IntKind}{n:Int}:AV.refs (.int k n)=0:=by rfl
theorem aah{b:Bool}:AV.refs (.bool b)=0:=by rfl
theorem aai{o:Nat}:AV.refs (.ptr i o)=i+1:=by rfl
theorem aaj:AV.refs (.aq)=0:=by rfl
theorem aak{v z o l:Nat}{c:Bool}:AV.refs (.ref i v z o l c)=i+1:=by rfl
theorem aal:AV.refs (.mp i)=i+1:=by rfl
theorem aam{f:Nat}{a b:lA}:AV.refs (.fn (.func f) a b)=max (aI a) (aI b):=by rfl
theorem aan{t:TypeId}:AV.refs (.dh t v)=v.refs:=by rfl
theorem aao{cs:lA}:AV.refs (.agg cs)=aI cs:=by rfl
theorem aap{cs:lA}:AV.refs (.ay cs)=aI cs:=by rfl
theorem aaq{c:Bool}:AV.refs (.sl af c)=bZ af:=by rfl
theorem aar:aI []=0:=by rfl
theorem aas{a:AV}{as:lA}:aI (a::as)=max a.refs (aI as):=by rfl
theorem aat{a:AV}{as:lA}:di (a::as) 0=a:=rfl
theorem aau{a:AV}{as:lA}{n:Nat}:di (a::as) (n+1)=di as n:=rfl
theorem aav{n:Nat}:di [] n= .undef:=rfl
theorem aaw: (!true)=false:=rfl
theorem aax: (!false)=true:=rfl
end
structure Rd(E:AS)(v:AV)(sz:Nat)(af:List lA):Prop where
 kind:match v with|.aq|.sl .. |.ref .. =>True|_=>False
 eq:elems E sz v=some af
 aB6: ∀el∈af,el.length=sz
def gA(v:AV)(j off:Nat):AV:=
 match v with
 |.sl af _=>.eX (af.getD j []) off
 |.ref id aj _ o _ _=>.dp id aj (o+j) off
 |_=>.qq
section
variable{X:Ctx}{E:AS}{v:AV}{sz:Nat}{af:List lA}{k:IntKind}{a:Int}
def Rd.len(h:Rd E v sz af):fW E .sl v=some (.int .i64 af.length):=by
 obtain⟨i,d,j⟩:=h;cases v<;>simp only[]at i
 ·cases d;rfl
 ·simp only[elems]at d;split at d<;>cases d;rfl
 ·simp only[elems]at d;split at d
  ·split at d
   ·simp only[fW];grind
   grind
  grind
def Rd.addr(h:Rd E v sz af):j8 sz v (.int k a)=if 0<=a/\a<af.length then some (gA v a.toNat 0)else none:=by
 obtain⟨o,d,p⟩:=h;cases v<;>simp only[]at o
 ·cases d;have: ¬(0<=a/\a< (([]:List lA).length:Int)):=by simp
  rw[ada this];rfl
 ·simp only[elems]at d;simp only[j8,rR,gA]
  grind
 ·rename_i id aj z off len cH;simp only[elems]at d;split at d
  ·split at d
   ·rename_i j;cases d;simp only[j8,rR,gA];have e: ((List.take len (List.drop off (by assumption))).length:Nat)=len:=by rw[afT,ams];omega
    rw[e];by_cases i:0<=a/\a<len
    ·rw[adV ⟨i.1,i.2,j.2.2.1⟩,adV i]
    ·rw[ada (λh=>i ⟨h.1,h.2.1⟩),ada i]
   grind
  grind
def Rd.load(h:Rd E v sz af){off:Nat}{agg:Bool}(r:j<af.length):ck X E agg n (gA v j off)=part agg n (af.getD j []) off:=by
 obtain⟨q,d,s⟩:=h;cases v<;>simp only[]at q
 ·simp only[elems]at d;grind
 ·simp only[elems]at d;split at d<;>cases d;rfl
 ·simp only[elems]at d;split at d
  ·rename_i v' o ty i p;split at d
   ·simp only[gA,ck,p]
    grind
   grind
  grind
theorem Rd.sl{af:List lA}(h: ∀el∈af,el.length=sz):Rd E (.sl af c) sz af:=
 ⟨trivial,by simp only[elems];grind,h⟩
theorem Rd.aq:Rd E .aq sz []:=⟨trivial,rfl,by simp⟩
def Rd.ext{H L:List ae}(h:Rd ⟨H,lo⟩ v sz af):Rd ⟨H++L,ak⟩ v sz af:=by
 obtain⟨i,d,j⟩:=h;refine⟨i,?_,j⟩;cases v<;>simp only[]at i
 ·exact d
 ·exact d
 ·simp only[elems]at d⊢
  grind
end
def Oy{f:AV->AV->Option AV}{x:AV}:gv f [x]=some x:=by rw[gv]
def aay{f:AV->AV->Option AV}{x y z:AV}{r:lA}(h:f x y=some z):gv f (x::y::r)=gv f (z::r):=by rw[gv,h]
def Oz{k:IntKind}{a b:Int}{r:lA}:gv qu (.int k a:: .int k' b::r)=gv qu (.int k (max a b)::r):=by
 refine aay ?_;simp only[qu];grind
def aaz{k:IntKind}{a b:Int}{r:lA}:gv vU (.int k a:: .int k' b::r)=gv vU (.int k (min a b)::r):=by
 refine aay ?_;simp only[vU];grind
def Rd.mono{H H':List ae}(h:Rd ⟨H,lo⟩ v sz af)(d:H<+:H'):Rd ⟨H',ak⟩ v sz af:=by
 obtain⟨L,rfl⟩:=d;exact h.ext
def Rv(v:AV)(sz:Nat)(af:List lA):Prop:= ∀E,Rd E v sz af
def Rv.len(h:Rv v sz af){E:AS}:fW E .sl v=some (.int .i64 af.length):=(h E).len
def Rv.addr(h:Rv v sz af){k:IntKind}{a:Int}:j8 sz v (.int k a)=if 0<=a/\a<af.length then some (gA v a.toNat 0)else none:=(h ⟨[],none⟩).addr
theorem Rv.load{X:Ctx}(h:Rv v sz af){E:AS}{off:Nat}{agg:Bool}(d:j<af.length):ck X E agg n (gA v j off)=part agg n (af.getD j []) off:=(h E).load d
theorem Rv.sl(h: ∀el∈af,el.length=sz):Rv (.sl af c) sz af:=λ_=>.sl h
theorem Rv.aq:Rv .aq sz []:=λ_=>.aq
def dj{v':AV}{H H':List ae}(h:v=v')(d:H=H'):aX.ret v ⟨H,lo⟩=aX.ret v' ⟨H',lo⟩:=by grind
theorem aaA: ((k+m:Nat):Int)=(k:Int)+(m:Int):=by rfl
theorem cast_zero: ((0:Nat):Int)=0:=rfl
def aaB{α:Type}[Inhabited α]{g:α->lA}{l:List α}(h:j<l.length): (l.map g).getD j []=g (l.getD j default):=by grind
section
variable{α:Type}{g:α->lA}{l:List α}{v:AV}{sz:Nat}
def Rv.bN(h:Rv v sz (l.map g)){E:AS}:fW E .sl v=some (.int .i64 l.length):=by rw[h.len,aer]
def Rv.ca(h:Rv v sz (l.map g)){k:IntKind}{a:Int}:j8 sz v (.int k a)=if 0<=a/\a<l.length then some (gA v a.toNat 0)else none:=by rw[h.addr,aer]
def Rv.cD[Inhabited α]{X:Ctx}(h:Rv v sz (l.map g)){E:AS}{off:Nat}{agg:Bool}(d:j<l.length):ck X E agg n (gA v j off)=part agg n (g (l.getD j default)) off:=by
 rw[h.load (by grind),aaB d]
def Rd.bN{E:AS}(h:Rd E v sz (l.map g)):fW E .sl v=some (.int .i64 l.length):=by rw[h.len,aer]
def Rd.ca{E:AS}(h:Rd E v sz (l.map g)){k:IntKind}{a:Int}:j8 sz v (.int k a)=if 0<=a/\a<l.length then some (gA v a.toNat 0)else none:=by rw[h.addr,aer]
def Rd.cD[Inhabited α]{X:Ctx}{E:AS}(h:Rd E v sz (l.map g)){off:Nat}{agg:Bool}(d:j<l.length):ck X E agg n (gA v j off)=part agg n (g (l.getD j default)) off:=by
 rw[h.load (by grind),aaB d]
end
def V1:=gG @Y1<|gG @Y2<|gG @Y3<|gG @Y4<|gG @Y5<|gG @Y6<|gG @Y7<|gG @Y8<|gG @Y9<|gG @DD<|gG @HM<|gG @Ov<|gG @Ox<|gG @A1<|gG @DE<|gG @eq_int<|gG @Za<|gG @Zb<|gG @Zc<|gG @Zd<|gG @Ze<|gG @HN<|gG @Zf<|gG @Zg<|gG @Zh<|gG @Zi<|gG @Zj<|gG @Zk<|gG @Zl<|gG @Zm<|gG @Zo<|gG @Zp<|gG @Zq<|gG @Zr<|gG @Zs<|gG @Zt<|gG @Zu<|gG @Zv<|gG @Zw<|gG @Zx<|gG @Zy<|gG @ZA<|gG @ZB<|gG @ZC<|gG @ZD<|gG @ZE<|gG @ZF<|gG @XD<|gG @Xy @Xz
def V3:type_of% @aat/\type_of% @cast_zero/\type_of% @aaA/\type_of% @Int.toNat_natCast/\type_of% @Int.natCast_nonneg/\type_of% @Oy/\type_of% @Oz/\type_of% @aaz/\type_of% @aau/\type_of% @aav/\type_of% @aaw/\type_of% @aax/\type_of% @Option.map_some.{0,0}/\type_of% @Option.map_none.{0,0}/\type_of% @List.map_cons.{0,0}/\type_of% @List.map_nil.{0,0}/\type_of% @not_false_eq_true/\type_of% @true_and/\type_of% @and_true/\type_of% @Nat.zero_le/\type_of% @List.length_cons.{0}/\type_of% @List.length_nil.{0}/\type_of% @List.length_append.{0}/\type_of% @List.length_map.{0,0}/\type_of% @if_true.{1}/\type_of% @if_false.{1}/\type_of% @if_true.{0}/\type_of% @if_false.{0}/\type_of% @ne_eq.{1}/\type_of% @List.cons_append.{0}/\type_of% @List.nil_append.{0}/\type_of% @List.append_nil.{0}/\type_of% @Nat.zero_add/\type_of% @List.length_set.{0}/\type_of% @List.append_assoc.{0}/\type_of% @List.getElem?_cons_zero.{0}/\type_of% @List.getElem?_cons_succ.{0}/\type_of% @List.set_cons_zero.{0}/\type_of% @List.set_cons_succ.{0}/\type_of% @List.drop_succ_cons.{0}/\type_of% @List.drop_zero.{0}/\type_of% @List.take_succ_cons.{0}/\type_of% @List.take_zero.{0}/\type_of% @Nat.max_self/\type_of% @Nat.zero_max/\type_of% @Nat.max_zero:=
 ⟨@aat,@cast_zero,@aaA,@aAM,@Int.natCast_nonneg,@Oy,@Oz,@aaz,@aau,@aav,@aaw,@aax,@afF.{0,0},@Option.map_none.{0,0},@al0.{0,0},@awk.{0,0},@aAf,@aza,@alc,@aep,@afO.{0},@amQ.{0},@aem.{0},@aer.{0,0},@af1.{1},@aiz.{1},@af1.{0},@aiz.{0},@ne_eq.{1},@ahn.{0},@ahk.{0},@afZ.{0},@alf,@afL.{0},@adW.{0},@aqv.{0},@axC.{0},@List.set_cons_zero.{0},@List.set_cons_succ.{0},@ap7.{0},@amu.{0},@aql.{0},@List.take_zero.{0},@Nat.max_self,@Nat.zero_max,@Nat.max_zero⟩
def F1:=gG @yB @DF
def V2:=gG @ZG<|gG @ZI<|gG @ZK<|gG @ZM<|gG @ZO<|gG @ZQ<|gG @ZS<|gG @ZU<|gG @ZW<|gG @ZY<|gG @Z0<|gG @Z2<|gG @Z4<|gG @Z6<|gG @Z8<|gG @aaa<|gG @aac<|gG @aae<|gG @ZH<|gG @ZJ<|gG @ZL<|gG @ZN<|gG @ZP<|gG @ZR<|gG @ZT<|gG @ZV<|gG @ZX<|gG @ZZ<|gG @Z1<|gG @Z3<|gG @Z5<|gG @Z7<|gG @Z9<|gG @aab<|gG @aad<|gG @aaf<|gG @aag<|gG @aah<|gG @aai<|gG @aaj<|gG @aak<|gG @aal<|gG @aam<|gG @aan<|gG @aao<|gG @aap<|gG @aaq<|gG @aar @aas
def gM:List aV->lN
 | []=>[]
 |o::os=>match o.dst with
  |some d=>d::gM os
  |none=>gM os
def Fr.Dj{fr:Fr}(h:d≠some t): (fr.put d v).env t=fr.env t:=by
 cases d with
 |none=>rfl
 |some d=>
  simp only[Fr.put,Env.set]
  grind
section
variable{X:Ctx}{C:bE}{L:eA}
theorem OA: ∀ (os:List aV) (fr a:Fr) (E E':AS) (ex:Ex),eP X C os fr E=some (ex,a,E')-> ∀t,t∉gM os->a.env t=fr.env t
 | [],fr,a,E,E',ex,h,t,j=>by simp only[eP,adQ,aqb]at h;grind
 |o::os,fr,a,E,E',ex,h,t,j=>by
  have k:o.dst≠some t:=by
   intro e;apply j;simp[gM,e]
  have g:t∉gM os:=by
   intro e;apply j;simp only[gM];grind
  simp only[eP]at h;split at h
  ·split at h
   ·rw[OA os _ _ _ _ _ h t g,Fr.Dj k]
   ·grind
   grind
  ·rw[OA os _ _ _ _ _ h t g,Fr.Dj k]
end
def se:lN->Nat->Bool
 | [],_=>false
 |a::as,t=>a==t||se as t
theorem aaC{t:Nat}: ∀ {W:lN},se W t=true↔t∈W
 | []=>by simp[se]
 |a::as=>by
  simp only[se,aoI,au6,ag6];rw[aaC]
  grind
def aaD(b:Bool)(a e:Env)(t:Nat):AV:=match b with|true=>a t|false=>e t
theorem aaE{a:Env}:aaD true a e t=a t:=rfl
theorem aaF{a:Env}:aaD false a e t=e t:=rfl
section
variable{X:Ctx}{f:FuncId}{rd:Bool}{E nU:AS}{Q:bW}{e:Env}{ms:lN}{t:Nat}{b c:Bool}{d:oN}{i:I}{os:List aV}
def OB(r:Nat)(v:AV)(ms:lN)(nU:AS)(Q:bW):bW
 |.normal,fr,E'=>fr.env r=v/\fr.marks=ms/\E'=nU
 |ex,fr,E'=>Q ex fr E'
theorem aaG{ms a:lN}:OB r v ms nU Q .normal ⟨e,a⟩ E=(e r=v/\a=ms/\E=nU):=rfl
end
def wc(e:Env):lN->Env->Env
 | [],a=>a
 |t::ts,a=>(wc e ts a).set t (e t)
theorem aaH{W:lN}{e g:Env}(h: ∀t,t∉W->g t=e t): ∀a:lN,a.all (λk=>!se W k)=true->wc e a g=g
 | [],_=>rfl
 |k::a,j=>by
  simp only[atB,af0]at j;have l:k∉W:=by
   intro hm;have:=aaC.2 hm
   grind
  simp only[wc];rw[aaH h a j.2,<-h k l,Env.Og]
section
variable{X:Ctx}{f:FuncId}{rd:Bool}{E:AS}{Q:bW}{e:Env}{ms:lN}{t:Nat}{b c:Bool}{d:oN}{i:I}{os:List aV}
def apZ(nU:AS)(r:Nat)(v:AV)(g:lN)(l:g.all (λk=>!se (gM os) k)=true)(u:dB X os ⟨e,ms⟩ E (OB r v ms nU Q))(q: ∀w,Q .normal ⟨(wc e g w).set r v,ms⟩ nU):dB X os ⟨e,ms⟩ E Q:=by
 obtain⟨ex,a,E',h,j⟩:=u;have m:=OA os _ _ _ _ _ h;refine⟨ex,a,E',h,?_⟩;cases ex with
 |normal=>
  obtain⟨p,o,n⟩:=j;have:=q a.env;rw[aaH m g l,<-p,Env.Og,<-o,<-n]at this;omega
 |_=>exact j
def we(r:Nat)(v:AV)(a:lN){g:AV}(l:e t=g)(j:a.all (λk=>!se (gM (⟨none,d,i⟩::os)) k)=true)(h:gK X t b d i os e ms E (OB r v ms E Q) g)(m: ∀n,Q .normal ⟨(wc e a n).set r v,ms⟩ E):gK X t b d i os e ms E Q g:=by
 subst l;have key: ∀Q,gK X t b d i os e ms E Q (e t)=dB X (⟨some (t,b),d,i⟩::os) ⟨e,ms⟩ E Q:=by
  intro Q;cases b
  ·exact Ot.symm
  ·exact Oq.symm
 rw[key]at h⊢;exact apZ E r v a j h m
def ap0(r:Nat)(v:AV)(ms:lN)(P:AS->Prop)(Q:bW):bW
 |.normal,fr,E'=>fr.env r=v/\fr.marks=ms/\P E'
 |ex,fr,E'=>Q ex fr E'
theorem aaI{ms a:lN}{P:AS->Prop}:ap0 r v ms P Q .normal ⟨e,a⟩ E=(e r=v/\a=ms/\P E):=rfl
def OC(P:Env->List ae->oN->Prop)(Q:bW):bW
 |.normal,fr,E'=>fr.marks=[]/\P fr.env E'.heap E'.lo
 |ex,fr,E'=>Q ex fr E'
def HO{P:Env->List ae->oN->Prop}{H:List ae}:OC P Q .normal ⟨e,[]⟩ ⟨H,lo⟩=P e H lo:=by simp[OC]
def aaJ{p q:PC}{a:AV}(P:Env->List ae->oN->Prop)(g:nW X f rd p q ⟨e,[]⟩ E (OC P Q) a)(l: ∀e H lo,P e H lo->Q .normal ⟨e,[]⟩ ⟨H,lo⟩):nW X f rd p q ⟨e,[]⟩ E Q a:=by
 have key: ∀Q,nW X f rd p q ⟨e,[]⟩ E Q a=wp X f rd (.cond (.c a) p q) ⟨e,[]⟩ E Q:=λQ=>by rw[Ou];rfl
 rw[key]at g⊢;refine wp_mono g ?_;rintro ex ⟨m,ms⟩ ⟨H,lo⟩ h;cases ex with
 |normal=>obtain⟨k,j⟩:=h;grind
 |_=>exact h
end
def wg(n:Nat)(a:AV):FP:=match a with
 |.ptr id off=>.rd id off (Nat.max n 1)
 |.dp .. =>.rr
 |.eX .. =>.no
 |.dJ _=>.no
 |_=>.all
def HP(n:Nat)(a:AV):FP:=match a with
 |.ptr id off=>.wr id off n
 |.dp .. =>.app
 |_=>.all
noncomputable def A2(E E':AS):FP:=open Classical in if E'=E then .q else if E'.heap.take E.heap.length=E.heap then .new E.heap.length else .all
section
variable{e:Env}{E E':AS}
theorem aaK:aZ (.mov x) e E E'= .no:=rfl
theorem aaL{c:ao}{a:ao}{b:ao}:aZ (.pick c a b) e E E'= .no:=rfl
theorem aaM{a:List (Nat×Nat×ao)}:aZ (.build z a) e E E'= .no:=rfl
theorem aaN{a:List (Nat×Nat×ao)}:aZ (.bslice z n a) e E E'= .no:=rfl
theorem aaO:aZ (.nilck x) e E E'= .no:=rfl
theorem aaP{a:BinOp}:aZ (.bin a x y) e E E'= .no:=rfl
theorem aaQ{a:BinOp}:aZ (.shf a x y) e E E'= .no:=rfl
theorem aaR{k:EK}:aZ (.eq k x y) e E E'= .no:=rfl
theorem aaS{k:EK}:aZ (.ne k x y) e E E'= .no:=rfl
theorem aaT{a:UnOp}:aZ (.un a x) e E E'= .no:=rfl
theorem aaU{a:IntKind}:aZ (.conv a x) e E E'= .no:=rfl
theorem aaV:aZ (.s2b x) e E E'= .no:=rfl
theorem aaW{ty:TypeId}:aZ (.mki ty x) e E E'= .no:=rfl
theorem aaX{fn:Fn}{g:List ao}{a:List ao}:aZ (.mkf fn g a) e E E'= .no:=rfl
theorem aaY{lo:Option ao}{a:Option ao}:aZ (.slstr x lo a) e E E'= .no:=rfl
theorem aaZ{lo:Option ao}{g:Option ao}{a:Option ao}:aZ (.slsl n x lo g a) e E E'= .no:=rfl
theorem aa0{lo:Option ao}{a:Option ao}:aZ (.slarr n m x lo a) e E E'= .no:=rfl
theorem aa1:aZ (.faddr n x) e E E'= .no:=rfl
theorem aa2:aZ (.fld ag n m x) e E E'= .no:=rfl
theorem aa3:aZ (.iaddra n m x y) e E E'= .no:=rfl
theorem aa4:aZ (.iaddrs n x y) e E E'= .no:=rfl
theorem aa5:aZ (.idxa ag n m x y) e E E'= .no:=rfl
theorem aa6:aZ (.idxs x y) e E E'= .no:=rfl
theorem aa7{a:AV}{ty:TypeId}{g:Bool}:aZ (.ta a x ty g) e E E'= .no:=rfl
theorem aa8:aZ (.ext x n) e E E'= .no:=rfl
theorem aa9{a:List ao}:aZ (.max a) e E E'= .no:=rfl
theorem aba{a:List ao}:aZ (.min a) e E E'= .no:=rfl
theorem abb{k:EK}{a:AV}{g:Bool}:aZ (.lookup k a x y g) e E E'= .q:=rfl
theorem abc:aZ (.len .sl x) e E E'= .no/\aZ (.len .str x) e E E'= .no/\aZ (.len .map x) e E E'= .q:=⟨rfl,rfl,rfl⟩
theorem abd{ty:TypeId}:aZ (.append ty n m x y) e E E'= .app:=rfl
theorem abe:aZ (.alloc z tg) e E E'= .all:=rfl
theorem abf:aZ (.box x tg) e E E'= .all:=rfl
theorem abg{ty:TypeId}{a:List (Nat×Nat×ao)}:aZ (.rQ ty z n a) e E E'= .all:=rfl
theorem abh:aZ (.nN) e E E'= .all:=rfl
theorem abi{k:EK}{c:ao}:aZ (.oS k x y c) e E E'= .all:=rfl
theorem abj:aZ (.copy n x y) e E E'= .all:=rfl
theorem abk:aZ (.clear z x) e E E'= .all:=rfl
theorem abl:aZ (.panic x) e E E'= .all:=rfl
theorem abm:aZ (.load ag n x) e E E'=wg n (x.get e):=by rfl
theorem abn:aZ (.store n x y) e E E'=HP n (x.get e):=by rfl
theorem abo{a:List ao}:aZ (.call x a) e E E'=A2 E E':=rfl
def abp:A2 E E= .q:=by simp[A2]
def ap1{b c:Nat}(h:E'.heap.take E.heap.length=E.heap)(g:a<E.heap.length):FP.ok (.rd a b c) (A2 E E')=true/\FP.ok (A2 E E') (.rd a b c)=true:=by
 unfold A2;split
 ·trivial
 ·exact⟨ad0 g,ad0 g⟩
theorem abq{id off:Nat}:wg n (.ptr id off)= .rd id off (Nat.max n 1)/\wg n (.dp id aj i off)= .rr:=⟨rfl,rfl⟩
theorem abr{off:Nat}{cs:lA}:wg n (.eX cs off)= .no:=rfl
theorem abt{g:Nat}:wg n (.dJ g)= .no:=rfl
theorem abu{id off:Nat}:HP n (.ptr id off)= .wr id off n/\HP n (.dp id aj i off)= .app:=⟨rfl,rfl⟩
theorem HQ{x:FP}:FP.ok .no x=true:=by rfl
def HR{x:FP}:FP.ok x .no=true:=by cases x<;>rfl
theorem HS{b c h g:Nat}:FP.ok (.rd a b c) (.rd a' h g)=true:=rfl
theorem HT{b c:Nat}:FP.ok (.rd a b c) .q=true:=rfl
theorem HU{b c:Nat}:FP.ok .q (.rd a b c)=true:=rfl
theorem HV:FP.ok .q .q=true:=rfl
theorem abv{b c:Nat}:FP.ok .rr (.rd a b c)=true/\FP.ok (.rd a b c) .rr=true/\FP.ok .rr (.wr a b c)=true/\FP.ok (.wr a b c) .rr=true:=⟨rfl,rfl,rfl,rfl⟩
def abw:FP.ok .rr .q=true/\FP.ok .q .rr=true/\FP.ok .rr .rr=true:=by decide
theorem HW{b c:Nat}:FP.ok (.rd a b c) .app=true:=rfl
theorem HX{b c:Nat}:FP.ok .app (.rd a b c)=true:=rfl
theorem HY{b c g h:Nat}:FP.ok (.rd a b c) (.wr a' g h)=(a !=a'||b+c<=g||g+h<=b):=rfl
theorem HZ{b c g h:Nat}:FP.ok (.wr a b c) (.rd a' g h)=(a !=a'||b+c<=g||g+h<=b):=rfl
end
def qK(bJ:List FP)(x:FP):lN->Bool
 | []=>true
 |j::js=>(bJ.getD j .all).ok x&&qK bJ x js
theorem OD{bJ:List FP}{x:FP}: ∀js:lN,js.all (λj=>(bJ.getD j .all).ok x)=qK bJ x js
 | []=>rfl
 |j::js=>by simp only[atB,qK,OD js]
def kD(X:Ctx)(i:I)(cu:AS)(bJ:List FP)(js:lN)(os:List (aV×lN))(d:oN)(e:Env)(ms:lN)(Q:bW):AV->AS->Prop:=λv E=>
 qK bJ (aZ i e cu E) js=true/\gL X (bJ++[aZ i e cu E]) os (Fr.put ⟨e,ms⟩ d v) E Q
def kF(bJ:List FP)(i:I)(d:oN)(js:lN)(os:List (aV×lN))(e:Env)(ms:lN)(Q:bW):AV->AS->Prop:=λv E=>CX bJ (⟨none,d,i⟩,js) os=true/\Q (.panic v) ⟨e,ms⟩ E
def abx{X:Ctx}{E:AS}{Q:bW}{ms:lN}{bJ:List FP}{js:lN}{os:List (aV×lN)}{i:I}:gL X bJ ((⟨none,d,i⟩,js)::os) ⟨e,ms⟩ E Q=aW X i e E (kD X i E bJ js os d e ms Q) (kF bJ i d js os e ms Q):=by
 apply propext;simp only[gL,aW,gw,ga,af1];cases g:exec X (D X) i e E with
 |none=>simp[qJ]
 |some o=>
  cases o with
  |ok v E'=>
   simp only[qJ,OD];by_cases a:qK bJ (aZ i e E E') js=true
   ·rw[adV a];exact⟨λh=>⟨a,h⟩,λh=>h.2⟩
   ·simp[kD,a]
  |panic v E'=>
   simp only[qJ,kF]
   grind
section
variable{X:Ctx}{f:FuncId}{rd:Bool}{E cu:AS}{Q:bW}{e:Env}{ms:lN}{bJ:List FP}{js:lN}{os:List (aV×lN)}{i:I}{d:Nat}{v:AV}
def aby:gL X bJ [] ⟨e,ms⟩ E Q=Q .normal ⟨e,ms⟩ E:=propext (by simp only[gL,gw];grind)
def abz:gL X bJ ((o d i,js)::os) ⟨e,ms⟩ E Q=aW X i e E (kD X i E bJ js os (some d) e ms Q) (kF bJ i (some d) js os e ms Q):=abx
def abA:gL X bJ ((u i,js)::os) ⟨e,ms⟩ E Q=aW X i e E (kD X i E bJ js os none e ms Q) (kF bJ i none js os e ms Q):=abx
theorem abB:kD X i cu bJ js os (some d) e ms Q v E=(qK bJ (aZ i e cu E) js=true/\gL X (bJ++[aZ i e cu E]) os ⟨e.set d v,ms⟩ E Q):=rfl
theorem abC:kD X i cu bJ js os none e ms Q v E=(qK bJ (aZ i e cu E) js=true/\gL X (bJ++[aZ i e cu E]) os ⟨e,ms⟩ E Q):=rfl
theorem abD{x:FP}:qK bJ x []=true:=rfl
theorem abE{x:FP}:qK bJ x (j::js)=((bJ.getD j .all).ok x&&qK bJ x js):=rfl
def abF{H:List ae}:wp X f rd (.uA os) ⟨e,ms⟩ ⟨H,lo⟩ Q=gL X [] (ic H.length os) ⟨e,ms⟩ ⟨H++dG os,lo⟩ Q:=aph
theorem abG{x y:FP}{l:List FP}: (x::l).getD 0 y=x:=rfl
end
def dk:I->Option ae
 |.alloc z tg=>some (.box z tg)
 |_=>none
theorem abH{d:Nat}{i:I}:aV.fH (o d i)=dk i:=by rfl
theorem abI{i:I}:aV.fH (u i)=dk i:=by rfl
theorem abJ{i:I}:aV.fH (gt t d i)=dk i:=by rfl
theorem abK{i:I}:aV.fH (gf t d i)=dk i:=by rfl
def jc(n:Nat)(x:aV)(l:lN)(os:List (aV×lN)):Option ae->List (aV×lN)
 |none=>(x,l)::ic n os
 |some _=>({x with i:=.mov (.c (.ptr n 0))},l)::ic (n+1) os
def zC(os:List (aV×lN)):Option ae->List ae
 |none=>dG os
 |some b=>b::dG os
theorem abL:ic n []=[]:=rfl
def abM{x:aV}{l:lN}{os:List (aV×lN)}:ic n ((x,l)::os)=jc n x l os x.fH:=by
 simp only[ic,lK];cases x.fH<;>rfl
theorem abN{x:aV}{l:lN}{os:List (aV×lN)}:jc n x l os none=(x,l)::ic n os:=rfl
theorem abO{d:Nat}{i:I}{l:lN}{os:List (aV×lN)}{b:ae}:jc n (o d i) l os (some b)=(o d (.mov (.c (.ptr n 0))),l)::ic (n+1) os:=rfl
theorem abP{i:I}{l:lN}{os:List (aV×lN)}{b:ae}:jc n (gt t d i) l os (some b)=(gt t d (.mov (.c (.ptr n 0))),l)::ic (n+1) os:=rfl
theorem abQ{i:I}{l:lN}{os:List (aV×lN)}{b:ae}:jc n (gf t d i) l os (some b)=(gf t d (.mov (.c (.ptr n 0))),l)::ic (n+1) os:=rfl
theorem abR:dG []=[]:=rfl
def abS{x:aV}{l:lN}{os:List (aV×lN)}:dG ((x,l)::os)=zC os x.fH:=by
 simp only[dG];cases x.fH<;>rfl
theorem abT{os:List (aV×lN)}:zC os none=dG os:=rfl
theorem abU{os:List (aV×lN)}{b:ae}:zC os (some b)=b::dG os:=rfl
theorem abV:dk (.alloc z tg)=some (.box z tg):=rfl
theorem abW{a:_}:dk (.mov a)=none:=rfl
theorem abX{h:_}{g:_}{a:_}:dk (.pick h g a)=none:=rfl
theorem abY{g:_}{a:_}:dk (.box g a)=none:=rfl
theorem abZ{g:_}{a:_}:dk (.build g a)=none:=rfl
theorem ab0{h:_}{g:_}{a:_}:dk (.bslice h g a)=none:=rfl
theorem ab1{j:_}{h:_}{g:_}{a:_}:dk (.rQ j h g a)=none:=rfl
theorem ab2{h:_}{g:_}{a:_}:dk (.load h g a)=none:=rfl
theorem ab3{h:_}{g:_}{a:_}:dk (.store h g a)=none:=rfl
theorem ab4{a:_}:dk (.nilck a)=none:=rfl
theorem ab5{h:_}{g:_}{a:_}:dk (.bin h g a)=none:=rfl
theorem ab6{h:_}{g:_}{a:_}:dk (.shf h g a)=none:=rfl
theorem ab7{h:_}{g:_}{a:_}:dk (.eq h g a)=none:=rfl
theorem ab8{h:_}{g:_}{a:_}:dk (.ne h g a)=none:=rfl
theorem ab9{g:_}{a:_}:dk (.un g a)=none:=rfl
theorem aca{g:_}{a:_}:dk (.conv g a)=none:=rfl
theorem acb{a:_}:dk (.s2b a)=none:=rfl
theorem acd{g:_}{a:_}:dk (.mki g a)=none:=rfl
theorem ace{h:_}{g:_}{a:_}:dk (.mkf h g a)=none:=rfl
theorem acf:dk .nN=none:=rfl
theorem acg{h:_}{g:_}{a:_}:dk (.slstr h g a)=none:=rfl
theorem ach{k:_}{j:_}{h:_}{g:_}{a:_}:dk (.slsl k j h g a)=none:=rfl
theorem aci{k:_}{j:_}{h:_}{g:_}{a:_}:dk (.slarr k j h g a)=none:=rfl
theorem acj{g:_}{a:_}:dk (.faddr g a)=none:=rfl
theorem ack{j:_}{h:_}{g:_}{a:_}:dk (.fld j h g a)=none:=rfl
theorem acm{j:_}{h:_}{g:_}{a:_}:dk (.iaddra j h g a)=none:=rfl
theorem acn{h:_}{g:_}{a:_}:dk (.iaddrs h g a)=none:=rfl
theorem aco{k:_}{j:_}{h:_}{g:_}{a:_}:dk (.idxa k j h g a)=none:=rfl
theorem acp{g:_}{a:_}:dk (.idxs g a)=none:=rfl
theorem acq{k:_}{j:_}{h:_}{g:_}{a:_}:dk (.lookup k j h g a)=none:=rfl
theorem acr{j:_}{h:_}{g:_}{a:_}:dk (.oS j h g a)=none:=rfl
theorem acs{j:_}{h:_}{g:_}{a:_}:dk (.ta j h g a)=none:=rfl
theorem acu{g:_}{a:_}:dk (.ext g a)=none:=rfl
theorem acv{g:_}{a:_}:dk (.len g a)=none:=rfl
theorem acw{k:_}{j:_}{h:_}{g:_}{a:_}:dk (.append k j h g a)=none:=rfl
theorem acx{h:_}{g:_}{a:_}:dk (.copy h g a)=none:=rfl
theorem acy{g:_}{a:_}:dk (.clear g a)=none:=rfl
theorem acz{a:_}:dk (.max a)=none:=rfl
theorem acA{a:_}:dk (.min a)=none:=rfl
theorem acB{g:_}{a:_}:dk (.call g a)=none:=rfl
theorem acC{a:_}:dk (.panic a)=none:=rfl
def N1:=gG @abH<|gG @abI<|gG @abJ<|gG @abK<|gG @abL<|gG @abM<|gG @abN<|gG @abO<|gG @abP<|gG @abQ<|gG @abR<|gG @abS<|gG @abT<|gG @abU<|gG @abV<|gG @abW<|gG @abX<|gG @abY<|gG @abZ<|gG @ab0<|gG @ab1<|gG @ab2<|gG @ab3<|gG @ab4<|gG @ab5<|gG @ab6<|gG @ab7<|gG @ab8<|gG @ab9<|gG @aca<|gG @acb<|gG @acd<|gG @ace<|gG @acf<|gG @acg<|gG @ach<|gG @aci<|gG @acj<|gG @ack<|gG @acm<|gG @acn<|gG @aco<|gG @acp<|gG @acq<|gG @acr<|gG @acs<|gG @acu<|gG @acv<|gG @acw<|gG @acx<|gG @acy<|gG @acz<|gG @acA<|gG @acB @acC
def P1:=gG @abF<|gG @aby<|gG @abz<|gG @abA<|gG @abB<|gG @abC<|gG @abD<|gG @abE<|gG @abG<|gG @abm<|gG @abn<|gG @abo<|gG @abp<|gG @abq<|gG @abr<|gG @abt<|gG @abu<|gG @HQ<|gG @HR<|gG @HS<|gG @HT<|gG @HU<|gG @HV<|gG @abv<|gG @abw<|gG @HW<|gG @HX<|gG @HY<|gG @HZ<|gG @aaK<|gG @aaL<|gG @aaM<|gG @aaN<|gG @aaO<|gG @aaP<|gG @aaQ<|gG @aaR<|gG @aaS<|gG @aaT<|gG @aaU<|gG @aaV<|gG @aaW<|gG @aaX<|gG @aaY<|gG @aaZ<|gG @aa0<|gG @aa1<|gG @aa2<|gG @aa3<|gG @aa4<|gG @aa5<|gG @aa6<|gG @aa7<|gG @aa8<|gG @aa9<|gG @aba<|gG @abb<|gG @abc<|gG @abd<|gG @abe<|gG @abf<|gG @abg<|gG @abh<|gG @abi<|gG @abj<|gG @abk @abl
def ap2{X:Ctx}(pf:PF){args cap:lA}{H:List ae}{a:aX}(g:X.b8 f=none)(l:X.code f=some pf)(k:Nat.ble (args++cap).length pf.ntmps=true)
  (h: ∀n,H.length=n->wp X f false pf.body ⟨di (args++cap),[]⟩ ⟨H,none⟩ (dO X n lo pf.results (· =a))):D X (.fn (.func f) [] cap) args ⟨H,lo⟩=some a:=by
 have j:=aoG k;refine Xw g l (by grind) ?_
 grind
def ap3{X:Ctx}{rd:Bool}{E:AS}{Q:bW}(m:Nat)(I:Nat->Env->List ae->Prop){H:List ae}(k:Nat)(g:k<=m)(n:I k e H)
  (l: ∀k,k<=m-> ∀e H,I k e H->wp X f rd b ⟨e,[]⟩ ⟨H,none⟩ (λex a E'=>match ex with|.normal=>k<m/\ ∃h H',a=⟨h,[]⟩/\E'=⟨H',none⟩/\I (k+1) h H'|ex=>Q ex a E')):wp X f rd (.loop b) ⟨e,[]⟩ ⟨H,none⟩ Q:=by
 refine wp_loop (S:=Nat) (λk fr E=>k<=m/\ ∃e H,fr=⟨e,[]⟩/\E=⟨H,none⟩/\I k e H) (λk=>m-k) k ⟨g,e,H,rfl,rfl,n⟩ ?_;rintro k fr E ⟨g,e,H,rfl,rfl,j⟩;refine wp_mono (l k g e H j) ?_
 grind
def A3(k m:Nat)(I:Nat->Env->List ae->Prop)(Q:bW):bW:=λex a E'=>match ex with|.normal=>k<m/\ ∃g H',a=⟨g,[]⟩/\E'=⟨H',none⟩/\I (k+1) g H'|ex=>Q ex a E'
def acD{I:Nat->Env->List ae->Prop}{Q:bW}{H:List ae}:A3 k m I Q .normal ⟨e,[]⟩ ⟨H,none⟩=(k<m/\I (k+1) e H):=by
 simp only[A3]
 grind
theorem acE{I:Nat->Env->List ae->Prop}{Q:bW}{fr:Fr}{E:AS}:A3 k m I Q (.exit i) fr E=Q (.exit i) fr E:=rfl
theorem acF{I:Nat->Env->List ae->Prop}{Q:bW}{fr:Fr}{E:AS}:A3 k m I Q .ret fr E=Q .ret fr E:=rfl
theorem acG{I:Nat->Env->List ae->Prop}{Q:bW}{fr:Fr}{E:AS}:A3 k m I Q (.panic v) fr E=Q (.panic v) fr E:=rfl
def dP{X:Ctx}{rd:Bool}{Q:bW}(m:Nat)(I:Nat->Env->List ae->Prop){H:List ae}(k:Nat)(a:k<=m)(j:I k e H)
  (h: ∀k,k<=m-> ∀e H,I k e H-> ∀n,H.length=n->wp X f rd b ⟨e,[]⟩ ⟨H,none⟩ (A3 k m I Q)):wp X f rd (.loop b) ⟨e,[]⟩ ⟨H,none⟩ Q:=
 ap3 (E:=⟨H,none⟩) m I k a j λk a e H g=>h k a e H g _ rfl
def A4(k m:Nat)(I:Nat->Env->List ae->oN->Prop)(Q:bW):bW:=λex a E'=>match ex with|.normal=>k<m/\a.marks=[]/\I (k+1) a.env E'.heap E'.lo|ex=>Q ex a E'
def acH{I:Nat->Env->List ae->oN->Prop}{Q:bW}{H:List ae}:A4 k m I Q .normal ⟨e,[]⟩ ⟨H,lo⟩=(k<m/\I (k+1) e H lo):=by
 simp[A4]
theorem acI{I:Nat->Env->List ae->oN->Prop}{Q:bW}{fr:Fr}{E:AS}:A4 k m I Q (.exit i) fr E=Q (.exit i) fr E:=rfl
theorem acJ{I:Nat->Env->List ae->oN->Prop}{Q:bW}{fr:Fr}{E:AS}:A4 k m I Q .ret fr E=Q .ret fr E:=rfl
def gN{X:Ctx}{rd:Bool}{Q:bW}(m:Nat)(I:Nat->Env->List ae->oN->Prop){H:List ae}(k:Nat)(g:k<=m)(o:I k e H lo)
  (l: ∀k,k<=m-> ∀e H lo,I k e H lo-> ∀n,H.length=n->wp X f rd b ⟨e,[]⟩ ⟨H,lo⟩ (A4 k m I Q)):wp X f rd (.loop b) ⟨e,[]⟩ ⟨H,lo⟩ Q:=by
 refine wp_loop (S:=Nat) (λk fr E=>k<=m/\fr.marks=[]/\I k fr.env E.heap E.lo) (λk=>m-k) k ⟨g,rfl,o⟩ ?_;rintro k ⟨e,ms⟩ ⟨H,lo⟩ ⟨g,a,j⟩;subst a;refine wp_mono (l k g e H lo j _ rfl) ?_;intro ex fr E h;cases ex with
 |normal=>
  obtain⟨r,q,p⟩:=h
  grind
 |_=>exact h
section
variable{S:Type}{I:S->Env->List ae->Prop}{μ:S->Nat}{s:S}{Q:bW}
end
def H4(X:Ctx)(f:FuncId)(rd:Bool)(b:PC)(Q:bW):bW
 |.normal,fr,E=>wp X f rd (.loop b) fr E Q
 |ex,fr,E=>Q ex fr E
section
variable{X:Ctx}{f:FuncId}{rd:Bool}{b:PC}{fr:Fr}{E:AS}{Q:bW}{i:Nat}{v:AV}
theorem acL:H4 X f rd b Q .normal fr E=wp X f rd (.loop b) fr E Q:=rfl
theorem acM:H4 X f rd b Q (.exit i) fr E=Q (.exit i) fr E:=rfl
theorem acN:H4 X f rd b Q .ret fr E=Q .ret fr E:=rfl
theorem acO:H4 X f rd b Q (.panic v) fr E=Q (.panic v) fr E:=rfl
end
theorem acP{a:Env}:wc e [] a=a:=rfl
theorem acQ{g:Env}{a:lN}:wc e (t::a) g=(wc e a g).set t (e t):=rfl
def acR{p:Prop}[Decidable p]: (!decide p)=decide (¬p):=by simp
theorem acS:gM []=[]:=rfl
theorem acT{i:I}{os:List aV}:gM (o a i::os)=a::gM os:=rfl
theorem acU{i:I}{os:List aV}:gM (u i::os)=gM os:=rfl
theorem acV{i:I}{os:List aV}:gM (gt t (some a) i::os)=a::gM os:=rfl
theorem acW{i:I}{os:List aV}:gM (gf t (some a) i::os)=a::gM os:=rfl
theorem acX{i:I}{os:List aV}:gM (gt t none i::os)=gM os:=rfl
theorem acY{i:I}{os:List aV}:gM (gf t none i::os)=gM os:=rfl
theorem acZ{i:I}{os:List aV}:gM (⟨none,some a,i⟩::os)=a::gM os:=rfl
theorem ac0{i:I}{os:List aV}:gM (⟨none,none,i⟩::os)=gM os:=rfl
theorem ac1:se [] t=false:=rfl
theorem ac2{as:lN}:se (a::as) t=(a==t||se as t):=rfl
def ff: (false=true)=False:=by simp
def tt: (true=true)=True:=by simp
def C1:=gG @aaI<|gG @acH<|gG @acI<|gG @acJ<|gG @acL<|gG @acM<|gG @acN<|gG @acO<|gG @acD<|gG @acE<|gG @acF<|gG @acG<|gG @aaE<|gG @aaF<|gG @aqf<|gG @aqw<|gG @auJ<|gG @al1<|gG @acP<|gG @acQ<|gG @acR<|gG @acS<|gG @acT<|gG @acU<|gG @acV<|gG @acW<|gG @acX<|gG @acY<|gG @acZ<|gG @ac0<|gG @ac1<|gG @ac2<|gG @ff @aaG
def aH{X:Ctx}(pf:PF){args:lA}{H:List ae}{a:aX}
 (h: ∀n,H.length=n->wp X f false pf.body ⟨di args,[]⟩ ⟨H,none⟩ (dO X n lo pf.results (· =a))) (g:X.b8 f=none:=by exact rfl) (k:X.code f=some pf:=by exact rfl) (j:Nat.ble args.length pf.ntmps=true:=by exact rfl):D X (.fn (.func f) [] []) args ⟨H,lo⟩=some a:=Oi pf g k j h
def cz{X:Ctx}(pf:PF){args:lA}{H:List ae}{R:aX->Prop}
 (h: ∀n,H.length=n->wp X f false pf.body ⟨di args,[]⟩ ⟨H,none⟩ (dO X n lo pf.results R)) (g:X.b8 f=none:=by exact rfl) (k:X.code f=some pf:=by exact rfl) (j:Nat.ble args.length pf.ntmps=true:=by exact rfl): ∃a,D X (.fn (.func f) [] []) args ⟨H,lo⟩=some a/\R a:=apV pf g k j h
def eY{X:Ctx}(pf:PF){args cap:lA}{H:List ae}{a:aX}
 (h: ∀n,H.length=n->wp X f false pf.body ⟨di (args++cap),[]⟩ ⟨H,none⟩ (dO X n lo pf.results (· =a))) (g:X.b8 f=none:=by exact rfl) (k:X.code f=some pf:=by exact rfl) (j:Nat.ble (args++cap).length pf.ntmps=true:=by exact rfl):D X (.fn (.func f) [] cap) args ⟨H,lo⟩=some a:=ap2 pf g k j h
section
variable{P:Program}{X:Ctx}{B:Nat}{az:World}{c8:List Deferred}
section
variable{C:bE}(hC:fK P B az C)(hg:fz X B az){r:oN}{n nt:Nat}{rows:Bool}
include hC hg
theorem OE{c:Array Oper}(k:lN): ∀ (os:List Oper) (is:lN) (l:List aV),is.map (c[·]?)=os.map some->kI P rows c os=some l->(∀x∈l,∀d,x.dst=some d->d<nt)->
  ∀ (G:Gh) (E:AS) (w:World) (fr:Fr) (a:Act) (res:Ex×Fr×AS) (Q:Exit->Act->World->Prop),ba P B az G E w->cM G nt fr.env a.tmps->gx c8 G fr.marks a.defers->eP X C l fr E=some res->
  (∀a w,res.1= .normal->mv P B az c8 G E nt res .normal a w->wpOpsIn (W r) n P c Q k a w)->(∀e a w,res.1≠ .normal->mv P B az c8 G E nt res e a w->Q e a w)->wpOpsIn (W r) n P c Q (is++k) a w
 | [],is,l,q,p,s,G,E,w,fr,a,res,Q,hw,he,hm,j,A,z=>by
   have:is=[]:=by simp_all
   subst this;simp only[kI,adQ]at p;subst p;simp only[eP,adQ]at j;subst j;exact A _ _ rfl ⟨G,G.le_refl,hw,he,hm,.refl E,trivial⟩
 |o::os,is,l,q,p,s,G,E,w,fr,a,res,Q,hw,he,hm,j,A,z=>by
  cases is with
  |nil=>grind
  |cons i is=>
   simp only[al0,ay8]at q;obtain⟨H,q⟩:=q;simp only[kI]at p;split at p
   ·rename_i x xs g t;cases p;simp only[ahn,wpOpsIn,H];have I:guardOf c o=some x.g:=by
     unfold iN at g;split at g
     ·rename_i J;cases g;exact J
     ·cases g
    have u:x.dst=o.dst:=by
     unfold iN at g;split at g
     ·cases g;rfl
     ·cases g
    have F:=yd he I;simp only[eP]at j;rw[F];split at j
    ·rename_i m;rw[adV m];split at j
     ·rename_i v E' hex;refine ye hC hg g (s x (by simp)) hw he hm hex (λb f e V a' w' M J K T S=>?_) (λb f e=>by cases e);cases e;exact OE k os is xs q t (λy D=>s y (by simp[D])) V E' w' _ a' res Q J T S j (λa w e h=>A a w e (h.trans M K)) (λe a w U h=>z e a w U (h.trans M K))
     ·rename_i v E' hex;cases j;exact ye hC hg g (s x (by simp)) hw he hm hex (λb f e=>by cases e) (λb f e Y a' w' h=>by cases e;exact z _ _ _ (by simp) h)
     ·cases j
    ·rename_i m;rw[ada m];refine⟨λ_ _=>trivial,?_⟩;obtain⟨R,O,N⟩:=qC (a:=a) he (s x (by simp)) (v:=.undef) (v':=undef) yc;rw[<-u];exact OE k os is xs q t (λy D=>s y (by simp[D])) G E w _ _ res Q hw R (by rw[O,N];exact hm) j A z
   grind
end
structure wi where
 dst:Nat
 pf:PF
 deriving Inhabited
def ac3(o:Oper):Bool:=match o.op with
 |.call c=>match c.callee,c.args.toList,o.guard with
  |.builtin .recover,[],none=>true
  |_,_,_=>false
 |_=>false
def OF(o:Oper):Bool:=match o.op,o.guard with
 |.move _,none=>true
 |.assign _,none=>true
 |_,_=>false
def ac4(P:Program)(rows:Bool)(nt:Nat):Code->Option (Nat×PC)
 |.seq (.region _ ops false) b=>match ops.toList with
  |o::os=>match o.dst,kI P rows ops os,eU P rows nt b with
   |some d,some xs,some a=>if ac3 o=true/\os.all OF=true/\d<nt/\xs.all (λx=>match x.dst with|some d=>d<nt|none=>true)then some (d,.seq (.aR xs) a)else none
   |_,_,_=>none
  | []=>none
 |_=>none
def A5(P:Program)(rows:Bool)(fn:Func):Option wi:=
 match fn.body with
 |some c=>match ac4 P rows fn.ntmps c,oV P fn.results.toList with
  |some (d,b),some rs=>if(fn.name != "runtime.NumGoroutine")then some ⟨d,{ntmps:=fn.ntmps,results:=rs,body:=b}⟩else none
  |_,_=>none
 |none=>none
noncomputable def H5(X:Ctx)(C:bE)(L:eA)(g:FuncId)(pr:wi)(args:lA)(rv:AV)(E:AS):Option AS:=
 if args.length<=pr.pf.ntmps then
  match bm X C L g false pr.pf.body {env:=(di args).set pr.dst rv,marks:=[]} {E with lo:=none}with
  |some (.normal,⟨e,[]⟩,E')=>(fI X E' e pr.pf.results).map λv=>(finish E.heap.length E.lo v E').2
  |some (.ret,⟨e,[]⟩,E')=>(fI X E' e pr.pf.results).map λv=>(finish E.heap.length E.lo v E').2
  |_=>none
 else none
def ac5(G:Gh)(u:FrameMode)(rv:AV):Prop:=
 (u= .returning/\rv= .eJ)\/ ∃v',u= .panicking [{v:=v',recovered:=false}]/\an G rv v'
section
variable{C:bE}(hC:fK P B az C)(hg:fz X B az)(hX:oX P X)(gJ:AN P X B az){L:eA}(hL:yf L)
include hC hg hX gJ hL
omit hC hg hX gJ hL in
theorem ac6{n nt:Nat}{rows:Bool}{b:Array Oper}{cs:List Frame}: ∀ (os:List Oper) (is:lN) (l:List aV),is.map (b[·]?)=os.map some->kI P rows b os=some l->os.all OF=true->(∀x∈l,∀d,x.dst=some d->d<nt)->
  ∀ (G:Gh) (E:AS) (w:World) (fr:Fr) (a:Act) (Q:Exit->Act->List Frame->World->Prop) (res:Ex×Fr×AS),ba P B az G E w->cM G nt fr.env a.tmps->gx [] G fr.marks a.defers->eP X C l fr E=some res->
  (∀a' m,res=(.normal,m,E)->cM G nt m.env a'.tmps->gx [] G m.marks a'.defers->Q .normal a' cs w)->wpOpsSIn (W none) n P b Q is a cs w
 | [],is,l,k,h,_,J,G,E,w,fr,a,Q,res,hw,he,hm,q,K=>by
   have:is=[]:=by simpa using k
   subst this;simp only[kI,adQ]at h;subst h;simp only[eP,adQ]at q;exact K a fr q.symm he hm
 |o::os,is,l,k,h,e,J,G,E,w,fr,a,Q,res,hw,he,hm,q,K=>by
  cases is with
  |nil=>simp at k
  |cons i is=>
   simp only[al0,ay8]at k;obtain⟨I,k⟩:=k;simp only[atB,af0]at e;obtain⟨j,e⟩:=e;simp only[kI]at h;split at h
   ·rename_i x xs c D;cases h;have s: (∃z,(o.op= .move z\/o.op= .assign z))/\o.guard=none:=by
     unfold OF at j;split at j
     ·rename_i z v u;exact⟨⟨_,.inl v⟩,u⟩
     ·rename_i z v u;exact⟨⟨_,.inr v⟩,u⟩
     ·cases j
    obtain⟨⟨z,f⟩,t⟩:=s;have F: ∃y,bK z=some y/\x={g:=none,dst:=o.dst,i:=.mov y}:=by
     unfold iN at c;have v:guardOf b o=some none:=by unfold guardOf;rw[t]
     rw[v]at c;have u:kH P rows o=(bK z).map .mov:=by
      rcases f with f|f<;>simp only[kH,f]
     rw[u]at c;cases A:bK z with
     |none=>rw[A]at c;cases c
     |some y=>rw[A]at c;cases c;exact⟨y,rfl,rfl⟩
    obtain⟨y,A,rfl⟩:=F;have p: (execOp a.eval o).run P w= .ok (.value (a.eval z)) w:=by
     rcases f with f|f<;>(unfold execOp;simp only[f];rfl)
    simp only[wpOpsSIn,I];have H:Region.wanted o (yielded b a.tmps)=true:=by simp[Region.wanted,t]
    rw[adV H,p];refine⟨λ_ _=>trivial,?_⟩;simp only[eP,ga,af1,exec]at q;obtain⟨O,N,M⟩:=qC (a:=a) (dst:=o.dst) he (J {g:=none,dst:=o.dst,i:=.mov y} (by simp)) (cC he A);exact ac6 os is xs k D e (λx c=>J x (by simp[c])) G E w _ _ Q res hw O (by rw[N,M];exact hm) q K
   ·cases h
theorem ap4{g:FuncId}{fn:Func}{pr:wi}{rows:Bool}(hfn:P.funcs[g]?=some fn)(q:A5 P rows fn=some pr){args:lA}{E f:AS}{rv:AV}
  (h:H5 X C L g pr args rv E=some f) {G:Gh}  {a:Array Value} (hw:ba P B az G E w) (hl:aG G args a.toList) {u:FrameMode} (hu:ac5 G u rv):
  CallsDIn (W none) n P g a u w (λe A w'=>settle A= .returning/\ ∃v K,e= .returned v/\G.le K/\ba P B az K f w'/\E.Ext f):=by
 unfold A5 at q;split at q
 case h_2=>grind
 rename_i c hb;split at q
 case h_2=>grind
 rename_i d b rs p hrs;split at q
 case isFalse=>grind
 cases q;unfold ac4 at p;split at p
 case h_2=>cases p
 rename_i id ops b';split at p
 case h_2=>cases p
 rename_i o os y;split at p
 case h_2=>cases p
 rename_i d' xs pb OG wj hpb;split at p
 case isFalse=>cases p
 rename_i U;cases p;obtain⟨I,hmv,hdn,yq⟩:=U;unfold H5 at h;split at h
 case isFalse=>cases h
 rename_i z;simp only at z h;cases H:bm X C L g false (.seq (.aR xs) pb) {env:=(di args).set d rv,marks:=[]} {E with lo:=none}with
 |none=>rw[H]at h;cases h
 |some res=>
 have k:=H;simp only[bm]at k;cases s:eP X C xs {env:=(di args).set d rv,marks:=[]} {E with lo:=none}with
 |none=>rw[s]at k;cases k
 |some Y=>
 rw[s]at k;refine callsDIn_of_wpSIn hfn hb trivial λl cs T=>?_
 refine wpSIn_seq (wpSIn_region ?_);have aB7:0<ops.size:=by rw[<-alK,y];simp
 have M:List.range ops.size=0:: (List.range' 1 (ops.size-1)):=by
  rw[azb,show ops.size=(ops.size-1)+1 by omega,List.range'_succ];simp
 have h0:ops[0]?=some o:=by rw[<-aqh,y];rfl
 rw[M];simp only[wpOpsSIn,h0];have aqa: (∃c,o.op= .call c/\c.callee= .builtin .recover/\c.args.toList=[])/\o.guard=none:=by
  unfold ac3 at I;split at I
  ·rename_i c R;split at I
   ·rename_i h1 h2 h3;exact⟨⟨c,R,h1,h2⟩,h3⟩
   ·cases I
  ·cases I
 obtain⟨⟨cc,R,OH,aB8⟩,gy⟩:=aqa;have OI: ∀t:Array Value,Region.wanted o (yielded ops t)=true:=λt=>by simp[Region.wanted,gy]
 have S: ∀ρ,(execOp ρ o).run P w= .ok .recover w:=by
  intro ρ;unfold execOp;simp only[R,resolve,OH];simp[invoke,builtin]
 rw[adV (OI _),S];refine⟨λ_ _=>trivial,?_⟩;have he0:cM G fn.ntmps (di args) (a++Array.replicate (fn.ntmps-a.size) undef):=Hg hl z;have OJ: (List.range' 1 (ops.size-1)).map (ops[·]?)=os.map some:=by
  apply anX;intro j;have hos:os.length=ops.size-1:=by
   have:ops.toList.length=os.length+1:=by rw[y];rfl
   rw[alK]at this;omega
  by_cases hj:j<os.length
  ·have e1: (List.range' 1 (ops.size-1))[j]?=some (1+j):=by
     rw[List.getElem?_range' (by omega)];simp
   simp only[afW,e1,afF,adR hj];rw[<-aqh,y,Nat.add_comm,axC,adR hj]
  ·rw[alh (by simp;omega),alh (by simp;omega)]
 have aqc: ∀x∈xs,∀d,x.dst=some d->d<fn.ntmps:=by
  intro x hx d Z;have:=afQ.1 yq x hx;rw[Z]at this;simpa using this
 have key: ∀ (v':Value) (N:List Frame) (A:FrameMode),an G rv v'->settle A= .returning->N={l with mode:=A}::cs->
   wpOpsSIn (W none) n P ops (Exit.thenS (b'.wpSIn (W none) n P (bodyPostS P fn l cs (λe A w'=>settle A= .returning/\ ∃v K,e= .returned v/\G.le K/\ba P B az K f w'/\E.Ext f))) (bodyPostS P fn l cs (λe A w'=>settle A= .returning/\ ∃v K,e= .returned v/\G.le K/\ba P B az K f w'/\E.Ext f)))
    (List.range' 1 (ops.size-1)) (Act.put {tmps:=a++Array.replicate (fn.ntmps-a.size) undef,defers:=[]} o.dst v') N w:=by
  intro v' N A hv O Ha;rw[OG];have he1:cM G fn.ntmps ((di args).set d rv) (Act.put {tmps:=a++Array.replicate (fn.ntmps-a.size) undef,defers:=[]} (some d) v').tmps:=he0.set hdn hv;refine ac6 os _ xs OJ wj hmv aqc G {E with lo:=none} w {env:=(di args).set d rv,marks:=[]} _ _ Y (hw.lo none) he1 rfl s (λa1 H6 Q he2 hm2=>?_);subst Q;simp only at k;simp only[Exit.thenS];refine wpSIn_of_wpIn rfl (vZ hC hg hX gJ hL (r:=none) rfl b' pb hpb G {E with lo:=none} w H6 a1 res _ (hw.lo none) he2 hm2 k (λe a2 w2 aqg=>?_));obtain⟨G2,q1,q2,q3,q4,q5,q6⟩:=aqg;obtain⟨ex,⟨e2,ms⟩,V⟩:=res;rw[H]at h;have fin:ms=[]->(∃v,fI X V e2 rs=some v/\ (finish E.heap.length E.lo v V).2=f)->(e= .normal\/e= .ret)->bodyPostS P fn l cs (λe A w'=>settle A= .returning/\ ∃v K,e= .returned v/\G.le K/\ba P B az K f w'/\E.Ext f) e a2 N w2:=by
   intro hms ⟨v,F,D⟩ hee;subst hms;obtain⟨v2,r1,r2⟩:=Dg hg q2 q3 hrs F;obtain⟨G3,p1,p2,p3,p4⟩:=ya hw q1 q2 q5 r2;rw[D]at p2 p4;have hd2:a2.defers=[]:=q4;rcases hee with rfl|rfl
   ·exact⟨hd2,A,Ha,v2,r1,O,v2,G3,rfl,p1,p2,p4⟩
   ·exact⟨hd2,A,Ha,v2,r1,O,v2,G3,rfl,p1,p2,p4⟩
  cases ex with
  |normal=>
   cases ms with
   |cons m ms=>cases h
   |nil=>
    obtain⟨v,F,D⟩:=afE.1 h;cases e<;>simp[fX]at q6;exact fin rfl ⟨v,F,D⟩ (.inl rfl)
  |ret=>
   cases ms with
   |cons m ms=>cases h
   |nil=>
    obtain⟨v,F,D⟩:=afE.1 h;cases e<;>simp[fX]at q6;exact fin rfl ⟨v,F,D⟩ (.inr rfl)
  |exit i=>cases h
  |panic v=>cases h
 rcases hu with⟨rfl,rfl⟩| ⟨v',rfl,hv⟩
 ·have J:recoverD (l::cs)=none:=by simp[recoverD,T]
  simp only[J];refine key .nilIface (l::cs) .returning (by simp[an]) rfl ?_;rw[<-T]
 ·have J:recoverD (l::cs)=some (v',{l with mode:=.panicking [{v:=v',recovered:=true}]}::cs):=by simp[recoverD,T]
  simp only[J];exact key v' _ _ hv rfl rfl
end
end
section
variable{P:Program}{X:Ctx}{B:Nat}{az:World}{c8:List Deferred}
inductive DG where
 |here(ops:List aV)(kQ:ao)(fB:List ao)(rest:PC)
 |later(pre:PC)(d:DG)
 deriving Inhabited
structure uM where
 ntmps:Nat
 results:List RV
 body:DG
 deriving Inhabited
def ac8(P:Program)(rows:Bool)(nt:Nat):Code->Option (List aV×ao×List ao)
 |.region _ ops false=>match ops.toList.getLast? with
  |some o=>match o.op,o.guard,o.dst with
   |.defer c,none,none=>match c.callee with
    |.value f=>match kI P rows ops ops.toList.dropLast,bK f,nO c.args.toList with
     |some xs,some a,some as=>if xs.all (λx=>match x.dst with|some d=>d<nt|none=>true)then some (xs,a,as)else none
     |_,_,_=>none
    |_=>none
   |_,_,_=>none
  |none=>none
 |_=>none
def DH(P:Program)(rows:Bool)(nt:Nat):Code->Option DG
 |.seq a b=>match ac8 P rows nt a with
  |some (xs,f,as)=>(eU P rows nt b).map (.here xs f as)
  |none=>match eU P rows nt a,DH P rows nt b with
   |some d,some c=>some (.later d c)
   |_,_=>none
 |_=>none
def A6(P:Program)(rows:Bool)(fn:Func):Option uM:=
 match fn.body with
 |some c=>match DH P rows fn.ntmps c,oV P fn.results.toList with
  |some b,some rs=>if(fn.name != "runtime.NumGoroutine")then some {ntmps:=fn.ntmps,results:=rs,body:=b}else none
  |_,_=>none
 |none=>none
def AV.H7:AV->Bool
 |.fn .. =>true
 |_=>false
noncomputable def wk(X:Ctx)(C:bE)(L:eA)(bT:FuncId):DG->Fr->AS->Option (Option (AV×lA)×(Ex×Fr×AS))
 |.here ops a c rest,fr,E=>match eP X C ops fr E with
  |some (.normal,⟨e,[]⟩,E')=>if(a.get e).H7 then(bm X C L bT false rest ⟨e,[]⟩ E').map λr=>(some (a.get e,c.map (·.get e)),r)else none
  |some (.normal,_,_)=>none
  |some r=>some (none,r)
  |none=>none
 |.later pre d,fr,E=>match bm X C L bT false pre fr E with
  |some (.normal,b,E')=>wk X C L bT d b E'
  |some r=>some (none,r)
  |none=>none
abbrev o6:=FuncId->Option wi
noncomputable def A7(X:Ctx)(C:bE)(L:eA)(R:o6)(b:AV)(a:lA)(rv:AV)(E:AS):Option AS:=
 match b with
 |.fn (.func g) first cap=>(R g).bind λpr=>H5 X C L g pr (first++a++cap) rv E
 |_=>none
def Ex.OK:Ex->Option AV
 |.normal=>some .eJ
 |.ret=>some .eJ
 |.panic v=>some v
 |.exit _=>none
noncomputable def OM(X:Ctx)(C:bE)(L:eA)(R:o6)(n:Nat)(dL:oN)(c:uM):Option (Option (AV×lA)×(Ex×Fr×AS))->Option aX
 |some (none,r)=>leave X n dL {ntmps:=c.ntmps,results:=c.results,body:=.skip} (some r)
 |some (some (tv,d),(ex,fr,E))=>match ex.OK,dM E fr.marks with
  |some rv,some b=>(A7 X C L R tv d rv b).bind λa=>(fI X a fr.env c.results).map λv=>.ret (finish n dL v a).1 (finish n dL v a).2
  |_,_=>none
 |none=>none
noncomputable def wm(X:Ctx)(C:bE)(L:eA)(R:o6)(f:FuncId)(a:uM)(args:lA)(E:AS):Option aX:=
 if args.length<=a.ntmps then OM X C L R E.heap.length E.lo a (wk X C L f a.body {env:=di args,marks:=[]} {E with lo:=none})else none
def ON(P:Program)(R:o6):Prop:= ∀g pr,R g=some pr-> ∃rows fn,P.funcs[g]?=some fn/\A5 P rows fn=some pr
section
variable{C:bE}(hC:fK P B az C)(hg:fz X B az)(hX:oX P X)(gJ:AN P X B az){L:eA}(hL:yf L)
include hC hg hX gJ hL
theorem aqj{rows:Bool}{nt:Nat}{bT:FuncId}: ∀ (c:Code) (pd:DG),DH P rows nt c=some pd->
  ∀ (G:Gh) (E:AS) (w:World) (fr:Fr) (a:Act) (O:Option (AV×lA)) (r:Ex×Fr×AS) (Q:Exit->Act->World->Prop),ba P B az G E w->cM G nt fr.env a.tmps->gx [] G fr.marks a.defers->wk X C L bT pd fr E=some (O,r)->
  (O=none-> ∀e a w,mv P B az [] G E nt r e a w->Q e a w)->
  (∀tv J,O=some (tv,J)-> ∀A s G1,G.le G1->an G1 tv A->aG G1 J s.toList-> ∀d,(∀w:World,(Deferred.ofValue A s).run P w= .ok d w)-> ∀e a w,mv P B az [d] G1 E nt r e a w->Q e a w)->c.wpIn (W none) n P Q a w:=by
 intro c
 induction c with
 |seq x y ihx ihy=>
  intro pd h G E w fr a O r Q hw he hm i hN hD;rw[DH]at h;split at h
  ·rename_i xs f' as g;obtain⟨rest,M,rfl⟩:=afE.1 h;unfold ac8 at g;split at g
   case h_2=>cases g
   rename_i id ops;split at g
   case h_2=>cases g
   rename_i o v;split at g
   case h_2=>cases g
   rename_i cc o5 gy OG;split at g
   case h_2=>cases g
   rename_i fop OH;split at g
   case h_2=>cases g
   rename_i xs' f'' Hf wj hfo has;split at g
   case isFalse=>cases g
   rename_i uJ;cases g;have hd: ∀x∈xs,∀d,x.dst=some d->d<nt:=by
    intro x hx d yq;have:=afQ.1 uJ x hx;rw[yq]at this;simpa using this
   have q:ops.toList=ops.toList.dropLast++[o]:=by
    rw[List.getLast?_eq_some_iff]at v;obtain⟨ys,OO⟩:=v;rw[OO];simp
   have r6:ops.size=ops.toList.dropLast.length+1:=by
    rw[<-alK];conv=>lhs;rw[q]
    simp
   have D:List.range ops.size=List.range (ops.size-1)++[ops.size-1]:=by
    conv=>lhs;rw[show ops.size=(ops.size-1)+1 by omega,aoH]
   have OJ: (List.range (ops.size-1)).map (ops[·]?)=ops.toList.dropLast.map some:=by
    apply anX;intro j;by_cases hj:j<ops.toList.dropLast.length
    ·have e1: (List.range (ops.size-1))[j]?=some j:=by rw[ap6 (by omega)]
     simp only[afW,e1,afF,adR hj];rw[<-aqh]
     conv=>lhs;rw[q]
     rw[ac7 hj,adR hj]
    ·rw[alh (by simp;simp at hj;omega),alh (by simpa using hj)]
   have H:ops[ops.size-1]?=some o:=by
    rw[<-aqh]
    conv=>lhs;rw[q]
    rw[afN (by omega)];rw[show ops.size-1-ops.toList.dropLast.length=0 by omega];rfl
   refine az5 (wpIn_region ?_);rw[D];simp only[wk]at i;cases b:eP X C xs fr E with
   |none=>rw[b]at i;cases i
   |some k=>
   refine OE hC hg [ops.size-1] _ _ xs OJ wj hd G E w fr a k _ hw he hm b (λl w1 F f=>?_) (λe l w1 F f=>?_)
   ·obtain⟨ex,⟨e1,ms⟩,t⟩:=k;simp only at F;subst F;obtain⟨G1,q1,q2,S,q4,q5,q6⟩:=f;rw[b]at i;cases ms with
    |cons m ms=>cases i
    |nil=>
    simp only at i;split at i
    case isFalse=>cases i
    rename_i z;obtain⟨r',OP,A8⟩:=afE.1 i;cases A8;have DI:l.defers=[]:=q4;have aqm:=x0 S has;have I:=cC S hfo;simp only[wpOpsIn,H];have OI:Region.wanted o (yielded ops l.tmps)=true:=by simp[Region.wanted,gy]
    rw[adV OI];refine⟨λ_ _=>trivial,?_⟩;have Dp:o.semAt (W none).round l.eval=execOp l.eval o:=Oper.semAt_none _ _;rw[Dp];have aqn: ∀d,(∀w:World,(Deferred.ofValue (l.eval fop) (cc.args.map l.eval)).run P w= .ok d w)->(execOp l.eval o).run P w1= .ok (.defer d) w1:=by
     intro d u;unfold execOp;simp only[o5,resolve,OH];rw[Sem.run_bind,u w1];rfl
    have aqo: ∃d,∀w:World,(Deferred.ofValue (l.eval fop) (cc.args.map l.eval)).run P w= .ok d w:=by
     cases htv:f'.get e1<;>rw[htv]at z<;>simp only[AV.H7,afG]at z;rw[htv]at I;simp only[an]at I;obtain⟨f0,fs0,OQ,hfe,_⟩:=I;rw[hfe];exact⟨_,λw=>rfl⟩
    obtain⟨d,u⟩:=aqo;rw[aqn d u];simp only[Oper.uponIn,OG,Act.put,DI];refine vZ hC hg hX gJ hL (r:=none) (c8:=[d]) rfl y rest M G1 t w1 ⟨e1,[]⟩ {l with defers:=[d]} r _ q2 S rfl OP (λe a2 R p=>?_);refine hD _ _ rfl _ _ G1 q1 I (by simpa using aqm) d u e a2 R ?_;obtain⟨G2,Z,Y,V,U,T,K⟩:=p;exact⟨G2,Z,Y,V,U,q5.trans T,K⟩
   ·rw[b]at i;obtain⟨ex,⟨e1,ms⟩,t⟩:=k;have N:some (none,(ex,⟨e1,ms⟩,t))=some (O,r):=by
     cases ex with
     |normal=>exact absurd rfl F
     |_=>exact i
    cases N;have N:=hN rfl e l w1 f;obtain⟨G2,Z,Y,V,U,T,K⟩:=f;cases e<;>first|exact N| (exfalso;cases ex<;>simp[fX]at K;exact F rfl)
  ·split at h
   ·rename_i px pd' hx hy;cases h;simp only[wk]at i;cases b:bm X C L bT false px fr E with
    |none=>rw[b]at i;cases i
    |some k=>
    rw[b]at i;obtain⟨ex,H6,t⟩:=k;by_cases F:ex= .normal
    ·subst F;simp only at i;refine az5 (vZ hC hg hX gJ hL (r:=none) rfl x px hx G E w fr a _ _ hw he hm b (λe l w1 f=>?_));obtain⟨G1,q1,q2,S,q4,q5,q6⟩:=f;cases e<;>simp[fX]at q6;refine ihy pd' hy G1 t w1 H6 l O r Q q2 S q4 i (λaqr e a2 R hh=>hN aqr e a2 R (hh.trans q1 q5)) (λtv J u A s G2 hG2 hv hl d hd e a2 R p=>?_);refine hD tv J u A s G2 (Gh.le_trans q1 hG2) hv hl d hd e a2 R ?_;obtain⟨G3,Z,Y,V,U,T,K⟩:=p;exact⟨G3,Z,Y,V,U,q5.trans T,K⟩
    ·have N:some (none,(ex,H6,t))=some (O,r):=by
       cases ex with
       |normal=>exact absurd rfl F
       |_=>exact i
     cases N;refine az5 (vZ hC hg hX gJ hL (r:=none) rfl x px hx G E w fr a _ _ hw he hm b (λe l w1 f=>?_));have N:=hN rfl e l w1 f;obtain⟨G2,Z,Y,V,U,T,K⟩:=f;cases e<;>first|exact N| (exfalso;cases ex<;>simp[fX]at K;exact F rfl)
   ·cases h
 |_=>intro pd h;simp[DH]at h
omit hC hX gJ hL in
theorem aqt{fn:Func}{G:Gh}{E:AS}{w':World}{r:Ex×Fr×AS}{k:aX}{e:Exit}{a:Act}(g:oV P fn.results.toList=some pf.results)(x:ba P B az G E w)
  (h:leave X E.heap.length E.lo pf (some r)=some k) (D:mv P B az [] G {heap:=E.heap,lo:=none} fn.ntmps r e a w'):bodyPostM (W none) 0 P fn (Ends P B az G E k) e a w':=by
 obtain⟨F,u,t,z,s,q,j⟩:=D;obtain⟨ex,fr,E'⟩:=r;have f:qy X E.heap.length E.lo pf fr E'=some k->LeavesInM (W none) 0 P fn a.tmps (Ends P B az G E k) a.defers .returning w':=by
  intro h;unfold qy at h;split at h
  ·rename_i d i;split at h
   ·rename_i v A;cases h;refine yh (by simp) fr.marks a.defers E' d w' s t i (λl b=>?_);obtain⟨v',e1,y⟩:=Dg hg b z g A;refine⟨v',e1,?_⟩;obtain⟨c,p,o,n,m⟩:=ya x u b (q.trans (yg _ _ _ i)) y;exact⟨c,p,o,n,m⟩
   ·cases h
  ·cases h
 cases ex with
 |normal=>cases e<;>simp[fX]at j;exact f h
 |ret=>cases e<;>simp[fX]at j;exact f h
 |exit id=>simp[leave]at h
 |panic v=>
  cases e<;>simp[fX]at j;rename_i chain;obtain⟨v',rfl,rv⟩:=j;simp only[leave]at h;split at h
  ·rename_i d i;cases h;refine yh (by simp) fr.marks a.defers E' d w' s t i (λl b=>?_);obtain⟨c,p,o,n,m⟩:=ya x u b (q.trans (yg _ _ _ i)) rv;exact⟨c,v',rfl,p,o,n,m⟩
  ·cases h
theorem aqu{R:o6}(hR:ON P R){fn:Func}{pd:uM}{rows:Bool}(N:P.funcs[f]?=some fn)(n:A6 P rows fn=some pd):gz P B az f (wm X C L R f pd):=by
 intro args E cr h G w l hw hl;unfold A6 at n;split at n
 case h_2=>grind
 rename_i c hb;split at n
 case h_2=>grind
 rename_i bd rs D y;split at n
 case isFalse=>grind
 rename_i aCe;cases n;unfold wm at h;split at h
 case isFalse=>cases h
 rename_i q;simp only at q h;have x: ¬fn.name= "runtime.NumGoroutine" :=by grind
 have O: (callFunc f l).run P w= .ok (.enter f l) w:=by
  simp[callFunc,aqA,N,x,hb]
 rw[O];show CallsIn (W none) 0 P f l w _;have he:cM G fn.ntmps (di args) (l++Array.replicate (fn.ntmps-l.size) undef):=Hg hl q;cases t:wk X C L f bd {env:=di args,marks:=[]} {E with lo:=none}with
 |none=>rw[t]at h;cases h
 |some res=>
 obtain⟨dr,r⟩:=res;rw[t]at h;refine axM N hb trivial (aqj hC hg hX gJ hL c bd D G {E with lo:=none} w {env:=di args,marks:=[]} _ dr r _ (hw.lo none) he rfl t ?_ ?_) rfl
 ·rintro rfl e a w' hr;exact aqt hg (pf:={ntmps:=fn.ntmps,results:=rs,body:=.skip}) y hw h hr
 ·rintro tv S rfl tv' m G1 hG1 hv hld d hd e a w' ⟨G',V,q2,q3,q4,q5,U⟩;obtain⟨ex,fr,E'⟩:=r;simp only[OM]at h;have ai: ∀ (rv:AV) (j:AS) (u:FrameMode),dM E' fr.marks=some j->ac5 G' u rv->u≠ .run->
    ((A7 X C L R tv S rv j).bind λs=>(fI X s fr.env rs).map λv=>aX.ret (finish E.heap.length E.lo v s).1 (finish E.heap.length E.lo v s).2)=some cr->
    LeavesInM (W none) 0 P fn a.tmps (Ends P B az G E cr) a.defers u w':=by
   intro rv j u o A hu H8;refine yh hu fr.marks a.defers E' j w' q4 q2 o (λZ I=>?_);obtain⟨s,p,M⟩:=anc.1 H8;obtain⟨v,hv1,rfl⟩:=afE.1 M;unfold A7 at p;split at p
   case h_2=>cases p
   rename_i g first cap
   obtain⟨pr,hpr,A8⟩:=anc.1 p;obtain⟨aor,Q,z,b⟩:=hR g pr hpr;have hgb: ∃Y,Q.body=some Y/\ ¬Q.name= "runtime.NumGoroutine" :=by
    unfold A5 at b;split at b
    case h_2=>cases b
    rename_i Y F;split at b
    case h_2=>cases b
    split at b
    case isFalse=>cases b
    rename_i hn;exact⟨Y,F,by simpa using hn⟩
   obtain⟨Y,F,hgn⟩:=hgb;have J:=hv;simp only[an,mY]at J;obtain⟨f',i,k,rfl,rfl,hf,hc⟩:=J;have yo:d={target:=.fn (.func g) k,args:=i++m}:=by
    have h1:=hd w;have h2: (Deferred.ofValue (.func (.func g) i k) m).run P w= .ok {target:=.fn (.func g) k,args:=i++m} w:=rfl;rw[h2]at h1;simpa using h1.symm
   subst yo;have H:aG G' (first++S++cap) (i++m++k).toList:=by
    simp only[Array.toList_append];exact((hf.mono V).append (hld.mono V)).append (hc.mono V)
   refine⟨hu,.inr ⟨λh=>by simp[W]at h,.func g,k,g,i++m++k,rfl,?_,λ_ _=>trivial,?_⟩⟩
   ·show(callFunc g (i++m++k)).run P Z=_;simp[callFunc,aqA,z,hgn,F]
   ·refine(ap4 hC hg hX gJ hL z b A8 I H A).mono ?_;rintro e2 u2 w3 ⟨K,v3,G3,rfl,g1,g2,g3⟩;show LeavesInM (W none) 0 P fn a.tmps _ [] (settle u2) w3;rw[K];obtain⟨v',e1,r1⟩:=Dg hg g2 (q3.mono g1) y hv1;refine⟨v',e1,?_⟩;obtain⟨T,p1,p2,p3,p4⟩:=ya hw (Gh.le_trans hG1 (Gh.le_trans V g1)) g2 ((q5.trans (yg _ _ _ o)).trans g3) r1;exact⟨T,p1,p2,p3,p4⟩
  cases ex with
  |normal=>
   cases e<;>simp[fX]at U;cases o:dM E' fr.marks with
   |none=>rw[o]at h;cases h
   |some j=>rw[o]at h;exact ai .eJ j .returning o (.inl ⟨rfl,rfl⟩) (by simp) h
  |ret=>
   cases e<;>simp[fX]at U;cases o:dM E' fr.marks with
   |none=>rw[o]at h;cases h
   |some j=>rw[o]at h;exact ai .eJ j .returning o (.inl ⟨rfl,rfl⟩) (by simp) h
  |exit id=>
   cases o:dM E' fr.marks<;>rw[o]at h<;>cases h
  |panic v=>
   cases e<;>simp[fX]at U;obtain⟨v',rfl,rv⟩:=U;cases o:dM E' fr.marks with
   |none=>rw[o]at h;cases h
   |some j=>rw[o]at h;exact ai v j (.panicking [{v:=v',recovered:=false}]) o (.inr ⟨v',rfl,rv⟩) (by simp) h
end
def adb:yf Lw:=λ_ _ _ _ h=>DA h
def OR(hg:fz X B az)(hX:oX P X)(e: ∀f p,X.b8 f=some p->gz P B az f p){R:o6}(d:ON P R){fn:Func}{c:uM}{rows:Bool}(b:P.funcs[f]?=some fn)(a:A6 P rows fn=some c):
 gz P B az f (wm X (D X) Lw R f c):=aqu (Ob hg hX e) hg hX (NU hg) adb d b a
end
def aT(N:Nat)(H:List ae)(v:AV)(sz:Nat)(ty:TypeId)(af:List lA):Prop:=
 (∀el∈af,el.length=sz)/\ ((v= .aq/\af=[])\/ ∃id aj,N<=id/\v= .ref id aj sz 0 af.length false/\H[id]?=some (.row aj sz ty af))
def bD(v:AV)(af:List lA):AV:=match v with
 |.aq=>.aq
 |_=>.sl af false
section
variable{N:Nat}{H H':List ae}{v:AV}{sz bytes:Nat}{ty:TypeId}{af ys:List lA}{lo:oN}
theorem aT.aq:aT N H .aq sz ty []:=⟨by simp,.inl ⟨rfl,rfl⟩⟩
def aT.mono(h:aT N H v sz ty af)(b:H<+:H'):aT N H' v sz ty af:=by
 obtain⟨c,a⟩:=h;refine⟨c,?_⟩;rcases a with a| ⟨id,aj,f,d,e⟩
 ·grind
 ·obtain⟨L,rfl⟩:=b
  grind
def aT.ext{L:List ae}(h:aT N H v sz ty af):aT N (H++L) v sz ty af:=h.mono (anZ _ _)
def aT.rd(h:aT N H v sz ty af):Rd ⟨H,lo⟩ v sz af:=by
 obtain⟨c,b⟩:=h;rcases b with⟨rfl,rfl⟩| ⟨id,aj,d,rfl,a⟩
 ·exact .aq
 ·refine⟨trivial,?_,c⟩;simp only[elems,a,aza]
  grind
def aqB{id:Nat}{o:ae}(a:H0<+:H)(b:H0.length<=id):H0<+:H.set id o:=by
 obtain⟨L,rfl⟩:=a
 grind
def aT.append(h:aT N H v sz ty af)(b:H0<+:H)(o:H0.length=N)(i:0<sz)(k: ∀el∈ys,el.length=sz)(l:bZ ys=0)(f: (af.length+ys.length)*bytes<=room):
  ∃v' H',du ⟨H,lo⟩ ty sz bytes v ys=some (v',⟨H',lo⟩)/\aT N H' v' sz ty (af++ys)/\H0<+:H'/\H.length<=H'.length/\ (∀id,id<N->H'[id]?=H[id]?):=by
 have e:0<sz/\ys.all (λel=>el.length==sz)=true:=⟨i,by grind⟩;obtain⟨q,g⟩:=h;have p: ∀el∈af++ys,el.length=sz:=by grind
 by_cases he:ys.length=0
 ·have d:ys=[]:=ak2.1 he;subst d;refine⟨v,H,?_,by simpa using⟨q,g⟩,b,aen _,λ_ _=>rfl⟩;unfold du
  grind
 rcases g with⟨rfl,rfl⟩| ⟨id,aj,m,rfl,a⟩
 ·refine⟨.ref H.length 0 sz 0 ys.length false,H++[.row 0 sz ty ys],?_,⟨by simpa using k,.inr ⟨H.length,0,?_,by simp,by simp⟩⟩,b.trans (anZ _ _),by simp,λid n=>?_⟩
  ·unfold du;rw[adV e];simp only[ada he];rw[adV (by simpa using f)];rfl
  ·rw[<-o];exact b.length_le
  ·rw[ac7 (by have:=b.length_le;omega)]
 ·have c:=(ac9.1 a).1;refine⟨.ref id (aj+1) sz 0 (af.length+ys.length) false,H.set id (.row (aj+1) sz ty (af++ys)),?_,⟨p,.inr ⟨id,aj+1,m,by simp,by simp[c]⟩⟩,aqB b (by omega),by simp,λj r=>?_⟩
  ·unfold du;rw[adV e];simp only[a];rw[adV ⟨trivial,trivial,trivial,trivial,by omega,f⟩,ada he];simp[AS.set,l]
  ·rw[acK (by omega)]
def o7{K:AV->AS->Prop}(h:aT N H v sz ty af)(d:H0<+:H)(f:H0.length=N)(a:0<sz)(b: ∀el∈ys,el.length=sz)(c:bZ ys=0)(e: (af.length+ys.length)*bytes<=room)
  (g: ∀v' H',aT N H' v' sz ty (af++ys)->H0<+:H'->K v' ⟨H',lo⟩):sd (du ⟨H,lo⟩ ty sz bytes v ys) K:=by
 obtain⟨v',H',k,j,i,_⟩:=h.append d f a b c e;rw[k];exact g v' H' j i
def aT.OS(h:aT N H v sz ty af)(w:N<=H.length)(k:0<sz)(l: ∀el∈ys,el.length=sz)(m:bZ ys=0)(q: (af.length+ys.length)*bytes<=room):
  ∃v' H',du ⟨H,lo⟩ ty sz bytes v ys=some (v',⟨H',lo⟩)/\aT N H' v' sz ty (af++ys)/\H.length<=H'.length/\ (∀id,id<N->H'[id]?=H[id]?)/\ (∀ (id:Nat) o,(∀a d,o≠ .row a sz ty d)->H[id]?=some o->H'[id]?=some o):=by
 have n:H.take N<+:H:=List.take_prefix _ _;obtain⟨v',H',b,t,x,s,r⟩:=h.append n (by grind) k l m q;refine⟨v',H',b,t,s,r,λid o f e=>?_⟩;have p:=(ac9.1 e).1;unfold du at b;have i:0<sz/\ys.all (λel=>el.length==sz)=true:=⟨k,by grind⟩;rw[adV i]at b;rcases h.2 with⟨rfl,rfl⟩| ⟨j,aj,u,rfl,c⟩
 ·simp only at b;split at b
  ·grind
  ·split at b
   ·simp only[AS.push,adQ,aqb,AS.mk.injEq]at b
    grind
   grind
 ·simp only[c]at b;split at b
  ·split at b
   ·simp only[adQ,aqb,AS.mk.injEq]at b;rw[<-b.2.1];exact e
   ·simp only[afG,aiz,AS.set,adQ,aqb,AS.mk.injEq]at b;rw[<-b.2.1];have g:j≠id:=by rintro rfl;rw[c]at e;cases e;exact f _ _ rfl
    rw[acK g];exact e
  ·cases b
def aqC{K:AV->AS->Prop}(h:aT N H v sz ty af)(i:H0<+:H)(j:H0.length=N)(b:0<sz)(c: ∀el∈ys,el.length=sz)(e:bZ ys=0)(f: (af.length+ys.length)*bytes<=room)
  (k: ∀v' H',aT N H' v' sz ty (af++ys)->H0<+:H'->H.length<=H'.length->(∀ (id:Nat) o,(∀a d,o≠ .row a sz ty d)->H[id]?=some o->H'[id]?=some o)->K v' ⟨H',lo⟩):sd (du ⟨H,lo⟩ ty sz bytes v ys) K:=by
 obtain⟨v',H',g,n,m,q,l⟩:=h.OS (by grind) b c e f;obtain⟨v2,r,g1,_,p,_⟩:=h.append i j b c e f;rw[g]at g1;cases g1;rw[g];exact k v' H' n p m l
def H9{E:AS}:freeze E n (k+1) (.ay vs)=if(AV.ay vs).refs<=n then some (.ay vs)else match iL E n k vs with|some a=>some (.ay a)|none=>none:=by
 rw[freeze]
 grind
theorem OT{E:AS}{n k:Nat}: ∀l:lA,aI l<=n->iL E n (k+2) l=some l
 | [],_=>by rw[iL]
 |b::bs,a=>by
  simp only[aI]at a;rw[iL,yz (by omega)];rw[OT bs (by omega)]
theorem OU{E:AS}{n k:Nat}: ∀af:List lA,bZ af<=n->rV E n (k+3) af=some af
 | [],_=>by rw[rV]
 |a::as,h=>by
  simp only[bZ]at h;rw[rV,OT a (by omega)];rw[OU as (by omega)]
theorem aT.freeze(h:aT N H v sz ty af)(c:bZ af<=N):Den.freeze ⟨H,lo⟩ N (k+4) v=some (bD v af):=by
 obtain⟨f,d⟩:=h;rcases d with⟨rfl,rfl⟩| ⟨id,aj,e,rfl,a⟩
 ·exact yz (aep _)
 ·have b: ¬(AV.ref id aj sz 0 af.length false).refs<=N:=by simp only[AV.refs];omega
  rw[Den.freeze,ada b];simp only[a];rw[adV ⟨trivial,trivial,by omega⟩];simp only[amu,afH];rw[OU af c];rfl
theorem aT.DJ(h:aT N H v sz ty af)(a:bZ af<=N):finish N lo v ⟨H,none⟩=(bD v af,⟨H.take N,lo⟩):=
 HK rfl (h.freeze a)
def aT.ade{b:AV}(h:aT N H v sz ty af)(d:bZ af<=N)(e:b.refs<=N):finish N lo (.ay [v,b]) ⟨H,none⟩=(.ay [bD v af,b],⟨H.take N,lo⟩):=by
 refine HK rfl ?_;rw[H9];have e1:iL ⟨H,none⟩ N 11 [v,b]=some [bD v af,b]:=by
  rw[iL,h.freeze d];rw[iL,yz e];rw[iL]
 rw[e1];split
 ·rename_i hle;have a:bD v af=v:=by
   obtain⟨i,f⟩:=h;rcases f with⟨rfl,rfl⟩| ⟨id,aj,g,rfl,c⟩
   ·rfl
   ·simp only[AV.refs,aI]at hle;omega
  rw[a]
 ·rfl
def aT.o8(h:aT N H v sz ty af):Rv (bD v af) sz af:=by
 obtain⟨c,b⟩:=h;rcases b with⟨rfl,rfl⟩| ⟨id,aj,d,rfl,a⟩
 ·exact .aq
 ·exact .sl c
theorem bB{α:Type}{g:α->lA}(a: ∀x,aI (g x)=0): ∀l:List α,bZ (l.map g)=0
 | []=>rfl
 |x::xs=>by simp only[al0,bZ,a,bB a xs];rfl
def aqD{E:AS}(h:af.all (λel=>el.length==sz)=true):Den.elems E sz (.sl af c)=some af:=by
 simp only[Den.elems];grind
end
def adf{k:IntKind}{a b:Int}{c:List EK}{as bs:lA}:ju (.int::c) (.int k a::as) (.int k b::bs)=if a=b then ju c as bs else some false:=by
 simp only[ju,qs,af1]
 grind
def aqE{a b:Bool}{c:List EK}{as bs:lA}:ju (.bool::c) (.bool a::as) (.bool b::bs)=if a=b then ju c as bs else some false:=by
 simp only[ju,qs]
 grind
theorem adg:ju [] [] []=some true:=rfl
def adh{N:Nat}{H:List ae}(b: ¬v.refs<=N)(a:freeze ⟨H,none⟩ N 12 v=none):finish N lo v ⟨H,none⟩=(v,⟨H,lo⟩):=by
 rw[yB,ada b,a];rfl
def OV{N id o:Nat}{E:AS}(h:N<=id):freeze E N k (.ptr id o)=none:=by
 cases k with
 |zero=>rw[freeze]
 |succ k=>
  have a: ¬(AV.ptr id o).refs<=N:=by simp only[AV.refs];omega
  simp[freeze,a]
def DK{X:Ctx}{p:lA->AS->Option aX}{args:lA}{E:AS}{a:aX}(b:X.b8 f=some p)(h:p args E=some a):D X (.fn (.func f) [] []) args E=some a:=by
 refine HB ?_;simp only[step,b,ahk,afZ];exact h
theorem adi{cs:lA}:ez cs []=some cs:=rfl
theorem adj{cs:lA}{off:Nat}{r:List (Nat×Nat×AV)}:ez cs ((off,n,v)::r)=if v.cq=false/\v.cells.length=n/\off+n<=cs.length then ez (aK cs off v.cells) r else none:=rfl
theorem adk{len:Nat}{a:List (Nat×Nat×AV)}:Ol z len a=(ez (List.replicate len z).flatten a).map λcs=>.sl (chunks z.length len cs) true:=rfl
theorem adl{E:AS}{ty:TypeId}{len:Nat}{a:List (Nat×Nat×AV)}:Om E ty z len a=(ez (List.replicate len z).flatten a).map λcs=>(.ref E.heap.length 0 z.length 0 len false,E.push (.row 0 z.length ty (chunks z.length len cs))):=rfl
theorem adm{a:List (Nat×Nat×AV)}:Oj z a=(ez z a).map .agg:=rfl
theorem adn{cs:lA}:chunks sz 0 cs=[]:=rfl
theorem ado{cs:lA}:chunks sz (k+1) cs=cs.take sz::chunks sz k (cs.drop sz):=rfl
theorem adp{E:AS}:Den.elems E sz (.sl af c)=if af.all (λel=>el.length==sz)then some af else none:=rfl
theorem adq{X:Ctx}{id off:Nat}{k:IntKind}{a:Int}:uC X n sz (.ptr id off) (.int k a)=if 0<=a/\a<n then some (.ptr id (off+a.toNat*sz))else none:=rfl
theorem adr{X:Ctx}{id off:Nat}{k:IntKind}{a:Int}:uC X n sz (.dp id aj j off) (.int k a)=if 0<=a/\a<n then some (.dp id aj j (off+a.toNat*sz))else none:=rfl
theorem ads{X:Ctx}{off:Nat}{cs:lA}{k:IntKind}{a:Int}:uC X n sz (.eX cs off) (.int k a)=if 0<=a/\a<n then some (.eX cs (off+a.toNat*sz))else none:=rfl
theorem adt{X:Ctx}{g:Nat}{k:IntKind}{a:Int}:uC X n sz (.dJ g) (.int k a)=if 0<=a/\a<n then(match X.dJ g with|some cs=>some (.eX cs (a.toNat*sz))|none=>none)else none:=rfl
theorem adu{off:Nat}{cs:lA}:XK ag n off (.agg cs)=Den.part ag n cs off:=rfl
theorem adv:DC (.ay vs) i=vs[i]?:=rfl
theorem adw{E:AS}:fW E .sl (.sl af c)=some (.int .i64 af.length):=rfl
theorem adx{E:AS}:fW E .sl .aq=some (.int .i64 0):=rfl
theorem ady{E:AS}{id v z o:Nat}:fW E .sl (.ref id v z o n c)=some (.int .i64 n):=rfl
theorem adz{E:AS}{id off:Nat}:fW E .sl (.fj id sz off n)=some (.int .i64 n):=rfl
theorem OW{id off:Nat}{k:IntKind}{a:Int}:j8 m (.fj id sz off n) (.int k a)=if 0<=a/\a<n/\sz=m then some (.ptr id (off+a.toNat*m))else none:=rfl
def adA{X:Ctx}{id off:Nat}{b:Int}:qt X n sz (.ptr id off) none (some (.int k' b))=if 0<=b/\b<=n then some (.fj id sz off b.toNat)else none:=by
 simp only[qt,gr,lH]
 grind
theorem adB{H:List ae}{lo:oN}{id sz m off n:Nat}:Den.elems ⟨H,lo⟩ m (.fj id sz off n)=match H[id]? with
 |some (.box cs _)=>if sz=m/\off+n*m<=cs.length then some (chunks m n (cs.drop off))else none
 |_=>none:=rfl
theorem adC:vT []=some []:=rfl
theorem adD{n:Int}{r:List lA}:vT ([.int .u8 n]::r)=(vT r).map (UInt8.ofNat n.toNat:: ·):=rfl
def adE{H:List ae}{x:ae}(h:H.length=n)(a:m=n+1): (H++[x]).take m=H++[x]:=by grind
def dT{h:Decidable True}: @decide True h=true:=by simp
def dF{h:Decidable False}: @decide False h=false:=by simp
def O1:=gG @adi<|gG @adj<|gG @adk<|gG @adl<|gG @adm<|gG @adn<|gG @ado<|gG @adp<|gG @adu<|gG @adz<|gG @adw<|gG @adx<|gG @ady<|gG @OW<|gG @adA<|gG @adB<|gG @adC<|gG @adD<|gG @dT<|gG @dF<|gG @List.getD_cons_zero.{0}<|gG @List.getD_cons_succ.{0}<|gG @adq<|gG @adr<|gG @ads<|gG @adt<|gG @Nat.mul_one<|gG @adv<|gG @aq4.{0}<|gG @List.replicate_zero.{0}<|gG @aoz.{0}<|gG @List.flatten_nil.{0}<|gG @atB.{0} @List.all_nil.{0}
section
variable{X:Ctx}{n:Nat}{lo:oN}{e:Env}{E:AS}{R:aX->Prop}{a b c d m k:Nat}{ag ah:Bool}
def nX(n:Nat)(lo:oN)(R:aX->Prop):AV->AS->Prop:=λv E=>R (.ret (finish n lo v E).1 (finish n lo v E).2)
theorem adF:nX n lo R v E=R (.ret (finish n lo v E).1 (finish n lo v E).2):=rfl
def A9:dO X n lo [.cell a ag m] R .ret ⟨e,[]⟩ E=okV (ck X E ag m (e a)) (nX n lo R) E:=by
 simp only[yy,yA,fI,ka,oU];cases h:ck X E ag m (e a)with
 |none=>simp[okV,h]
 |some v=>simp[okV,nX,h]
def o9:dO X n lo [.cell a ag m,.t b] R .ret ⟨e,[]⟩ E=okV (ck X E ag m (e a)) (λv E=>nX n lo R (.ay [v,e b]) E) E:=by
 simp only[yy,yA,fI,ka,oU];cases h:ck X E ag m (e a)with
 |none=>simp[okV,h]
 |some v=>simp[okV,nX,h]
def adG:dO X n lo [.cell a ag m,.t b,.t c] R .ret ⟨e,[]⟩ E=okV (ck X E ag m (e a)) (λv E=>nX n lo R (.ay [v,e b,e c]) E) E:=by
 simp only[yy,yA,fI,ka,oU];cases h:ck X E ag m (e a)with
 |none=>simp[okV,h]
 |some v=>simp[okV,nX,h]
def adH:dO X n lo [.cell a ag m,.cell b ah k] R .ret ⟨e,[]⟩ E=okV (ck X E ag m (e a)) (λv E=>okV (ck X E ah k (e b)) (λu E=>nX n lo R (.ay [v,u]) E) E) E:=by
 simp only[yy,yA,fI,ka,oU];cases h:ck X E ag m (e a)with
 |none=>simp[okV,h]
 |some v=>
  cases f:ck X E ah k (e b)with
  |none=>simp[okV,h,f]
  |some u=>simp[okV,nX,h,f]
def Q1:=gG @adF<|gG @A9<|gG @o9<|gG @adG @adH
end
section
variable{X:Ctx}{R:o6}
def qL(X:Ctx)(R:o6)(tv:AV)(fB:lA)(rv:AV)(E:AS)(K:AS->Prop):Prop:= ∃a,A7 X (D X) Lw R tv fB rv E=some a/\K a
def dK(X:Ctx)(R:o6)(n:Nat)(lo:oN)(res:List RV)(P:aX->Prop)(tv:AV)(fB:lA):bW
 |.normal,fr,E=> ∃a,dM E fr.marks=some a/\qL X R tv fB .eJ a λb=>dO X n lo res P .ret ⟨fr.env,[]⟩ b
 |.ret,fr,E=> ∃a,dM E fr.marks=some a/\qL X R tv fB .eJ a λb=>dO X n lo res P .ret ⟨fr.env,[]⟩ b
 |.panic v,fr,E=> ∃a,dM E fr.marks=some a/\qL X R tv fB v a λb=>dO X n lo res P .ret ⟨fr.env,[]⟩ b
 |.exit _,_,_=>False
section
variable{n:Nat}{lo:oN}{res:List RV}{P:aX->Prop}{tv:AV}{fB:lA}{e:Env}{E:AS}{v:AV}
def DL:dK X R n lo res P tv fB .ret ⟨e,[]⟩ E=qL X R tv fB .eJ E λa=>dO X n lo res P .ret ⟨e,[]⟩ a:=by
 simp[dK,dM]
def nY:dK X R n lo res P tv fB (.panic v) ⟨e,[]⟩ E=qL X R tv fB v E λa=>dO X n lo res P .ret ⟨e,[]⟩ a:=by
 simp[dK,dM]
end
def Ia(X:Ctx)(R:o6)(f:FuncId)(n:Nat)(lo:oN)(res:List RV)(P:aX->Prop)(kQ:ao)(fB:List ao)(rest:PC):bW:=λex fr E=>
 ex= .normal/\fr.marks=[]/\ (kQ.get fr.env).H7=true/\wp X f false rest ⟨fr.env,[]⟩ E (dK X R n lo res P (kQ.get fr.env) (fB.map (·.get fr.env)))
def OX(X:Ctx)(R:o6)(f:FuncId)(n:Nat)(lo:oN)(res:List RV)(P:aX->Prop)(ops:List aV)(kQ:ao)(fB:List ao)(rest:PC):bW:=λex fr E=>
 ex= .normal/\wp X f false (.aR ops) fr E (Ia X R f n lo res P kQ fB rest)
section
variable{f:FuncId}{n:Nat}{lo:oN}{res:List RV}{P:aX->Prop}{ops:List aV}{kQ:ao}{fB:List ao}{rest:PC}{e:Env}{fr:Fr}{E:AS}
def kc:Ia X R f n lo res P kQ fB rest .normal ⟨e,[]⟩ E=((kQ.get e).H7=true/\wp X f false rest ⟨e,[]⟩ E (dK X R n lo res P (kQ.get e) (fB.map (·.get e)))):=by simp[Ia]
def ke:OX X R f n lo res P ops kQ fB rest .normal fr E=wp X f false (.aR ops) fr E (Ia X R f n lo res P kQ fB rest):=by simp[OX]
end
def OY(i:uM){k:PC}{ops:List aV}{kQ:ao}{fB:List ao}{rest:PC}(y:i.body= .later k (.here ops kQ fB rest)){args:lA}{H:List ae}{P:aX->Prop}(w:Nat.ble args.length i.ntmps=true)
  (h: ∀n,H.length=n->wp X f false k ⟨di args,[]⟩ ⟨H,none⟩ (OX X R f n lo i.results P ops kQ fB rest)): ∃m,wm X (D X) Lw R f i args ⟨H,lo⟩=some m/\P m:=by
 obtain⟨ex,fr,E,u,rfl,hw⟩:=h _ rfl;rw[Oe]at hw;obtain⟨B,⟨j,t⟩,s,p,rfl,hm,x,d,c,g,o,q⟩:=hw;subst hm;have l:wk X (D X) Lw f i.body ⟨di args,[]⟩ ⟨H,none⟩=some (some (kQ.get j,fB.map (·.get j)),(d,c,g)):=by
  rw[y];simp only[wk,u,p,x,af1,o,afF]
 unfold wm;rw[adV (aoG w)];simp only[l,OM];have key: ∀rv,d.OK=some rv->(∃b,dM g c.marks=some b/\qL X R (kQ.get j) (fB.map (·.get j)) rv b λa=>dO X H.length lo i.results P .ret ⟨c.env,[]⟩ a)->
   ∃m,(match d.OK,dM g c.marks with
    |some rv,some b=>(A7 X (D X) Lw R (kQ.get j) (fB.map (·.get j)) rv b).bind λa=>(fI X a c.env i.results).map λv=>aX.ret (finish H.length lo v a).1 (finish H.length lo v a).2
    |_,_=>none)=some m/\P m:=by
  rintro rv C ⟨b,J,a,I,A⟩;obtain⟨r,v,z,G,F⟩:=A;simp only[dM,adQ]at z
  grind
 cases d with
 |normal=>exact key _ rfl q
 |ret=>exact key _ rfl q
 |panic v=>exact key _ rfl q
 |exit _=>trivial
def Ib{g:FuncId}{pr:wi}(c:R g=some pr){cap fB:lA}{rv:AV}{H:List ae}{K:AS->Prop}(b:Nat.ble (fB++cap).length pr.pf.ntmps=true)
  (h: ∀n,H.length=n->wp X g false pr.pf.body ⟨(di (fB++cap)).set pr.dst rv,[]⟩ ⟨H,none⟩ (λex fr E=>fr.marks=[]/\ (ex= .normal\/ex= .ret)/\ ∃v,fI X E fr.env pr.pf.results=some v/\K (finish n lo v E).2)):
  qL X R (.fn (.func g) [] cap) fB rv ⟨H,lo⟩ K:=by
 obtain⟨ex,⟨e,ms⟩,E,i,hm,hex,v,j,d⟩:=h _ rfl;have a:=aoG b;refine⟨_,?_,d⟩;simp only[A7,c,aoM,H5,ahk]
 grind
end
section
structure Ext(X X':Ctx):Prop where
 dJ:X'.dJ=X.dJ
 fU:X'.fU=X.fU
 code:X'.code=X.code
 b8: ∀f,X'.b8 f=X.b8 f\/ (X.b8 f=none/\X.code f=none)
variable{X X':Ctx}
def aqF(h:Ext X X'):ck X'=ck X:=by
 unfold ck;rw[h.dJ]
def adI(h:Ext X X'){C:bE}(i:I)(e:Env)(E:AS):exec X' C i e E=exec X C i e E:=by
 obtain⟨g,j,c,m'⟩:=X';obtain⟨b,a,f,d⟩:=h;subst b a;cases i<;>rfl
theorem adJ(h:Ext X X'){C:bE}: ∀ (os:List aV),eP X' C os=eP X C os
 | []=>by rfl
 |o::os=>by
  simp only[eP,adI h,adJ h os]
theorem adK(h:Ext X X'){C:bE}: ∀ (os:List (aV×lN)) (a:List FP),gw X' C a os=gw X C a os
 | [],a=>by rfl
 |o::os,a=>by
  simp only[gw,adI h,adK h os]
def aqG(h:Ext X X')(a:qx X v=true):qx X' v=true:=by
 unfold qx at a⊢;split at a
 ·rename_i f _ _;rw[h.code];rcases h.b8 f with b| ⟨_,c⟩
  ·grind
  grind
 omega
theorem sf(h:Ext X X'){C:bE}{L:eA}(e:eA.le L L)(bT:FuncId)(rd:Bool): ∀pc,qG (bm X C L bT rd pc) (bm X' C L bT rd pc)
 |.skip,_,_,_,d=>by trivial
 |.seq a b,fr,E,r,d=>by
  simp only[bm]at d⊢;split at d
  ·rename_i k;rw[sf h e bT rd a _ _ _ k];exact sf h e bT rd b _ _ _ d
  ·cases f:bm X C L bT rd a fr E with
   |none=>grind
   |some q=>
    rw[sf h e bT rd a _ _ _ f]
    grind
 |.cond c a b,fr,E,r,d=>by
  simp only[bm]at d⊢;split at d
  ·rename_i t m;split at d
   ·rename_i i;rw[adV i];exact sf h e bT rd a _ _ _ d
   ·rename_i i;rw[ada i];exact sf h e bT rd b _ _ _ d
  omega
 |.block id body,fr,E,r,d=>by
  simp only[bm]at d⊢;cases f:bm X C L bT rd body fr E with
  |none=>rw[f]at d;cases d
  |some q=>rw[sf h e bT rd body _ _ _ f];rw[f]at d;exact d
 |.loop body,fr,E,r,d=>by
  simp only[bm]at d⊢;exact e _ _ (sf h e bT rd body) _ _ _ d
 |.exit id,_,_,_,d=>by simpa only[bm]using d
 |.ret,_,_,_,d=>by simpa only[bm]using d
 |.aR ops,fr,E,r,d=>by
  simp only[bm]at d⊢;rw[adJ h];exact d
 |.uA ops,fr,E,r,d=>by
  simp only[bm]at d⊢;rw[adK h];exact d
 |.ib g ps as bd,fr,E,r,d=>by
  simp only[bm]at d⊢;split at d
  ·cases d
  ·rename_i j;rw[ada j];split at d
   ·rename_i l;rw[adV (aqG h l)];exact d
   ·cases d
def aqH(h:Ext X X'){C:bE}{L:eA}(m:eA.le L L)(l:Nat)(args:lA)(E:AS)(r:aX)(c:lL X C L l args E=some r):lL X' C L l args E=some r:=by
 simp only[lL]at c⊢;split at c
 ·rename_i st j f env ps as bd s;split at c
  ·rename_i a;simp only[a,af1];split at c
   ·rename_i fr e n;rw[sf h m _ _ _ _ _ _ n];simp only;split at c
    ·rename_i b p d g i jb o;cases k:bm X C L f true bd fr (e.set l (.loop .busy b p d g i jb) 0)with
     |none=>rw[k]at c;cases c
     |some q=>rw[sf h m _ _ _ _ _ _ k];grind
    omega
   grind
  grind
 omega
theorem adL(h:Ext X X')(E:AS)(e:Env): ∀rs,ka X' E e rs=ka X E e rs
 | []=>rfl
 |r::rs=>by
  have:oU X' E e r=oU X E e r:=by
   cases r with
   |t i=>rfl
   |cell a ag n=>simp only[oU,aqF h]
  simp only[ka,this,adL h E e rs]
def aqI(h:Ext X X')(n:Nat)(lo:oN)(pf:PF)(r:jw):leave X' n lo pf r=leave X n lo pf r:=by
 have e1: ∀fr E,qy X' n lo pf fr E=qy X n lo pf fr E:=λfr E=>by
  simp only[qy,fI,adL h]
 rcases r with _| ⟨ex,fr,E⟩
 ·rfl
 ·cases ex<;>simp only[leave,e1]
def aqJ(h:Ext X X'){C:bE}{L:eA}(d:eA.le L L):bE.le (step X C L) (step X' C L):=by
 intro v args E r b;unfold step at b⊢;split at b
 ·rename_i f first cap
  split at b
  ·rename_i p g;have:X'.b8 f=some p:=by
    rcases h.b8 f with q| ⟨q,_⟩
    ·grind
    grind
   grind
  ·split at b
   ·rename_i pf e;split at b
    ·rename_i a;have:X'.b8 f=none:=by
      rcases h.b8 f with q| ⟨_,q⟩
      ·grind
      grind
     rw[this,h.code,e];simp only;rw[adV a,aqI h];cases c:bm X C L f false pf.body {env:=di (first++args++cap),marks:=[]} {E with lo:=none}with
     |none=>rw[c]at b;cases b
     |some q=>rw[sf h d _ _ _ _ _ _ c];grind
    grind
   grind
 ·exact aqH h d _ _ _ _ b
 omega
theorem adM(h:Ext X X'): ∀n,bE.le (iM X n) (iM X' n)
 |0=>λf args E r h=>by trivial
 |n+1=>by
  exact bE.le_trans (aqJ h (Hz n)) (Xa (adM h n) (Hz n))
def adN(h:Ext X X'):bE.le (D X) (D X'):=λf a s r b=>by
 obtain⟨n,c⟩:=yu b;exact N7 (n:=n) _ _ _ _ (adM h n _ _ _ _ c)
end
def sg(a:List (Nat×lB×Nat)):List (AV×AV):=a.map λx=>(.int .u8 x.1,.fn (.func x.2.2) [] [])
theorem OZ{n:Int}: ∀l:List (AV×AV),(∀p∈l,∃m:Int,p.1= .int .u8 m)->eg (.int .u8 n) l=some ((l.find? λp=>match p.1 with|.int _ m=>n==m|_=>false).map (·.2))
 | [],_=>rfl
 | (k,v)::l,h=>by
   obtain⟨m,hm⟩:=h (k,v) (by simp);have a:=OZ (n:=n) l (λp b=>h p (by grind));simp only[eg,oT,List.find?_cons]
   grind
theorem adO: ∀ {l:List (AV×AV)} {p q:AV×AV},(l.Pairwise λp q=>p.1≠q.1)->p∈l->q∈l->p≠q->p.1≠q.1
 |a::l,p,q,h,f,e,b=>by
  rw[aoh]at h;rcases ag6.1 f with d|d
  ·grind
  ·rcases ag6.1 e with c|c
   ·grind
   ·exact adO h.2 d c b
def aqK{α β:Type}{F:α->β}{l g:List β}(h:l.Perm g): ∀m:List α,m.map F=l-> ∃m':List α,m'.Perm m/\m'.map F=g:=by
 induction h with
 |nil=>simp
 |cons x _ j=>
  intro m hm;cases m with
  |nil=>grind
  |cons a m=>
   simp only[al0,ay8]at hm;obtain⟨m',f,i⟩:=j m hm.2;exact⟨a::m',f.cons a,by grind⟩
 |swap x y l=>
  intro m hm
  match m,hm with
  |a::b::m,hm=>
   exact⟨b::a::m,.swap a b m,by grind⟩
 |trans _ _ e d=>
  intro m hm;obtain⟨m',f,i⟩:=e m hm;obtain⟨c,n,k⟩:=d m' i;exact⟨c,n.trans f,k⟩
def aqL{l e:List (AV×AV)}(h: ∀p∈l,∃m:Int,p.1= .int .u8 m)(o:l.Perm e)(u:l.Pairwise λp q=>p.1≠q.1){k:AV}{v:Option AV}(f:eg k l=some v):eg k e=some v:=by
 have w: ∀p∈e,∃m:Int,p.1= .int .u8 m:=λp j=>h p (o.mem_iff.2 j)
 cases l with
 |nil=>simp_all
 |cons a l=>
  obtain⟨m,hm⟩:=h a (by simp);obtain⟨z,r⟩:=a;simp only at hm;subst hm;cases k with
  |int q n=>
   by_cases t:q= .u8
   ·subst t;rw[OZ _ h]at f;rw[OZ _ w];rw[<-f]
    congr 2
    have hu: ∀p q:AV×AV,p∈((AV.int .u8 m,r)::l)->q∈((AV.int .u8 m,r)::l)->(match p.1 with|.int _ m=>n==m|_=>false)=true->(match q.1 with|.int _ m=>n==m|_=>false)=true->p=q:=by
     intro p q c b e1 d;obtain⟨g,y⟩:=h p c;obtain⟨s,x⟩:=h q b;have e3:p.1=q.1:=by grind
     by_cases i:p=q
     ·omega
     ·exact absurd e3 (adO u c b i)
    cases e1: ((AV.int .u8 m,r)::l).find? (λp=>match p.1 with|.int _ m=>n==m|_=>false)with
    |none=>grind
    |some p=>
     have g:=aqV e1;have t1:=List.find?_some e1;cases d:e.find? (λp=>match p.1 with|.int _ m=>n==m|_=>false)with
     |none=>
      rw[awX]at d;exact absurd t1 (d p (o.mem_iff.1 g))
     |some q=>
      have s:=o.mem_iff.2 (aqV d);have t2:=List.find?_some d;rw[hu q p s g t2 t1]
   ·exfalso;simp[eg,oT,t]at f
  |_=>exfalso;simp[eg,oT]at f
section
variable{P:Program}{W:World}
theorem adP{α β:Type}{f:α->Option β}: ∀ {l:List α} {r:List β},l.mapM f=some r->l.length=r.length/\ ∀ (i:Nat) a b,l[i]?=some a->r[i]?=some b->f a=some b
 | [],r,h=>by grind
 |x::l,r,h=>by
  rw[aze]at h;simp only[bind,anc,pure,adQ]at h;obtain⟨y,e,d,c,rfl⟩:=h;obtain⟨j,g⟩:=adP c
  grind
def aqM{n:String}{d:DataW Unit}{g e:Nat}{ps rs:Array TypeId}{va:Bool}{a:List (Nat×lB×Nat)}(hfa:funcsAt P W n d)(hd:d.funcsOut= .map (a.map λx=>(.int .u8 x.1,.held x.2.1)))
  (hg:P.globalNamed n=some g) (ht: (P.globals[g]?).map (·.type)=some t) (hu:P.underlying t=some (.map k e)) (hk:P.underlying k=some (.int .u8)) (he:P.underlying e=some (.func ps rs va))
  (S: ∀x∈a,((List.range P.funcs.size).filter λf=>(P.funcs[f]?).any (·.name.toUTF8.data.toList==x.2.1))=[x.2.2]) (sb: ∀x∈a,x.2.1≠[]) (D:a.Pairwise λx y=>x.1≠y.1):
  g<W.heap.size/\ ∃es' r ms clock,r<W.heap.size/\W.cell? ⟨g,0,none⟩=some (.map (some r))/\W.heap[r]?=some (.map ms clock)/\fJ (G0 W.heap.size W) es' ms.toList/\ ∀k v,eg k (sg a)=some v->eg k es'=some v:=by
 obtain⟨g',t',cs,fuel,p,h1,h2,h3,u⟩:=hfa;obtain rfl:g'=g:=akw (h1.symm.trans hg);obtain rfl:t'=t:=akw (h2.symm.trans ht);rw[hd]at u;cases fuel with
 |zero=>simp[DataW.trod]at u
 |succ fuel=>
 unfold DataW.trod at u;rw[hu]at u;obtain⟨b,K⟩: ∃b,cs.toList=[.map (some b)]:=by
  split at u<;>simp_all
 rw[K]at u;simp only at u;split at u
 case h_2=>cases u
 rename_i es clock hb;split at u
 case isFalse=>cases u
 obtain⟨entries,hm,hs⟩:=anc.1 u;split at hs
 case isFalse=>cases hs
 rename_i aCg;simp only[adQ,aqb,DataW.map.injEq]at hs;obtain⟨G,_⟩:=hs;obtain⟨E,Ic⟩:=adP hm;have z: (entries.map (·.1)).Perm (a.map λx=>(Lit.int .u8 x.1,DataW.held x.2.1)):=by
  rw[<-G];exact(WideShapes.sorted_perm _).symm
 have B: ∀ (i:Nat) (m:MapEntry),es.toList[i]?=some m-> ∃x∈a,(entries.map (·.1))[i]?=some (Lit.int .u8 x.1,DataW.held x.2.1)/\m.key= .int .u8 x.1/\m.val= .func (.func x.2.2) #[] #[]:=by
  intro i m J;have I:i<entries.length:=by rw[<-E];exact(ac9.1 J).1
  have B:=Ic i m entries[i] J (adR I);obtain⟨key,l,s⟩:=anc.1 B;have U:entries[i].1∈a.map λx=>(Lit.int .u8 x.1,DataW.held x.2.1):=z.mem_iff.1 (afJ.2 ⟨entries[i],aq0 I,rfl⟩)
  obtain⟨x,C,q⟩:=afJ.1 U;refine⟨x,C,by rw[afW,adR I,afF,<-q],?_⟩;split at s
  case isFalse=>cases s
  rename_i A;obtain⟨y,F,N⟩:=afE.1 s;have Ie:key= .int .u8 x.1:=by rw[<-N]at q;simp only[aqb]at q;exact q.1.symm
  have V:y.1= .held x.2.1:=by rw[<-N]at q;simp only[aqb]at q;exact q.2.symm
  constructor
  ·subst Ie;unfold keyOf at l;rw[hk]at l;simp only at l;unfold mapKey at l;rw[hk]at l;split at l<;>simp_all
  ·have L:m.val.cells.toList=[m.val]:=by
     cases hv:m.val<;>first|rfl| (rw[hv]at A;simp[Value.formed,he]at A)
   rw[L]at F;obtain⟨y1,y2⟩:=y;simp only at V;subst V;cases H:x.2.1 with
   |nil=>exact absurd H (sb x C)
   |cons c r=>
    rw[H]at F;have ho:=S x C;rw[H]at ho;exact func_of_trod he ho F
 obtain⟨w,R,Q⟩:=aqK z.symm a rfl;have O:g'<W.heap.size:=by
  have hc:W.cell? ⟨g',0,none⟩=some (.map (some b)):=by rw[World.var?_cell hg h3,<-aqh,K];rfl
  unfold World.cell? at hc;cases hh:W.heap[g']? with
  |none=>rw[hh]at hc;cases hc
  |some o=>exact(al6.1 hh).1
 have Z: ∀x∈a,∀y∈a,x.1=y.1->x=y:=by
  intro x C y F e;obtain⟨i,J⟩:=atz C;obtain⟨j,Y⟩:=atz F;rw[List.pairwise_iff_getElem]at D;have hi1:=(ac9.1 J).1;have X:=(ac9.1 Y).1;rcases aAh i j with h|h|h
  ·have:=D i j hi1 X h;rw[(ac9.1 J).2,(ac9.1 Y).2]at this;exact absurd e this
  ·subst h;rw[J]at Y;cases Y;rfl
  ·have:=D j i X hi1 h;rw[(ac9.1 J).2,(ac9.1 Y).2]at this;exact absurd e.symm this
 refine⟨O,sg w,b,es,clock,(al6.1 hb).1,?_,hb,?_,?_⟩
 ·rw[World.var?_cell hg h3,<-aqh,K];rfl
 ·have hl':w.length=es.toList.length:=by
    have:=ag9 List.length Q;simp only[aer]at this;omega
  have key: ∀ (T:List (Nat×lB×Nat)) (M:List MapEntry),T.length=M.length->(∀ (i:Nat) x m,T[i]?=some x->M[i]?=some m->m.key= .int .u8 x.1/\m.val= .func (.func x.2.2) #[] #[])->fJ (G0 W.heap.size W) (sg T) M:=by
   intro T
   induction T with
   |nil=>
    intro M hM _;cases M with
    |nil=>rfl
    |cons m M=>simp at hM
   |cons x T ih=>
    intro M hM hh;cases M with
    |nil=>simp at hM
    |cons m M=>
     obtain⟨e1,e2⟩:=hh 0 x m rfl rfl;refine⟨m,M,rfl,rfl,by rw[e1];rfl,by rw[e2];exact⟨.func x.2.2,#[],#[],rfl,rfl,rfl,rfl⟩,ih M (by simpa using hM) λi x' m' C hm=>hh (i+1) x' m' (by simpa using C) (by simpa using hm)⟩
  refine key w es.toList hl' λi x m C hm=>?_
  obtain⟨y,F,hy1,hy2,hy3⟩:=B i m hm;have e1: (entries.map (·.1))[i]?=some (Lit.int .u8 x.1,DataW.held x.2.1):=by
   rw[<-Q,afW,C];rfl
  rw[hy1]at e1;simp only[adQ,aqb,Lit.int.injEq,aza]at e1;have e2:y.1=x.1:=by have:=e1.1;omega
  have:y=x:=Z y F x (R.mem_iff.1 (ak8 C)) e2;subst this;exact⟨hy2,hy3⟩
 ·intro k v hf;refine aqL (λp hp=>?_) (R.symm.map _) ?_ hf
  ·obtain⟨x,_,rfl⟩:=afJ.1 hp;exact⟨x.1,rfl⟩
  ·rw[aAo];refine D.imp λhab=>?_
   simp only[ne_eq,AV.int.injEq,aza];omega
end
section
variable{X:Ctx}
def aqS{args:lA}{E:AS}{r:aX}(h:lL X (D X) Lw l args E=some r):D X (.fn (.yield l) [] []) args E=some r:=
 HB (by trivial)
def Ex.code:Ex->PC
 |.ret=>.ret
 |.exit id=>.exit id
 |_=>.skip
end
section
structure YV(S:Type)where
 P:S->List ae->Prop
 row:S->oN
 cE:Nat->Prop
 c:Nat
structure YV.Ok{S:Type}(V:YV S):Prop where
 st: ∀s W W',V.P s W->(∀i,V.cE i\/V.row s=some i->W'[i]?=W[i]?)->V.P s W'
 lt: ∀s W r,V.P s W->V.row s=some r-> ∃v z t af,W[r]?=some (.row v z t af)
def YV.Fr{S:Type}(V:YV S)(s:S)(W a:List ae):Prop:=W.length<=a.length/\ ∀i,i<W.length-> ¬V.cE i->V.row s≠some i->a[i]?=W[i]?
def kR(c b:Nat)(lo ak:oN)(r a:oN):Prop:=(ak=lo/\a=r)\/ ∃j,c<=j/\j<b/\ak=cL lo j
variable{X:Ctx}
def Ig(X:Ctx){S:Type}(V:YV S)(b:Nat)(y:AV)(x:lA)(s:S)(Q:Bool->S->Prop):Prop:=
 ∀W,V.P s W->b<=W.length-> ∀lo,∃c s' a ak,D X y x ⟨W,lo⟩=some (.ret (.bool c) ⟨a,ak⟩)/\V.P s' a/\V.Fr s W a/\ (V.row s'=V.row s\/ ∃r,V.row s'=some r/\W.length<=r)/\kR V.c b lo ak (V.row s) (V.row s')/\Q c s'
def uN(X:Ctx)(g:AV)(a:Nat)(G:List ae)(xs:List lA):Prop:=
 ∀ (S:Type) (V:YV S) (y:AV) (I:Nat->S->Prop) (J:S->Prop) (b:Nat),V.Ok->(∀i,V.cE i->i<b/\ ¬(a<=i/\i<a+G.length))->
   (∀j x s,xs[j]?=some x->I j s->Ig X V b y x s (λc s'=>if c=true then I (j+1) s' else J s'))->
   ∀W s,V.P s W->I 0 s->W.length=b->V.row s=none->(∀i,i<G.length->W[a+i]?=G[i]?)-> ∀lo,∃s' d ak,
    D X g [y] ⟨W,lo⟩=some (.ret (.ay []) ⟨d,ak⟩)/\V.P s' d/\ (I xs.length s'\/J s')/\b<=d.length/\
    (∀i,i<b-> ¬V.cE i-> ¬(a<=i/\i<a+G.length)->d[i]?=W[i]?)/\kR V.c b lo ak none (V.row s')
def O0(X:Ctx){S:Type}(V:YV S)(b:Nat)(g:AV)(a:Nat)(G:List ae)(xs:List lA):Prop:=
 ∀ (y:Nat) (I:Nat->S->Prop) (J:S->Prop),(∀i,V.cE i->i<b/\ ¬(a<=i/\i<a+G.length))->
   (∀j x s,xs[j]?=some x->I j s->Ig X V b (.fn (.yield y) [] []) x s (λc s'=>if c=true then I (j+1) s' else J s'))->
   ∀W s,V.P s W->I 0 s->W.length=b->V.row s=none->(∀i,i<G.length->W[a+i]?=G[i]?)-> ∀lo,∃s' d ak,
    D X g [.fn (.yield y) [] []] ⟨W,lo⟩=some (.ret (.ay []) ⟨d,ak⟩)/\V.P s' d/\ (I xs.length s'\/J s')/\b<=d.length/\
    (∀i,i<b-> ¬V.cE i-> ¬(a<=i/\i<a+G.length)->d[i]?=W[i]?)/\kR V.c b lo ak none (V.row s')
theorem DM:cL none j=some j:=rfl
def adS: ∃q,cL (some i) j=some q/\ (q=i\/q=j):=by
 refine⟨Nat.min j i,rfl,?_⟩
 grind
def O2{S:Type}(V:YV S)(b:Nat)(s:S)(W:List ae)(I:S->Prop)(J:Ex->S->Prop):bW:=λex _ E=>
 ∃s',V.P s' E.heap/\V.Fr s W E.heap/\ ((E.lo=none/\V.row s'=V.row s)\/ ∃j,V.c<=j/\j<b/\E.lo=some j/\ (V.row s'=V.row s\/ ∃r,V.row s'=some r/\W.length<=r))/\
  (match ex with|.normal=>I s'|.panic _=>False|ex=>J ex s')
def O3{H:List ae}(a:v.refs=0): (finish n lo v ⟨H,ak⟩).2=(match ak with|none=>⟨H.take n,lo⟩|some j=>if n<=j then⟨H.take n,lo⟩else⟨H,cL lo j⟩):=by
 have c: ∀k E,freeze E n (k+1) v=some v:=λk E=>yz (by omega)
 unfold finish;cases ak with
 |none=>grind
 |some j=>
  simp only[ai5];split
  ·grind
  ·rfl
def qM{W:List ae}{o:ae}(h:i≠l): (W.set l o)[i]?=W[i]?:=by grind
def adT{W:List ae}{o:ae}(h:l<W.length): (W.set l o)[l]?=some o:=by grind
def yV{S:Type}(V:YV S)(m:Nat)(f:FuncId)(e:Env)(a:lN)(as d:PC):YV (S×Option Ex)where
 P:=λs W=>V.P s.1 W/\W[m]?=some .fk/\W[m+1]?=some (match s.2 with|none=>.loop .ready none f e a as d|some ex=>.loop .done (some ex.code) f e a as d)
 row:=λs=>V.row s.1
 cE:=λi=>V.cE i\/i=m\/i=m+1
 c:=V.c
def Ih{S:Type}{V:YV S}(c:V.Ok){d:lN}{as n:PC}: (yV V m f e d as n).Ok where
 st:=λs W o ⟨l,k,j⟩ h=>by
  refine⟨c.st _ _ _ l λi a=>h i ?_,?_,?_⟩
  ·rcases a with a|a
   ·exact .inl (.inl a)
   ·exact .inr a
  ·rw[h m (.inl (.inr (.inl rfl)))];exact k
  ·rw[h (m+1) (.inl (.inr (.inr rfl)))];exact j
 lt:=λs W r h g=>c.lt _ _ r h.1 g
def adU{S:Type}(V:YV S)(O:V.Ok){g:ao}{n:lN}{as q:PC}{Q:bW}(xs:List lA)(a:Nat)(G W0:List ae)(s0:S)
  (hg:qx X (g.get e)=true) (hit:O0 X (yV V W0.length f e n as q) (W0.length+2) (g.get e) a G xs) (hG: ∀i,i<G.length->W0[a+i]?=G[i]?) (hGl:a+G.length<=W0.length)
  (p: ∀i,V.cE i->i<W0.length/\ ¬(a<=i/\i<a+G.length)) (hP:V.P s0 W0) (T:V.row s0=none)
  (I:Nat->S->Prop) (J:Ex->S->Prop) (h0:I 0 s0) (hJ: ∀ex s,J ex s-> ∃t,qz ex=some (some t)/\xU t=some ex/\ex.code=t)
  (hb: ∀j x s,xs[j]?=some x->I j s->x.length=n.length/\ ∀W,V.P s W->W0.length+2<=W.length->
    wp X f true as ⟨ie e n x,[]⟩ ⟨W,none⟩ (λex fr Ii=>ex= .normal/\ ∃R1,Ii=⟨W++R1,none⟩/\
     ∀H,H.length=W.length->V.P s H->wp X f true q fr ⟨H++R1,none⟩ (O2 V (W0.length+2) s H (I (j+1)) J)))
  (h1: ∀s' k ak,I xs.length s'->V.P s' k->W0.length+2<=k.length->k[W0.length]?=some .fk->(∀i,i<W0.length-> ¬V.cE i-> ¬(a<=i/\i<a+G.length)->k[i]?=W0[i]?)->kR V.c (W0.length+2) none ak none (V.row s')->Q .normal ⟨e,[W0.length]⟩ ⟨k,ak⟩)
  (h2: ∀ex s' k ak,J ex s'->V.P s' k->W0.length+2<=k.length->k[W0.length]?=some .fk->(∀i,i<W0.length-> ¬V.cE i-> ¬(a<=i/\i<a+G.length)->k[i]?=W0[i]?)->kR V.c (W0.length+2) none ak none (V.row s')->Q ex ⟨e,[W0.length]⟩ ⟨k,ak⟩):
  wp X f false (.ib g n as q) ⟨e,[]⟩ ⟨W0,none⟩ Q:=by
 obtain⟨m,hm⟩: ∃m,m=W0.length:=⟨_,rfl⟩;rw[<-hm]at hit
 let A:=yV V m f e n as q
 have hV':A.Ok:=Ih O
 let I':Nat->S×Option Ex->Prop:=λj s=>s.2=none/\I j s.1
 let J':S×Option Ex->Prop:=λs=> ∃ex,s.2=some ex/\J ex s.1
 have uO: ∀s W r,V.P s W->V.row s=some r->r<W.length:=λs W r h1 h2=>by
  obtain⟨_,_,_,_,h⟩:=O.lt s W r h1 h2;exact(ac9.1 h).1
 have aqT: ∀j x s,xs[j]?=some x->I' j s->Ig X A (m+2) (.fn (.yield (m+1)) [] []) x s (λc s'=>if c=true then I' (j+1) s' else J' s'):=by
  rintro j x ⟨s,so⟩ hx ⟨y,hI⟩ W ⟨L,hd,hl⟩ hW lo;simp only at y hI L hl;subst y;simp only at hl;obtain⟨qF,hw⟩:=hb j x s hx hI;obtain⟨ex,fr,Ii,O4,rfl,R1,rfl,hbd⟩:=hw W L (by omega);have hnp: ∀i,V.cE i\/V.row s=some i->i≠m/\i≠m+1:=by
   rintro i (d|d)
   ·have:=(p i d).1;omega
   ·obtain⟨_,_,_,_,h⟩:=O.lt s W i L d;refine⟨?_,?_⟩
    ·rintro rfl;rw[hd]at h;cases h
    ·rintro rfl;rw[hl]at h;cases h
  obtain⟨H,E⟩: ∃H,H=W.set (m+1) (.loop .busy none f e n as q):=⟨_,rfl⟩;have AX:H.length=W.length:=by rw[E,afL]
  have O5:V.P s H:=O.st _ _ _ L λi d=>by rw[E,qM (hnp i d).2]
  obtain⟨Ij,fr2,l,hr2,s',F,P,N,hex⟩:=hbd H AX O5;have Ba: (W++R1)[m+1]?=some (.loop .ready none f e n as q):=by rw[ac7 (by omega)];exact hl
  have aqX:AS.set ⟨W++R1,none⟩ (m+1) (.loop .busy none f e n as q) 0=⟨H++R1,none⟩:=by
   simp only[AS.set,aep,af1,E];rw[aqU _ _ (by omega)]
  have aqY:H[m+1]?=some (.loop .busy none f e n as q):=by rw[E];exact adT (by omega)
  have M: ∀i,i=m\/i=m+1-> ¬V.cE i/\V.row s≠some i:=λi d=>⟨λh=>by have:=(p i h).1;omega,λh=>by have:=hnp i (.inr h);omega⟩
  have K:l.heap[m+1]?=some (.loop .busy none f e n as q):=by
   rw[P.2 (m+1) (by omega) (M _ (.inr rfl)).1 (M _ (.inr rfl)).2];exact aqY
  have R:l.heap[m]?=some .fk:=by
   rw[P.2 m (by omega) (M _ (.inl rfl)).1 (M _ (.inl rfl)).2,E,qM (by omega)];exact hd
  have Y: ∀i,V.cE i\/V.row s'=some i->i≠m/\i≠m+1:=by
   rintro i (d|d)
   ·have:=(p i d).1;omega
   ·obtain⟨_,_,_,_,h⟩:=O.lt s' _ i F d;refine⟨?_,?_⟩
    ·rintro rfl;rw[R]at h;cases h
    ·rintro rfl;rw[K]at h;cases h
  have aCk:W.length<=l.heap.length:=by have:=P.1;omega
  have Dq: ∀ (t:Option PC),qz Ij=some t->lL X (D X) Lw (m+1) x ⟨W,lo⟩=some (.ret (.bool t.isNone)
    (finish W.length lo (.bool t.isNone) ⟨l.heap.set (m+1) (.loop (if t.isNone then .ready else .done) t f e n as q),l.lo⟩).2):=by
   intro t O6;unfold lL;simp only[hl];rw[adV qF,O4];simp only[Ba,aqX,hr2];simp only[endRound,O6,K,AS.set,aep,af1]
  have key: ∀ (t:Option PC) (u:Option Ex),qz Ij=some t->(match u with|none=>ae.loop .ready none f e n as q|some ex=>.loop .done (some ex.code) f e n as q)= .loop (if t.isNone then .ready else .done) t f e n as q->
    ∃k ak,D X (.fn (.yield (m+1)) [] []) x ⟨W,lo⟩=some (.ret (.bool t.isNone) ⟨k,ak⟩)/\A.P (s',u) k/\A.Fr (s,none) W k/\ (A.row (s',u)=A.row (s,none)\/ ∃r,A.row (s',u)=some r/\W.length<=r)/\kR A.c (m+2) lo ak (A.row (s,none)) (A.row (s',u)):=by
   intro t u O6 U;obtain⟨o,ho⟩: ∃o,o=ae.loop (if t.isNone then .ready else .done) t f e n as q:=⟨_,rfl⟩;rw[<-ho]at U;have hD:=aqS (Dq t O6);rw[<-ho]at hD;have Z: ∀k,(∀i,i<W.length->k[i]?=(l.heap.set (m+1) o)[i]?)->(∀i,V.row s'=some i->k[i]?=(l.heap.set (m+1) o)[i]?)->W.length<=k.length->A.P (s',u) k/\A.Fr (s,none) W k:=by
    intro k z hrw w;refine⟨⟨O.st _ _ _ F λi d=>?_,?_,?_⟩,w,λi d hp B=>?_⟩
    ·rcases d with d|d
     ·rw[z i (by have:=(p i d).1;omega),qM (Y i (.inl d)).2]
     ·rw[hrw i d,qM (Y i (.inr d)).2]
    ·rw[z m (by omega),qM (by omega)];exact R
    ·rw[z (m+1) (by omega),adT (by omega)];exact ag9 some U.symm
    ·have hp1: ¬V.cE i:=λh=>hp (.inl h)
     have yE:i≠m/\i≠m+1:=⟨λh=>hp (.inr (.inl h)),λh=>hp (.inr (.inr h))⟩;rw[z i d,qM yE.2,P.2 i (by omega) hp1 B,E,qM yE.2]
   rcases N with⟨hn,B⟩| ⟨jj,hc,hj,hn,B⟩
   ·have e1: (finish W.length lo (.bool t.isNone) ⟨l.heap.set (m+1) o,l.lo⟩).2=⟨(l.heap.set (m+1) o).take W.length,lo⟩:=by rw[O3 rfl,hn]
    rw[e1]at hD;refine⟨_,_,hD,?_⟩;obtain⟨g1,g2⟩:=Z ((l.heap.set (m+1) o).take W.length) (λi d=>by rw[afV d])
     (λi d=>by rw[afV (uO s W i L (by rw[<-B];exact d))]) (by rw[afT,afL];omega)
    exact⟨g1,g2,.inl B,.inl ⟨rfl,B⟩⟩
   ·have e1: (finish W.length lo (.bool t.isNone) ⟨l.heap.set (m+1) o,l.lo⟩).2=⟨l.heap.set (m+1) o,cL lo jj⟩:=by
      rw[O3 rfl,hn];simp only;rw[ada (by omega)]
    rw[e1]at hD;refine⟨_,_,hD,?_⟩;obtain⟨g1,g2⟩:=Z (l.heap.set (m+1) o) (λi _=>rfl) (λi _=>rfl) (by rw[afL];omega);refine⟨g1,g2,?_,.inr ⟨jj,hc,by omega,rfl⟩⟩;rcases B with B| ⟨r,B,aCl⟩
    ·exact .inl B
    ·exact .inr ⟨r,B,by omega⟩
  cases Ij with
  |normal=>
   obtain⟨k,ak,g1,g2,g3,g4,g5⟩:=key none none rfl rfl;exact⟨true,(s',none),k,ak,g1,g2,g3,g4,g5,by simp only[af1];exact⟨rfl,hex⟩⟩
  |panic v=>exact hex.elim
  |ret=>
   obtain⟨k,ak,g1,g2,g3,g4,g5⟩:=key (some .ret) (some .ret) rfl rfl;exact⟨false,(s',some .ret),k,ak,g1,g2,g3,g4,g5,by simp only[afG,aiz];exact⟨.ret,rfl,hex⟩⟩
  |exit id=>
   obtain⟨k,ak,g1,g2,g3,g4,g5⟩:=key (some (.exit id)) (some (.exit id)) rfl rfl;exact⟨false,(s',some (.exit id)),k,ak,g1,g2,g3,g4,g5,by simp only[afG,aiz];exact⟨.exit id,rfl,hex⟩⟩
 have aq1: ∀i,A.cE i->i<m+2/\ ¬(a<=i/\i<a+G.length):=by
  rintro i (d|rfl|rfl)
  ·have:=p i d;exact⟨by omega,this.2⟩
  ·exact⟨by omega,by omega⟩
  ·exact⟨by omega,by omega⟩
 have aq2: ∀i,V.cE i\/V.row s0=some i->i<W0.length:=by
  rintro i (d|d)
  ·exact(p i d).1
  ·rw[T]at d;cases d
 have DN:A.P (s0,none) (W0++[.fk,.loop .ready none f e n as q]):=by
  refine⟨O.st _ _ _ hP λi d=>by rw[ac7 (aq2 i d)],?_,?_⟩
  ·rw[hm,dv rfl];rfl
  ·rw[hm,bA rfl];rfl
 obtain⟨⟨s',u⟩,k,ak,hD,⟨F,AR,C⟩,hor,w,pa,N⟩:=hit (m+1) I' J' aq1 aqT (W0++[.fk,.loop .ready none f e n as q]) (s0,none) DN ⟨rfl,h0⟩ (by simp[hm]) T
  (λi d=>by rw[ac7 (by omega)];exact hG i d) none
 simp only at F C;have aq3: ∀i,V.cE i\/V.row s'=some i->i≠m/\i≠m+1:=by
  rintro i (d|d)
  ·have:=(p i d).1;omega
  ·obtain⟨_,_,_,_,h⟩:=O.lt s' _ i F d;refine⟨?_,?_⟩
   ·rintro rfl;rw[AR]at h;cases h
   ·rintro rfl;rw[C]at h;cases u<;>cases h
 have adY: ∀o,V.P s' (k.set (m+1) o)/\m+2<=(k.set (m+1) o).length/\ (k.set (m+1) o)[m]?=some .fk/\ (∀i,i<m-> ¬V.cE i-> ¬(a<=i/\i<a+G.length)->(k.set (m+1) o)[i]?=W0[i]?):=by
  intro o;refine⟨O.st _ _ _ F λi d=>by rw[qM (aq3 i d).2],by rw[afL];exact w,by rw[qM (by omega)];exact AR,λi d hp hg'=>?_⟩;rw[qM (by omega),pa i (by omega) (λh=>by rcases h with h|h|h;exact hp h;omega;omega) hg',ac7 (by omega)]
 have aq5: ((AS.push ⟨W0,none⟩ .fk).push (.loop .ready none f e n as q))=(⟨W0++[.fk,.loop .ready none f e n as q],none⟩:AS):=by simp[AS.push]
 have hrc: ∀r,endLoop (m+1) ⟨e,[m]⟩ ⟨k,ak⟩=some r->bm X (D X) Lw f false (.ib g n as q) ⟨e,[]⟩ ⟨W0,none⟩=some r:=by
  intro r B;simp only[bm,afG,aiz];rw[adV hg,<-hm,aq5,hD];exact B
 rcases hor with⟨y,hI⟩| ⟨ex,y,hJx⟩
 ·simp only at y;subst y;simp only at C;obtain⟨q1,q2,q3,q4⟩:=adY (.loop .exhausted none f e n as q);refine⟨.normal,⟨e,[m]⟩,⟨k.set (m+1) (.loop .exhausted none f e n as q),ak⟩,hrc _ ?_,?_⟩
  ·unfold endLoop;simp only[C,AS.set,aep,af1];rfl
  ·rw[hm]at q2 q3 q4⊢;exact h1 s' _ ak hI (hm ▸ q1) q2 q3 q4 (hm ▸ N)
 ·simp only at y;subst y;simp only at C;obtain⟨t,j1,j2,j3⟩:=hJ ex s' hJx;obtain⟨q1,q2,q3,q4⟩:=adY (.loop .exhausted (some ex.code) f e n as q);refine⟨ex,⟨e,[m]⟩,⟨k.set (m+1) (.loop .exhausted (some ex.code) f e n as q),ak⟩,hrc _ ?_,?_⟩
  ·unfold endLoop;simp only[C,j3,j2,AS.set,aep,af1];rfl
  ·rw[hm]at q2 q3 q4⊢;exact h2 ex s' _ ak hJx (hm ▸ q1) q2 q3 q4 (hm ▸ N)
structure kf{S:Type}(V:YV S)(b:Nat)(W0:List ae)(own:Nat->Prop)(s:S)(W:List ae)(lo:oN):Prop where
 P:V.P s W
 len:b<=W.length
 fr: ∀i,i<b-> ¬V.cE i-> ¬own i->W[i]?=W0[i]?
 lo: (lo=none/\V.row s=none)\/ ∃j,V.c<=j/\j<b/\lo=some j
 row: ∀r,V.row s=some r->b<=r
def O7{S:Type}(V:YV S)(r:V.Ok){g:ao}{n:lN}{as t:PC}{Q:bW}(xs:List lA)(a:Nat)(G W0:List ae)(k:S)
  (w:qx X (g.get e)=true) (p:uN X (g.get e) a G xs) (C: ∀i,i<G.length->W0[a+i]?=G[i]?) (q:a+G.length<=W0.length)
  (h: ∀i,V.cE i->i<W0.length/\ ¬(a<=i/\i<a+G.length)) (A:V.P k W0) (d:V.row k=none)
  (I:Nat->S->Prop) (J:Ex->S->Prop) (F:I 0 k) (B: ∀ex s,J ex s-> ∃o,qz ex=some (some o)/\xU o=some ex/\ex.code=o)
  (z: ∀j x s,xs[j]?=some x->I j s->x.length=n.length/\ ∀W,V.P s W->W0.length+2<=W.length->
    wp X f true as ⟨ie e n x,[]⟩ ⟨W,none⟩ (λex fr m=>ex= .normal/\ ∃R1,m=⟨W++R1,none⟩/\
     ∀l,l.length=W.length->V.P s l->wp X f true t fr ⟨l++R1,none⟩ (O2 V (W0.length+2) s l (I (j+1)) J)))
  (E: ∀s' c ak,I xs.length s'->V.P s' c->W0.length+2<=c.length->c[W0.length]?=some .fk->(∀i,i<W0.length-> ¬V.cE i-> ¬(a<=i/\i<a+G.length)->c[i]?=W0[i]?)->kR V.c (W0.length+2) none ak none (V.row s')->Q .normal ⟨e,[W0.length]⟩ ⟨c,ak⟩)
  (D: ∀ex s' c ak,J ex s'->V.P s' c->W0.length+2<=c.length->c[W0.length]?=some .fk->(∀i,i<W0.length-> ¬V.cE i-> ¬(a<=i/\i<a+G.length)->c[i]?=W0[i]?)->kR V.c (W0.length+2) none ak none (V.row s')->Q ex ⟨e,[W0.length]⟩ ⟨c,ak⟩):
  wp X f false (.ib g n as t) ⟨e,[]⟩ ⟨W0,none⟩ Q:=
 adU V r xs a G W0 k w (λy I J v u=>p _ _ _ I J _ (Ih r) v u) C q h A d I J F B z E D
section
variable{S:Type}{V:YV S}{b:Nat}{W0 W:List ae}{own:Nat->Prop}{s:S}{lo:oN}
def YV.Ok.Ik(a:V.Ok)(d:V.P s W)(c:V.row s=some r):r<W.length:=by
 obtain⟨_,_,_,_,h⟩:=a.lt s W r d c
 grind
def kf.push(c:V.Ok)(d: ∀i,V.cE i->i<b)(h:kf V b W0 own s W lo)(L:List ae):kf V b W0 own s (W++L) lo where
 P:=c.st _ _ _ h.P λi a=>by
  have:i<W.length:=by
   rcases a with a|a
   ·have:=d i a;have:=h.len;omega
   ·exact c.Ik h.P a
  grind
 len:=by have:=h.len;grind
 fr:=λi a f e=>by rw[ac7 (by have:=h.len;omega)];exact h.fr i a f e
 lo:=h.lo
 row:=h.row
theorem kf.set(c:V.Ok)(h:kf V b W0 own s W lo){o:ae}(g: ¬V.cE k)(f:V.row s≠some k)(ho:own k\/b<=k):kf V b W0 own s (W.set k o) lo where
 P:=c.st _ _ _ h.P λi a=>by grind
 len:=by rw[afL];exact h.len
 fr:=λi a e d=>by
  rw[qM]
  ·exact h.fr i a e d
  grind
 lo:=h.lo
 row:=h.row
def kf.step(h:kf V b W0 own s W lo){s':S}{c:List ae}(t:V.P s' c)(g:V.Fr s W c)(p:V.row s'=V.row s\/ ∃r,V.row s'=some r/\W.length<=r)(o:kR V.c b lo ak (V.row s) (V.row s')):kf V b W0 own s' c ak where
 P:=t
 len:=afY h.len g.1
 fr:=λi f a d=>by
  have w:=h.len;rw[g.2 i (by omega) a (λe=>by have:=h.row i e;omega)];exact h.fr i f a d
 lo:=by
  rcases o with⟨rfl,e⟩| ⟨j,n,l,rfl⟩
  ·rcases h.lo with⟨a,d⟩|q
   ·grind
   grind
  ·rcases h.lo with⟨rfl,_⟩| ⟨i,m,f,rfl⟩
   ·exact .inr ⟨j,n,l,rfl⟩
   ·obtain⟨q,e,v⟩:=adS (i:=i) (j:=j)
    grind
 row:=λr e=>by
  rcases p with q| ⟨u,q,k⟩
  ·exact h.row r (by grind)
  ·rw[q]at e;cases e;exact afY h.len k
def kf.fin(m:V.Ok)(p: ∀i,V.cE i->i<b)(h:kf V b W0 own s W lo){dL:oN}: ∃a ak,(finish b dL (.ay []) ⟨W,lo⟩)=(.ay [],⟨a,ak⟩)/\V.P s a/\b<=a.length/\
  (∀i,i<b-> ¬V.cE i-> ¬own i->a[i]?=W0[i]?)/\kR V.c b dL ak none (V.row s):=by
 have e: (finish b dL (.ay []) ⟨W,lo⟩).1= .ay []:=by
  have r:freeze ⟨W,lo⟩ b 12 (.ay [])=some (.ay []):=yz (aep _);have key: ∀c:Bool,(if c=true then(match freeze ⟨W,lo⟩ b 12 (.ay [])with|some v'=>(v',(⟨W.take b,dL⟩:AS))|none=>(.ay [],⟨W,gq dL lo⟩))else(.ay [],⟨W,gq dL lo⟩)).1= .ay []:=by grind
  cases lo with
  |none=>exact key true
  |some j=>exact key (decide (b<=j))
 have o:=O3 (n:=b) (lo:=dL) (ak:=lo) (v:=.ay []) (H:=W) rfl;rcases h.lo with⟨rfl,q⟩| ⟨j,l,k,rfl⟩
 ·refine⟨W.take b,dL,Prod.ext e o,?_,?_,?_,.inl ⟨rfl,q⟩⟩
  ·refine m.st _ _ _ h.P λi d=>?_
   grind
  ·rw[afT];have:=h.len;omega
  ·intro i d g f;rw[afV d];exact h.fr i d g f
 ·refine⟨W,cL dL j,Prod.ext e ?_,h.P,h.len,h.fr,.inr ⟨j,l,k,rfl⟩⟩
  grind
end
def SV(p sz:Nat)(ty:TypeId)(W:List ae)(r:oN)(af:List lA):Prop:=
 (r=none/\af=[]/\W[p]?=some (.box [.aq] none))\/ ∃id aj,r=some id/\af≠[]/\p<id/\W[p]?=some (.box [.ref id aj sz 0 af.length false] none)/\W[id]?=some (.row aj sz ty af)
def SV.st{ty:TypeId}{W f:List ae}{r:oN}(h:SV p sz ty W r af)(j:f[p]?=W[p]?)(g: ∀i,r=some i->f[i]?=W[i]?):SV p sz ty f r af:=by
 rcases h with⟨a,b,c⟩| ⟨id,aj,a,e,b,c,d⟩
 ·exact .inl ⟨a,b,by grind⟩
 ·exact .inr ⟨id,aj,a,e,b,by grind,by grind⟩
theorem SV.row{ty:TypeId}{W:List ae}{r:oN}(h:SV p sz ty W r af)(e:r=some i): ∃v z t es,W[i]?=some (.row v z t es):=by
 rcases h with⟨a,b,c⟩| ⟨id,aj,a,f,b,c,d⟩
 ·grind
 grind
def ad1{H:List ae}{v0:AV}(h:H[p]?=some (.box [v0] tg))(c:v.cq=false)(a:v.cells=[v])(d:p+1<v.refs):j7 ⟨H,lo⟩ 1 (.ptr p 0) v=some ⟨H.set p (.box [v] tg),cL lo p⟩:=by
 unfold j7;simp only[h,a];rw[adV ⟨c,rfl,aen _⟩];simp only[AS.set];rw[ada (by omega)];rfl
def SV.append{bytes:Nat}{ty:TypeId}{W:List ae}{r:oN}{el:lA}(h:SV p sz ty W r af)(l:p<W.length)(t:0<sz)(w:el.length=sz)(u:aI el=0)(n: (af.length+1)*bytes<=room)(lo:oN):
  ∃v v' o a f,W[p]?=some (.box [v] none)/\du ⟨W,lo⟩ ty sz bytes v [el]=some (v',⟨o,lo⟩)/\j7 ⟨o,lo⟩ 1 (.ptr p 0) v'=some ⟨a,cL lo p⟩/\SV p sz ty a f (af++[el])/\
   W.length<=a.length/\ (∀i,i<W.length->i≠p->r≠some i->a[i]?=W[i]?)/\ (f=r\/ ∃q,f=some q/\W.length<=q):=by
 have m:0<sz/\ [el].all (λx=>x.length==sz)=true:=⟨t,by grind⟩;rcases h with⟨rfl,rfl,c⟩| ⟨id,aj,rfl,_,g,c,d⟩
 ·have e1:du ⟨W,lo⟩ ty sz bytes .aq [el]=some (.ref W.length 0 sz 0 1 false,⟨W++[.row 0 sz ty [el]],lo⟩):=by
    unfold du;rw[adV m];simp only[afO,amQ,alf,Nat.one_ne_zero,aiz];rw[adV (by simpa using n)];rfl
  have k: (W++[ae.row 0 sz ty [el]])[p]?=some (.box [.aq] none):=by rw[ac7 l];exact c
  refine⟨.aq,_,_,(W++[ae.row 0 sz ty [el]]).set p (.box [.ref W.length 0 sz 0 1 false] none),some W.length,c,e1,?_,.inr ⟨W.length,0,rfl,by simp,l,?_,?_⟩,?_,?_,.inr ⟨_,rfl,aen _⟩⟩
  ·exact ad1 k rfl rfl (by simp only[AV.refs];omega)
  ·exact aeo (by rw[aem];omega)
  ·rw[acK (by omega)];simp
  ·simp
  grind
 ·have j:=(ac9.1 d).1;have e1:du ⟨W,lo⟩ ty sz bytes (.ref id aj sz 0 af.length false) [el]=some (.ref id (aj+1) sz 0 (af.length+1) false,⟨W.set id (.row (aj+1) sz ty (af++[el])),lo⟩):=by
   unfold du;rw[adV m];simp only[d];rw[adV ⟨trivial,trivial,trivial,trivial,by omega,by simpa using n⟩];simp[AS.set,bZ,u]
  have k: (W.set id (ae.row (aj+1) sz ty (af++[el])))[p]?=some (.box [.ref id aj sz 0 af.length false] none):=by rw[acK (by omega)];exact c
  refine⟨_,_,_,(W.set id (.row (aj+1) sz ty (af++[el]))).set p (.box [.ref id (aj+1) sz 0 (af.length+1) false] none),some id,c,e1,?_,.inr ⟨id,aj+1,rfl,by simp,g,?_,?_⟩,?_,?_,.inl rfl⟩
  ·exact ad1 k rfl rfl (by simp only[AV.refs];omega)
  ·rw[aeo (by rw[afL];omega)];simp
  ·rw[acK (by omega),aeo j]
  ·simp
  ·intro i A z y;rw[acK (λe=>z e.symm),acK (λe=>y (by rw[e]))]
end
section
variable{X:Ctx}{f:FuncId}{rd:Bool}{E:AS}{Q:bW}{e:Env}{ms:lN}{bJ:List FP}{js:lN}{os:List (aV×lN)}{i:I}{d:oN}{dd t:Nat}{v:AV}
def Bb(bJ:List FP)(o:aV)(js:lN)(os:List (aV×lN))(e:Env)(ms:lN)(Q:bW):AV->AS->Prop:=λv E=>CX bJ (o,js) os=true/\Q (.panic v) ⟨e,ms⟩ E
def gD(X:Ctx)(t:Nat)(b:Bool)(d:oN)(i:I)(js:lN)(os:List (aV×lN))(bJ:List FP)(e:Env)(ms:lN)(E:AS)(Q:bW)(c:AV):Prop:=match c with
 |.bool x=>if x=b then aW X i e E (kD X i E bJ js os d e ms Q) (Bb bJ ⟨some (t,b),d,i⟩ js os e ms Q)else gL X (bJ++[.no]) os (Fr.put ⟨e,ms⟩ d .undef) E Q
 |_=>gL X (bJ++[.no]) os (Fr.put ⟨e,ms⟩ d .undef) E Q
def ad2{b:Bool}:gL X bJ ((⟨some (t,b),d,i⟩,js)::os) ⟨e,ms⟩ E Q=gD X t b d i js os bJ e ms E Q (e t):=by
 unfold gD;split
 ·rename_i x a;by_cases h:x=b
  ·subst h;apply propext;simp only[gL,aW,gw,ga,a,beq_self_eq_true,af1];cases a:exec X (D X) i e E with
   |none=>simp[qJ]
   |some o=>
    cases o with
    |ok v E'=>
     simp only[qJ,OD];by_cases c:qK bJ (aZ i e E E') js=true
     ·rw[adV c];exact⟨λh=>⟨c,h⟩,λh=>h.2⟩
     ·simp[kD,c]
    |panic v E'=>
     simp only[qJ,Bb]
     grind
  ·rw[ada h];have: (x==b)=false:=by grind
   simp only[gL,gw,ga,a,this,afG,aiz]
 ·have:ga e (some (t,b))=false:=by
    unfold ga;simp only
  simp only[gL,gw,this,afG,aiz]
def ad3:gL X bJ ((gt t d i,js)::os) ⟨e,ms⟩ E Q=gD X t true d i js os bJ e ms E Q (e t):=ad2
def ad4:gL X bJ ((gf t d i,js)::os) ⟨e,ms⟩ E Q=gD X t false d i js os bJ e ms E Q (e t):=ad2
theorem ad5:gD X t true (some dd) i js os bJ e ms E Q (.bool true)=aW X i e E (kD X i E bJ js os (some dd) e ms Q) (Bb bJ ⟨some (t,true),(some dd),i⟩ js os e ms Q):=rfl
theorem ad6:gD X t true none i js os bJ e ms E Q (.bool true)=aW X i e E (kD X i E bJ js os none e ms Q) (Bb bJ ⟨some (t,true),none,i⟩ js os e ms Q):=rfl
theorem ad7:gD X t false (some dd) i js os bJ e ms E Q (.bool false)=aW X i e E (kD X i E bJ js os (some dd) e ms Q) (Bb bJ ⟨some (t,false),(some dd),i⟩ js os e ms Q):=rfl
theorem ad8:gD X t false none i js os bJ e ms E Q (.bool false)=aW X i e E (kD X i E bJ js os none e ms Q) (Bb bJ ⟨some (t,false),none,i⟩ js os e ms Q):=rfl
theorem ad9:gD X t true (some dd) i js os bJ e ms E Q (.bool false)=gL X (bJ++[.no]) os ⟨e.set dd .undef,ms⟩ E Q:=rfl
theorem aea:gD X t true none i js os bJ e ms E Q (.bool false)=gL X (bJ++[.no]) os ⟨e,ms⟩ E Q:=rfl
theorem aeb:gD X t false (some dd) i js os bJ e ms E Q (.bool true)=gL X (bJ++[.no]) os ⟨e.set dd .undef,ms⟩ E Q:=rfl
theorem aec:gD X t false none i js os bJ e ms E Q (.bool true)=gL X (bJ++[.no]) os ⟨e,ms⟩ E Q:=rfl
theorem aed{b:Bool}{c:lA}:gD X t b (some dd) i js os bJ e ms E Q (.ay c)=gL X (bJ++[.no]) os ⟨e.set dd .undef,ms⟩ E Q:=rfl
theorem aee{b:Bool}{c:lA}:gD X t b none i js os bJ e ms E Q (.ay c)=gL X (bJ++[.no]) os ⟨e,ms⟩ E Q:=rfl
def G1:=gG @ad3<|gG @ad4<|gG @ad5<|gG @ad6<|gG @ad7<|gG @ad8<|gG @ad9<|gG @aea<|gG @aeb<|gG @aec<|gG @aed @aee
end
def Fz(E:AS)(N d:Nat)(v v':AV):Prop:= ∀k,freeze E N (k+d) v=some v'
def ik(E:AS)(N d:Nat)(cs sh:lA):Prop:= ∀k,iL E N (k+d) cs=some sh
section
variable{E:AS}{N d:Nat}{a a' v v':AV}{cs sh:lA}
def Fz.low(h:v.refs<=N):Fz E N (d+1) v v:=λk=>yz h
def ik.nil:ik E N d [] []:=λk=>by cases h:k+d<;>rw[iL]
def ik.cons(h:Fz E N d a a')(b:ik E N (d+1) cs sh):ik E N (d+1) (a::cs) (a'::sh):=λk=>by
 have e1:=h k;have c:=b k;rw[<-aku]at c⊢;rw[iL,e1]
 grind
def ik.eq(h:ik E N d cs sh)(b:aI cs<=N):sh=cs:=by
 have e1:=h 2;rw[Nat.add_comm 2 d,OT cs b]at e1
 grind
theorem Fz.agg(h:ik E N d cs sh):Fz E N (d+1) (.agg cs) (.agg sh):=λk=>by
 have e1:=h k;rw[<-aku,freeze];split
 ·rename_i b;rw[h.eq b]
 grind
theorem Fz.ay(h:ik E N d cs sh):Fz E N (d+1) (.ay cs) (.ay sh):=λk=>by
 have e1:=h k;rw[<-aku,freeze];split
 ·rename_i b;rw[h.eq b]
 grind
def Fz.own{H:List ae}{ty:TypeId}(h:aT N H v sz ty af)(b:bZ af<=N):Fz ⟨H,lo⟩ N (d+4) v (bD v af):=λk=>by
 exact h.freeze b
def Fz.mono(h:Fz E N d v v')(b:d<=m):Fz E N m v v':=λk=>by
 have:=h (k+(m-d))
 grind
def uP{H:List ae}(b:ak=none\/ ∃j,N<=j/\ak=some j)(h:Fz ⟨H,ak⟩ N 12 v v'):finish N lo v ⟨H,ak⟩=(v',⟨H.take N,lo⟩):=by
 refine HK ?_ (by simpa using h 0)
 grind
def SV.own{ty:TypeId}{W:List ae}{r:oN}(h:SV p sz ty W r af)(f:N<=p)(b: ∀el∈af,el.length=sz): ∃v,W[p]?=some (.box [v] none)/\aT N W v sz ty af/\v.cq=false/\v.cells=[v]/\ (v= .aq\/p+1<v.refs):=by
 rcases h with⟨_,rfl,c⟩| ⟨id,aj,_,_,q,c,e⟩
 ·exact⟨.aq,c,aT.aq,rfl,rfl,.inl rfl⟩
 ·exact⟨_,c,⟨b,.inr ⟨id,aj,by omega,rfl,e⟩⟩,rfl,rfl,.inr (by simp only[AV.refs];omega)⟩
end
def en(N:Nat)(lo:oN):Prop:=lo=none\/ ∃j,N<=j/\lo=some j
def en.min{N:Nat}(h:en N lo)(b:N<=p)(c:ak=lo\/ak=cL lo p):en N ak:=by
 rcases c with rfl|rfl
 ·exact h
 ·rcases h with rfl| ⟨j,g,rfl⟩
  ·exact .inr ⟨p,b,rfl⟩
  ·obtain⟨q,e,f⟩:=adS (i:=j) (j:=p);exact .inr ⟨q,by omega,e⟩
section
variable{P:Program}{X:Ctx}{B:Nat}{az:World}
noncomputable def Bc(X:Ctx)(dL:oN)(pf:PF):jw->Option aX
 |some (.normal,fr,E)=>(dM E fr.marks).bind λa=>(fI X a fr.env pf.results).map λv=>.ret v {heap:=a.heap,lo:=gq dL a.lo}
 |some (.ret,fr,E)=>(dM E fr.marks).bind λa=>(fI X a fr.env pf.results).map λv=>.ret v {heap:=a.heap,lo:=gq dL a.lo}
 |_=>none
noncomputable def nZ(X:Ctx)(C:bE)(L:eA)(f:FuncId)(pf:PF)(args:lA)(E:AS):Option aX:=
 if args.length<=pf.ntmps then Bc X E.lo pf (bm X C L f false pf.body {env:=di args,marks:=[]} {heap:=E.heap,lo:=none})else none
def aq6{cu:AS}{G:Gh}{E:AS}(c:gb.le G)(d:ba P B az G E w)(b:AS.Ext {heap:=cu.heap,lo:=none} E){v:AV}{v':Value}(f:an G v v'):
  ∃a,gb.le a/\ba P B az a {heap:=E.heap,lo:=gq cu.lo E.lo} w/\an a v v'/\cu.Ext {heap:=E.heap,lo:=gq cu.lo E.lo}:=by
 refine⟨G,c,d.lo _,f,b.len,λj h=>?_,λj o h=>?_⟩
 ·cases E.lo with
  |none=>exact h
  |some l=>exact AF (.inl h)
 ·obtain⟨o',k,i⟩:=b.obj j o h;refine⟨o',k,i.imp id λ ⟨l,e,g⟩=>?_⟩;simp only[gq,e];exact AF (.inr g)
section
variable{C:bE}(hC:fK P B az C)(hg:fz X B az)(hX:oX P X)(gJ:AN P X B az){L:eA}(hL:yf L)
include hC hg hX gJ hL
theorem aq7(U:kO P f pf):gz P B az f (nZ X C L f pf):=by
 intro args E t h G w b hw T;unfold nZ at h;split at h
 ·rename_i V;obtain⟨rows,fn,o,n⟩:=U;obtain⟨c,y,l,m,S,q⟩:=Hd n;have k: (callFunc f b).run P w= .ok (.enter f b) w:=by
   have s: ¬fn.name= "runtime.NumGoroutine" :=by grind
   simp[callFunc,aqA,o,s,y]
  rw[k];show CallsIn (W none) 0 P f b w (Ends P B az G E t);cases g:bm X C L f false pf.body {env:=di args,marks:=[]} {heap:=E.heap,lo:=none}with
  |none=>rw[g]at h;simp[Bc]at h
  |some res=>
   rw[g]at h;have he:cM G fn.ntmps (di args) (b++Array.replicate (fn.ntmps-b.size) undef):=Hg T (by omega);refine axM o y trivial (vZ hC hg hX gJ hL (r:=none) rfl c pf.body l G {heap:=E.heap,lo:=none} w {env:=di args,marks:=[]} _ res _ (hw.lo none) he rfl g (λe a w' R=>?_)) rfl;obtain⟨Y,J,I,H,F,D,u⟩:=R;obtain⟨ex,fr,E'⟩:=res;have j: ((dM E' fr.marks).bind λd=>(fI X d fr.env pf.results).map λv=>aX.ret v {heap:=d.heap,lo:=gq E.lo d.lo})=some t->LeavesInM (W none) 0 P fn a.tmps (Ends P B az G E t) a.defers .returning w':=by
    intro h;rw[anc]at h;obtain⟨d,x,h⟩:=h;rw[afE]at h;obtain⟨v,Q,rfl⟩:=h;refine yh (by simp) fr.marks a.defers E' d w' F I x (λz i=>?_);obtain⟨v',e1,A⟩:=Dg hg i H m Q;refine⟨v',e1,?_⟩;obtain⟨p,O,N,M,K⟩:=aq6 J i (D.trans (yg _ _ _ x)) A;exact⟨p,O,N,M,K⟩
   cases ex with
   |normal=>cases e<;>simp[fX]at u;exact j h
   |ret=>cases e<;>simp[fX]at u;exact j h
   |exit id=>simp[Bc]at h
   |panic v=>simp[Bc]at h
 grind
end
def wo(hg:fz X B az)(hX:oX P X)(b: ∀f p,X.b8 f=some p->gz P B az f p)(a:kO P f pf):gz P B az f (nZ X (D X) Lw f pf):=
 aq7 (Ob hg hX b) hg hX (NU hg) adb a
def Bd(X:Ctx)(lo:oN)(b:List RV)(R:aX->Prop):bW
 |.normal,fr,E=> ∃a v,dM E fr.marks=some a/\fI X a fr.env b=some v/\R (.ret v {heap:=a.heap,lo:=gq lo a.lo})
 |.ret,fr,E=> ∃a v,dM E fr.marks=some a/\fI X a fr.env b=some v/\R (.ret v {heap:=a.heap,lo:=gq lo a.lo})
 |_,_,_=>False
def wq(pf:PF){args:lA}{H:List ae}{R:aX->Prop}(j:Nat.ble args.length pf.ntmps=true)
  (h: ∀n,H.length=n->wp X f false pf.body ⟨di args,[]⟩ ⟨H,none⟩ (Bd X lo pf.results R)): ∃g,nZ X (D X) Lw f pf args ⟨H,lo⟩=some g/\R g:=by
 obtain⟨ex,fr,E,i,e⟩:=h _ rfl;unfold nZ;rw[adV (aoG j),i];cases ex with
 |normal=>
  obtain⟨a,v,d,c,b⟩:=e;exact⟨_,by simp only[Bc,d,aoM,c,afF],b⟩
 |ret=>
  obtain⟨a,v,d,c,b⟩:=e;exact⟨_,by simp only[Bc,d,aoM,c,afF],b⟩
 |exit _=>trivial
 |panic _=>trivial
def si{R:aX->Prop}{E:AS}:Bd X lo [.t a] R .ret ⟨e,[]⟩ E=R (.ret (e a) {heap:=E.heap,lo:=gq lo E.lo}):=by
 simp only[Bd,yA,XJ]
 grind
end
def il(W:List ae)(N:Nat):Nat->List ae->Prop
 |_,[]=>True
 |k,b::bs=>W[N+k]?=some b/\il W N (k+1) bs
theorem eC{W:List ae}{N:Nat}:il W N k []=True:=rfl
theorem eD{W:List ae}{N:Nat}{b:ae}{bs:List ae}:il W N k (b::bs)=(W[N+k]?=some b/\il W N (k+1) bs):=rfl
theorem aef{W:List ae}{N:Nat}: ∀ {k:Nat} {bs:List ae},il W N k bs-> ∀i,i<bs.length->W[N+k+i]?=bs[i]?
 |_,[],_,i,h=>by grind
 |k,b::bs,⟨c,a⟩,i,h=>by
  cases i with
  |zero=>grind
  |succ i=>
   have:=aef a i (by grind)
   grind
theorem O8{W:List ae}{N:Nat}: ∀ {k:Nat} {bs:List ae},(∀i,i<bs.length->W[N+k+i]?=bs[i]?)->il W N k bs
 |_,[],_=>trivial
 |k,b::bs,h=>by
  refine⟨by have:=h 0 (by simp);grind,O8 λi a=>?_⟩;have:=h (i+1) (by grind)
  grind
def iP(N:Nat)(H W:List ae):Prop:= ∀i,i<N->W[i]?=H[i]?
theorem iP.take{N:Nat}{H W:List ae}(h:iP N H W)(b:H.length=N):W.take N=H:=by
 apply anX;intro i;by_cases a:i<N
 ·rw[afV a];exact h i a
 grind
theorem iP.set{N:Nat}{H W:List ae}{o:ae}(h:iP N H W)(b:N<=p):iP N H (W.set p o):=λi a=>by
 rw[acK (by omega)];exact h i a
def iP.app{N:Nat}{H L:List ae}(b:H.length=N):iP N H (H++L):=λi a=>ac7 (by omega)
def bV{S:Type}(N nB c:Nat)(H:List ae)(B:S->List ae):YV S:=⟨λs W=>iP N H W/\il W N 0 (B s),λ_=>none,λi=>i<N+nB,c⟩
def O9{S:Type}{N c:Nat}{H:List ae}{B:S->List ae}(g: ∀s,(B s).length=nB): (bV N nB c H B).Ok where
 st:=λs W j ⟨f,e⟩ h=>by
  refine⟨λi a=>?_,O8 λi a=>?_⟩
  ·have:i<N+nB:=by omega
   rw[h i (.inl this)];exact f i a
  ·have d:N+0+i<N+nB:=by grind
   rw[h _ (.inl d)];exact aef e i a
 lt:=λs W r _ b=>by cases b
def Be{S:Type}(N nB:Nat)(B:S->List ae)(W:List ae)(I:S->Prop)(J:Ex->S->Prop):bW:=λex _ E=>
 E.lo=none/\ ∃s',il E.heap N 0 (B s')/\W.length<=E.heap.length/\ (∀i,i<W.length-> ¬(N<=i/\i<N+nB)->E.heap[i]?=W[i]?)/\ (match ex with|.normal=>I s'|.panic _=>False|ex=>J ex s')
section
variable{S:Type}{N nB:Nat}{B:S->List ae}{W H:List ae}{I:S->Prop}{J:Ex->S->Prop}{fr:Fr}{i:Nat}
def oc:Be N nB B W I J .normal fr ⟨H,none⟩= ∃s',il H N 0 (B s')/\W.length<=H.length/\ (∀i,i<W.length-> ¬(N<=i/\i<N+nB)->H[i]?=W[i]?)/\I s':=by simp[Be]
def Il:Be N nB B W I J .ret fr ⟨H,none⟩= ∃s',il H N 0 (B s')/\W.length<=H.length/\ (∀i,i<W.length-> ¬(N<=i/\i<N+nB)->H[i]?=W[i]?)/\J .ret s':=by simp[Be]
end
def aeg{X:Ctx}{S:Type}{g:ao}{t:lN}{as O:PC}{Q:bW}(K:Env->Prop)(E:K e)(xs:List lA){N:Nat}{H W0:List ae}(D:H.length=N)(G:List ae)(B:S->List ae)(M: ∀s,(B s).length=nB)
  (u:S) (I:Nat->S->Prop) (J:Ex->S->Prop) (hg:qx X (g.get e)=true) (w:O0 X (yV (bV N nB (W0.length+2) H B) W0.length f e t as O) (W0.length+2) (g.get e) (N+nB) G xs) (k:W0=H++(B u++G)) (h0:I 0 u) (hJ: ∀ex s,J ex s-> ∃v,qz ex=some (some v)/\xU v=some ex/\ex.code=v)
  (hb: ∀e,K e-> ∀j x s,xs[j]?=some x->I j s->x.length=t.length/\ ∀W n,W.length=n->N+nB+G.length+2<=n->il W N 0 (B s)->
    wp X f true as ⟨ie e t x,[]⟩ ⟨W,none⟩ (λex fr o=>ex= .normal/\ ∃R1,o=⟨W++R1,none⟩/\
     ∀m,m.length=n->il m N 0 (B s)->wp X f true O fr ⟨m++R1,none⟩ (Be N nB B m (I (j+1)) J)))
  (h1: ∀e,K e-> ∀s' a p,N+nB<=p->I xs.length s'->iP N H a->il a N 0 (B s')->a[p]?=some .fk->Q .normal ⟨e,[p]⟩ ⟨a,none⟩)
  (h2: ∀e,K e-> ∀ex s' a p,N+nB<=p->J ex s'->iP N H a->il a N 0 (B s')->a[p]?=some .fk->Q ex ⟨e,[p]⟩ ⟨a,none⟩):
  wp X f false (.ib g t as O) ⟨e,[]⟩ ⟨W0,none⟩ Q:=by
 have wu:W0.length=N+nB+G.length:=by grind
 have q: ∀ {ak} {b:Nat},b=W0.length+2->kR (W0.length+2) b none ak none none->ak=none:=by
  rintro ak b rfl (⟨h,_⟩| ⟨j,R,P,_⟩)
  ·exact h
  ·omega
 refine adU (bV N nB (W0.length+2) H B) (O9 M) xs (N+nB) G W0 u hg w (λi c=>?_) (by omega) (λi c=>?_) ⟨?_,?_⟩ rfl I J h0 hJ ?_ ?_ ?_
 ·rw[k,<-adW,afN (by simp only[aem,D,M];omega)]
  congr 1;simp only[aem,D,M];omega
 ·have:i<N+nB:=c;exact⟨by omega,by omega⟩
 ·rw[k];exact iP.app D
 ·refine O8 λi c=>?_
  rw[k,afN (by omega),show N+0+i-H.length=i by omega,ac7 c]
 ·intro j x s Y L;obtain⟨R,P⟩:=hb e E j x s Y L;refine⟨R,λW l T=>?_⟩;refine wp_mono (P W _ rfl (by omega) l.2) ?_;rintro ex fr o ⟨rfl,R1,rfl,A⟩;refine⟨rfl,R1,rfl,λm C r=>?_⟩;refine wp_mono (A m C r.2) ?_;rintro Ij fr2 ⟨H2,V⟩ ⟨rfl,s',c1,c2,U,c4⟩;refine⟨s',⟨λi c=>?_,c1⟩,⟨c2,λi c hp _=>?_⟩,.inl ⟨rfl,rfl⟩,c4⟩
  ·rw[U i (by omega) (by omega)];exact r.1 i c
  ·have Z: ¬i<N+nB:=hp;exact U i c (by omega)
 ·intro s' a ak L l hl z y d;obtain rfl:=q rfl d;exact h1 e E s' a _ (by omega) L l.1 l.2 z
 ·intro ex s' a ak F l hl z y d;obtain rfl:=q rfl d;exact h2 e E ex s' a _ (by omega) F l.1 l.2 z
def wv{X:Ctx}{S:Type}{g:ao}{h:lN}{as q:PC}{Q:bW}(K:Env->Prop)(z:K e)(xs:List lA){N:Nat}{H W0:List ae}(w:H.length=N)(G:List ae)(B:S->List ae)(o: ∀s,(B s).length=nB)
  (d:S) (I:Nat->S->Prop) (J:Ex->S->Prop) (u:qx X (g.get e)=true) (l:uN X (g.get e) (N+nB) G xs) (m:W0=H++(B d++G)) (E:I 0 d) (A: ∀ex s,J ex s-> ∃k,qz ex=some (some k)/\xU k=some ex/\ex.code=k)
  (v: ∀e,K e-> ∀j x s,xs[j]?=some x->I j s->x.length=h.length/\ ∀W n,W.length=n->N+nB+G.length+2<=n->il W N 0 (B s)->
    wp X f true as ⟨ie e h x,[]⟩ ⟨W,none⟩ (λex fr c=>ex= .normal/\ ∃R1,c=⟨W++R1,none⟩/\
     ∀b,b.length=n->il b N 0 (B s)->wp X f true q fr ⟨b++R1,none⟩ (Be N nB B b (I (j+1)) J)))
  (D: ∀e,K e-> ∀s' a p,N+nB<=p->I xs.length s'->iP N H a->il a N 0 (B s')->a[p]?=some .fk->Q .normal ⟨e,[p]⟩ ⟨a,none⟩)
  (C: ∀e,K e-> ∀ex s' a p,N+nB<=p->J ex s'->iP N H a->il a N 0 (B s')->a[p]?=some .fk->Q ex ⟨e,[p]⟩ ⟨a,none⟩):
  wp X f false (.ib g h as q) ⟨e,[]⟩ ⟨W0,none⟩ Q:=
 aeg K z xs w G B o d I J u (λy I J t r=>l _ _ _ I J _ (Ih (O9 o)) t r) m E A v D C
section
variable{H:Type}{enc:TypeId×Value->H}{P:Program}{w:World}{sp:Nat->Bool}{held:Bool}
def Bf(P:Program):Nat->TypeId->Bool
 |0,_=>false
 |f+1,t=>match P.underlying t with
  |some .bool=>true
  |some (.int _)=>true
  |some .string=>true
  |some (.slice e)=>A0 P false f e
  |some (.struct fs)=>AZ P (Bf P f) fs.toList 0 (P.cellsOf t)
  |some (.array n e)=>Bf P f e&&P.cellsOf t==n*P.cellsOf e
  |_=>false
theorem Pa: ∀ (f:Nat) (t:TypeId) (n:Nat) (cs:List Value) (d:DataW H) (ps:List MemPlace),Bf P f t=true->(∀v∈cs,HC v)->
  DataW.trod enc P w 0 sp held n t cs=some (d,ps)-> ∃xs,ij P f t d xs/\aG (Gh.start w) xs cs/\Leaves cs/\xs.length=cs.length
 |0,_,_,_,_,_,r,_,_=>by simp[Bf]at r
 |f+1,t,n,cs,d,ps,r,B,h=>by
  unfold Bf at r;unfold ij;cases u:P.underlying t with
  |none=>rw[u]at r;cases r
  |some td=>
   rw[u]at r;cases td with
   |bool=>
    obtain⟨b,rfl,l⟩:=DataW.trod_bool u h;cases l;exact⟨[.bool b],⟨b,rfl,rfl⟩,aG.single.2 rfl,λv g=>by simp at g;subst g;rfl,rfl⟩
   |int k=>
    obtain⟨b,rfl,l,O⟩:=DataW.trod_int u h;cases l;exact⟨[.int k b],⟨b,rfl,rfl,O⟩,aG.single.2 rfl,λv g=>by simp at g;subst g;rfl,rfl⟩
   |string=>
    obtain⟨s,rfl,l,E⟩:=DataW.trod_string u h;cases l;exact⟨[.str s],⟨s,rfl,rfl,E⟩,aG.single.2 rfl,λv g=>by simp at g;subst g;rfl,rfl⟩
   |slice e=>
    rcases DataW.trod_slice u h with⟨rfl,l⟩| ⟨a,len,cap,es,rest,m,rfl,rfl,l,_,hlc,Wh,T,S,_,_⟩
    ·cases l;exact⟨[.aq],.inl ⟨rfl,rfl⟩,aG.single.2 rfl,λv g=>by simp at g;subst g;rfl,rfl⟩
    ·cases l;have E:a.spot=none:=B _ (List.mem_singleton_self _);obtain⟨af,vs,M,L,K,J,Y,h6⟩:=Xf (R:=ij P f e) E (λc G p C q=>HD (nest:=false) (λe=>by cases e) f e m c G p r (λe=>by cases e) q) len (by omega) S;refine⟨[.sl af false],.inr ⟨es.map (·.1),rest.map (·.1),af,rfl,rfl,by simp[T,M],by omega,λi x b l V=>?_⟩,aG.single.2 ?_,λv g=>by simp at g;subst g;rfl,rfl⟩
     ·rw[afW,afE]at l;obtain⟨y,N,rfl⟩:=l;exact L i y b N V
     ·refine⟨a.block,a.off,cap,P.cellsOf e,vs,?_,by omega,(λC=>absurd C (by decide)),λel F=>?_,h6,J,bw.iff.2 K⟩
      ·rw[M];obtain⟨b,o,s⟩:=a;simp at E;subst E;rfl
      ·obtain⟨j,W⟩:=asT.1 F;have hjl:=(ac9.1 W).1;exact(L j es[j] el (adR (by omega)) W).1
   |struct fs=>
    obtain⟨ys,m,rfl,l,I,A,z⟩:=DataW.trod_struct u h;cases l;obtain⟨xs,x1,x2,x3,Z⟩:=Od (R:=ij P f) (cs:=cs) (λt' c G p hg C q=>Pa f t' m c G p hg (λv g=>B v (C v g)) q) _ I fs.toList ys 0 r (by simpa using A) (λi fl hi=>z i fl (by simpa using hi));exact⟨xs,⟨_,rfl,x1⟩,by simpa using x2,by simpa using x3,by simpa using Z⟩
   |array k e=>
    simp only[af0,au6]at r;obtain⟨Q,C⟩:=r;obtain⟨ys,m,rfl,l,I,A,z⟩:=DataW.trod_array u h;cases l;obtain⟨af,M,L,K,J,Y⟩:=Xg (R:=ij P f e) (cs:=cs) (λc G p U q=>Pa f e m c G p Q (λv g=>B v (U v g)) q) k (by rw[I,C];exact aen _) (by omega) z;have D:k*P.cellsOf e=cs.length:=by rw[I,C]
    rw[D,afH]at K J;exact⟨af.flatten,⟨_,af,rfl,rfl,by simpa using A,M,λi a b X V=>by
     rw[afW,afE]at X;obtain⟨y,N,rfl⟩:=X;exact L i y b N V⟩,K,J,by rw[Y,D]⟩
   |_=>cases r
def aq8{b:Nat}{u:TypeId}{v:Value}(h:Cell.okWide P w .any b u v):HC v:=by
 cases v with
 |slice a len cap=>
  cases a with
  |none=>trivial
  |some a=>
   unfold Cell.okWide at h;cases hu:P.underlying u with
   |none=>simp[hu,Cell.ok]at h
   |some td=>cases td<;>simp[hu,Cell.ok]at h<;>exact h.2.2.2.1
 |_=>trivial
def aq9{t:TypeId}{f:Nat}{v:Value}{d:DataW H}{g:List MemPlace}{b:Nat}{fs:Array Field}(k:P.underlying t=some (.struct fs))(l:Bf P f t=true)(a:Value.okWide P w .any b t v)
  (h:DataW.Trod enc P w 0 sp held t v d g): ∃xs,an (Gh.start w) (.agg xs) v/\ij P f t d xs/\xs.length=P.cellsOf t:=by
 unfold Value.okWide at a;rw[k]at a;obtain⟨cs,rfl,e,ts,_,_,c⟩:=a;obtain⟨n,h⟩:=h;obtain⟨xs,r,q,p,o⟩:=Pa f t n cs.toList d g l (λv j=>by
  obtain⟨i,m⟩:=asT.1 j;obtain⟨u,_,hu⟩:=c i v (by simpa using m);exact aq8 hu) h
 exact⟨xs,⟨cs,rfl,q,p⟩,r,by rw[o];simpa using e⟩
end
end Go.Den
