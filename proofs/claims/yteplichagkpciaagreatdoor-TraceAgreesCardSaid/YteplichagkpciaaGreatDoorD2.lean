/- An evaluator, sound; no condition. -/
import Derived.Test.YteplichagkpciaaGreatDoorD1
import Derived.Orders
import Derived.Carry
import Derived.ChangeArms
import Derived.OpenShut
import Derived.RecoverIn
import Derived.LaidHandle
import Derived.LaidMore
import Derived.WideShapes
set_option linter.all false
set_option maxRecDepth 10000
set_option maxHeartbeats 1000000
namespace Go.Den
open Go Go.RowKit
abbrev lA:=List AV
variable{l t a i j m n k sz r ak a' p nB:Nat}{v:AV}{d lo aj:oN}{e:Env}{w:World}{b:PC}{z vs:lA}{tg:Option TypeId}{gI:Gh}{f:FuncId}{x y:ao}{c ag:Bool}{pf:PF}{k':IntKind}{af:List lA}{H0:List ae}
def ady:=@decide_eq_true
def aeR:=@List.mem_cons_of_mem
def aeU:=@List.length_set
def ae3:=@Array.getD_eq_getD_getElem?
def af8:=@Classical.byContradiction
def agc:=@List.append_nil
def ago:=@List.getElem?_take_of_lt
def agp:=@List.getElem?_map
def aj3:=@Option.getD_some
def aj8:=@List.prefix_append
def amH:=@Bool.true_and
def amI:=@List.pairwise_cons
def am7:=@List.length_drop
def anc:=@List.mem_range
def anj:=@and_true
def anq:=@List.mem_zipIdx_iff_getElem?
def anr:=@Nat.mod_lt
def anu:=@List.length_nil
def an1:=@Option.bind_eq_some_iff
def aoS:=@List.pairwise_append
def aoZ:=@List.range_succ
def ao4:=@Nat.not_lt_zero
def ao6:=@Nat.le_of_ble_eq_true
def apl:=@List.getElem?_range
def apA:=@Prod.mk.injEq
def apE:=@Array.getElem?_toList
def apH:=@List.mem_of_find?_eq_some
def apI:=@Array.all_eq_true_iff_forall_mem
def arb:=@List.getElem?_cons_zero
def asq:=@List.set_append_left
def ass:=@List.getElem_mem
def avd:=@Bool.true_or
def avT:=@List.append_of_mem
def avU:=@Bool.false_or
def avV:=@Bool.and_true
def avW:=@List.mem_iff_getElem?
def avX:=@List.contains_iff_mem
def avY:=@Nat.lt_succ_self
def awA:=@List.getElem?_of_mem
def awO:=@List.find?_eq_none
def awP:=@List.pairwise_iff_getElem
def axp:=@not_false_eq_true
def azw:=@List.getElem?_cons_succ
def azN:=@Option.getD_none
def aAD:=@List.range_succ_eq_map
def aA4:=@true_and
def aA6:=@List.getElem?_zipIdx
def aBk:=@Nat.lt_trichotomy
def aBn:=@List.pairwise_map
def aBo:=@Int.toNat_natCast
def aBx:=@List.isEmpty_iff
def gG{a b:Prop}(x:a)(y:b):a/\b:=⟨x,y⟩
section
variable{X:Ctx}
def j4(X:Ctx)(C:bJ)(xs:Nat->aQ)(F:Nat->FP):lN->Fr->AS->Fr->AS->Prop
 | [],fr,E,b,E'=>b=fr/\E'=E
 |i::l,fr,E,b,E'=>
  (gH fr.env (xs i).g=true/\ ∃v a,exec X C (xs i).i fr.env E=some (.ok v a)/\aW (xs i).i fr.env E a=F i/\j4 X C xs F l (fr.put (xs i).dst v) a b E')\/
  (gH fr.env (xs i).g=false/\F i= .no/\j4 X C xs F l (fr.put (xs i).dst .undef) E b E')
def anL{l m:lN}:Cu l m=true↔ ∀x∈l,x∉m:=by
 simp[Cu,aeT]
def CQ{a:Fr}{dst:oN}(h:t∉dst.toList): (a.put dst v).env t=a.env t:=by
 cases dst with
 |none=>rfl
 |some d=>
  simp only[Fr.put,Env.set]
  grind
def anM{f:Fr}{c:oN}{w:AV}(h: ∀x∈d.toList,x∉c.toList): (f.put d v).put c w=(f.put c w).put d v:=by
 cases d with
 |none=>rfl
 |some a=>
  cases c with
  |none=>rfl
  |some b=>
   have g:a≠b:=λe=>h a (by simp) (by grind)
   simp only[Fr.put]
   congr 1
   funext t
   simp only[Env.set]
   grind
def VU{g:Option (Nat×Bool)}{a:Env}(h: ∀t∈(match g with|some (t,_)=>[t]|none=>[]),e t=a t):gH e g=gH a g:=by
 cases g with
 |none=>rfl
 |some p=>simp only[gH];grind
def anN{C:bJ}{xs:Nat->aQ}{F:Nat->FP}{l:lN}{a q:Fr}{E E':AS}(n:kq (xs i) (xs j)=true)(x: (F i).ok (F j)=true)(h:j4 X C xs F (i::j::l) a E q E'):j4 X C xs F (j::i::l) a E q E':=by
 simp only[kq,aeW,anL]at n;obtain⟨⟨L,K⟩,J⟩:=n;have B: ∀v,∀t∈(xs j).reads,(a.put (xs i).dst v).env t=a.env t:=λv t d=>CQ λy=>L t y d
 have ex: ∀v,∀t∈(xs i).reads,(a.put (xs j).dst v).env t=a.env t:=λv t d=>CQ λy=>K t y d
 have e: ∀v,∀t∈(xs j).i.reads,(a.put (xs i).dst v).env t=a.env t:=λv t d=>B v t (by simp[aQ.reads,d])
 have f: ∀v,∀t∈(xs i).i.reads,(a.put (xs j).dst v).env t=a.env t:=λv t d=>ex v t (by simp[aQ.reads,d])
 have s: ∀v,gH (a.put (xs i).dst v).env (xs j).g=gH a.env (xs j).g:=λv=>VU λt d=>B v t (by
  simp only[aQ.reads,adB];grind)
 have u: ∀v,gH (a.put (xs j).dst v).env (xs i).g=gH a.env (xs i).g:=λv=>VU λt d=>ex v t (by
  simp only[aQ.reads,adB];grind)
 have comm: ∀v w,(a.put (xs i).dst v).put (xs j).dst w=(a.put (xs j).dst w).put (xs i).dst v:=λv w=>anM J
 simp only[j4]at h⊢;rcases h with⟨o,v,c,A,m,h⟩| ⟨o,m,h⟩
 ·rcases h with⟨g1,w,b,g2,k,g⟩| ⟨g1,k,g⟩
  ·rw[s]at g1;have z:exec X C (xs j).i a.env c=some (.ok w b):=by rw[<-GK (e v)];exact g2
   have p:aW (xs j).i a.env c b=F j:=by rw[<-GL (e v)];exact k
   obtain⟨r,I,H,G,D⟩:=anK A z (by rw[m,p];exact x);refine .inl ⟨g1,w,r,I,by rw[G];exact p,.inl ⟨by rw[u];exact o,v,b,?_,?_,by rw[<-comm];exact g⟩⟩
   ·rw[GK (f w)];exact H
   ·rw[GL (f w),D];exact m
  ·rw[s]at g1;refine .inr ⟨g1,k,.inl ⟨by rw[u];exact o,v,c,?_,?_,by rw[<-comm];exact g⟩⟩
   ·rw[GK (f _)];exact A
   ·rw[GL (f _)];exact m
 ·rcases h with⟨g1,w,b,g2,k,g⟩| ⟨g1,k,g⟩
  ·rw[s]at g1;refine .inl ⟨g1,w,b,by rw[<-GK (e _)];exact g2,by rw[<-GL (e _)];exact k,.inr ⟨by rw[u];exact o,m,by rw[<-comm];exact g⟩⟩
  ·rw[s]at g1;exact .inr ⟨g1,k,.inr ⟨by rw[u];exact o,m,by rw[<-comm];exact g⟩⟩
theorem MN{C:bJ}{xs:Nat->aQ}{F:Nat->FP}{j:Nat}{gY:lN}: ∀ (fD:lN) (fr a:Fr) (E E':AS),(∀i∈fD,kq (xs i) (xs j)=true/\ (F i).ok (F j)=true)->j4 X C xs F (fD++j::gY) fr E a E'->j4 X C xs F (j:: (fD++gY)) fr E a E'
 | [],_,_,_,_,_,h=>h
 |i::fD,fr,a,E,E',c,h=>by
  have d:=c i (by simp);refine anN d.1 d.2 ?_;simp only[ah6]at h;rw[j4]at h⊢;have g:=λfr E (h:j4 X C xs F (fD++j::gY) fr E a E')=>MN fD fr a E E' (λk m=>c k (by grind)) h
  rcases h with⟨f,v,b,l,e,h⟩| ⟨f,e,h⟩
  ·exact .inl ⟨f,v,b,l,e,g _ _ h⟩
  simp_all
theorem MO{C:bJ}{xs:Nat->aQ}: ∀ (ys:List (aQ×lN)) (a:List FP) (fr:Fr) (E:AS) (res:Ex×Fr×AS),(∀q y,ys[q]?=some y->xs (a.length+q)=y.1)->gV X C a ys fr E=some res->res.1= .normal->
  ∃F:Nat->FP,(∀m,m<a.length->F m=a.getD m .all)/\res.1= .normal/\j4 X C xs F ((List.range ys.length).map (a.length+ ·)) fr E res.2.1 res.2.2/\
   ∀q y,ys[q]?=some y-> ∀k∈y.2,k<a.length+q->(F k).ok (F (a.length+q))=true
 | [],a,fr,E,res,t,h,r=>by
   simp only[gV,ac1]at h;subst h;exact⟨λm=>a.getD m .all,λ_ _=>rfl,rfl,⟨rfl,rfl⟩,by simp⟩
 |o::ys,a,fr,E,res,t,h,r=>by
  have b:xs a.length=o.1:=by simpa using t 0 o rfl
  have j: ∀ (f:FP) q y,ys[q]?=some y->xs ((a++[f]).length+q)=y.1:=by
   intro f q y l;have:=t (q+1) y (by simpa using l);rw[<-this];congr 1;simp;omega
  have d: ∀f:FP,(List.range (o::ys).length).map (a.length+ ·)=a.length:: (List.range ys.length).map ((a++[f]).length+ ·):=by
   intro f;simp only[aeV,aAD,aj9,aAS,aeS]
   congr 1
   apply ans;intro k _;simp;omega
  have fin: ∀ (f:FP) (F:Nat->FP),(∀m,m< (a++[f]).length->F m=(a++[f]).getD m .all)->F a.length=f/\ ∀m,m<a.length->F m=a.getD m .all:=by
   intro f F s;refine⟨?_,λm hm=>?_⟩
   ·rw[s _ (by simp)];simp
   ·rw[s m (by simp;omega)];simp[aeN,acj hm]
  have c: ∀ (f:FP) (F:Nat->FP),(∀m,m<a.length->F m=a.getD m .all)->(∀k∈o.2,k<a.length->(a.getD k .all).ok (F a.length)=true)->
    (∀q y,ys[q]?=some y-> ∀k∈y.2,k< (a++[f]).length+q->(F k).ok (F ((a++[f]).length+q))=true)->
    ∀q y,(o::ys)[q]?=some y-> ∀k∈y.2,k<a.length+q->(F k).ok (F (a.length+q))=true:=by
   intro f F s w u q y l k n i;cases q with
   |zero=>
    simp at l;subst l;rw[aeS]at i⊢;rw[s k i];exact w k n i
   |succ q=>
    have:=u q y (by simpa using l) k n (by simp;omega);have e: (a++[f]).length+q=a.length+(q+1):=by simp;omega
    rw[e]at this;exact this
  simp only[gV]at h;split at h
  ·rename_i hw;split at h
   ·rename_i v g hex;split at h
    ·rename_i p;obtain⟨F,f1,f2,f3,f4⟩:=MO ys _ _ _ res (j _) h r;obtain⟨g1,g2⟩:=fin _ F f1;refine⟨F,g2,f2,?_,c _ F g2 (λk n _=>?_) f4⟩
     ·rw[d (aW o.1.i fr.env E g)];refine .inl ⟨by rw[b];exact hw,v,g,by rw[b];exact hex,by rw[b,g1],by rw[b];exact f3⟩
     ·rw[g1];exact aeT.1 p k n
    ·cases h
   ·split at h
    ·cases h;cases r
    ·cases h
   ·cases h
  ·rename_i hw;obtain⟨F,f1,f2,f3,f4⟩:=MO ys _ _ _ res (j _) h r;obtain⟨g1,g2⟩:=fin _ F f1;refine⟨F,g2,f2,?_,c _ F g2 (λk n _=>?_) f4⟩
   ·rw[d .no];exact .inr ⟨by rw[b];simpa using hw,g1,by rw[b];exact f3⟩
   ·rw[g1];cases a.getD k .all<;>rfl
theorem VV{C:bJ}{xs:Nat->aQ}: ∀ (ys:List (aQ×lN)) (a:List FP) (fr:Fr) (E:AS) (res:Ex×Fr×AS),(∀q y,ys[q]?=some y->xs (a.length+q)=y.1)->gV X C a ys fr E=some res->res.1≠ .normal->
  ∃ (F:Nat->FP) (p:Nat) (v:AV) (b:AS) (y:aQ×lN),(∀m,m<a.length->F m=a.getD m .all)/\ys[p]?=some y/\res.1= .panic v/\j4 X C xs F ((List.range p).map (a.length+ ·)) fr E res.2.1 b/\
    gH res.2.1.env (xs (a.length+p)).g=true/\exec X C (xs (a.length+p)).i res.2.1.env b=some (.panic v res.2.2)/\
    (∀q y,q<p->ys[q]?=some y-> ∀k∈y.2,k<a.length+q->(F k).ok (F (a.length+q))=true)/\
    y.2=[]/\y.1.i.cls≠0/\ (y.1.i.cls=2\/ ∀m,m<a.length+p->F m≠ .no)/\ ∀q d,p<q->ys[q]?=some d->if d.1.i.cls=0 then kq y.1 d.1=false else a.length+p∉d.2
 | [],a,fr,E,res,D,h,K=>by
   simp only[gV,ac1]at h
   grind
 |o::ys,a,fr,E,res,D,h,K=>by
  have c:xs a.length=o.1:=by simpa using D 0 o rfl
  have B: ∀ (f:FP) q y,ys[q]?=some y->xs ((a++[f]).length+q)=y.1:=by
   intro f q y u;have:=D (q+1) y (by simpa using u);rw[<-this];congr 1;simp;omega
  have w: ∀ (f:FP) (p:Nat),(List.range (p+1)).map (a.length+ ·)=a.length:: (List.range p).map ((a++[f]).length+ ·):=by
   intro f p;simp only[aAD,aj9,aAS,aeS]
   congr 1
   apply ans;intro k _;simp;omega
  have e1: ∀ (f:FP) (q:Nat),(a++[f]).length+q=a.length+(q+1):=λf q=>by simp;omega
  have fin: ∀ (f:FP) (F:Nat->FP),(∀m,m< (a++[f]).length->F m=(a++[f]).getD m .all)->F a.length=f/\ ∀m,m<a.length->F m=a.getD m .all:=by
   intro f F s;refine⟨?_,λm hm=>?_⟩
   ·rw[s _ (by simp)];simp
   ·rw[s m (by simp;omega)];simp[aeN,acj hm]
  have next: ∀ (f:FP) (g:Fr) (i:AS),gV X C (a++[f]) ys g i=some res->(∀ (F:Nat->FP) l j E',F a.length=f->j4 X C xs F l g i j E'->j4 X C xs F (a.length::l) fr E j E')->(∀k∈o.2,(a.getD k .all).ok f=true)->
    ∃ (F:Nat->FP) (p:Nat) (v:AV) (b:AS) (y:aQ×lN),(∀m,m<a.length->F m=a.getD m .all)/\ (o::ys)[p]?=some y/\res.1= .panic v/\j4 X C xs F ((List.range p).map (a.length+ ·)) fr E res.2.1 b/\
      gH res.2.1.env (xs (a.length+p)).g=true/\exec X C (xs (a.length+p)).i res.2.1.env b=some (.panic v res.2.2)/\
      (∀q y,q<p->(o::ys)[q]?=some y-> ∀k∈y.2,k<a.length+q->(F k).ok (F (a.length+q))=true)/\
      y.2=[]/\y.1.i.cls≠0/\ (y.1.i.cls=2\/ ∀m,m<a.length+p->F m≠ .no)/\ ∀q d,p<q->(o::ys)[q]?=some d->if d.1.i.cls=0 then kq y.1 d.1=false else a.length+p∉d.2:=by
   intro f g i h t H;obtain⟨F,p,v,b,y,f1,f2,f3,f4,f5,f6,f7,f8,f9,f10,f11⟩:=VV ys _ _ _ res (B f) h K;obtain⟨g1,g2⟩:=fin f F f1;refine⟨F,p+1,v,b,y,g2,by simpa using f2,f3,?_,by rw[<-e1 f];exact f5,by rw[<-e1 f];exact f6,?_,f8,f9,f10.imp id λf10 m hm=>f10 m (by rw[e1];exact hm),?_⟩
   ·rw[w f];exact t F _ _ _ g1 f4
   ·intro q d u n k x r;cases q with
    |zero=>
     simp at n;subst n;rw[aeS]at r⊢;rw[g1,g2 k r];exact H k x
    |succ q=>
     have:=f7 q d (by omega) (by simpa using n) k x (by rw[e1];exact r);rw[e1]at this;exact this
   ·intro q d u n;cases q with
    |zero=>omega
    |succ q=>
     have:=f11 q d (by omega) (by simpa using n);rw[e1]at this;exact this
  simp only[gV]at h;split at h
  ·rename_i hw;split at h
   ·rename_i v b hex;split at h
    ·rename_i z;exact next _ _ _ h (λF l j E' s G=>.inl ⟨by rw[c];exact hw,v,b,by rw[c];exact hex,by rw[c,s],by rw[c];exact G⟩) (λk x=>aeT.1 z k x)
    ·cases h
   ·rename_i v E' hex;split at h
    ·rename_i J;cases h;simp only[Cv,aeW,ao0,awJ,aBx,bne_iff_ne]at J;obtain⟨N,M,A,L⟩:=J;refine⟨λm=>a.getD m .all,0,v,E,o,λ_ _=>rfl,rfl,rfl,⟨rfl,rfl⟩,by rw[aeS,c];exact hw,by rw[aeS,c];exact hex,λq y u=>by omega,N,M,?_,?_⟩
     ·refine A.imp id λA m hm=>?_
      rw[aeS]at hm;have:=aeT.1 A a[m] (ass hm);simp only[aeN,ac7 hm,aj3];intro e;rw[e]at this;cases this
     ·intro q d u n;cases q with
      |zero=>omega
      |succ q=>
       have:=aeT.1 L d (amF (by simpa using n:ys[q]?=some d));split
       ·rename_i I;rw[ac6 I]at this;simpa using this
       ·rename_i I;rw[ac0 I]at this;rw[aeS];simpa using this
    ·cases h
   ·cases h
  ·rename_i hw;exact next .no _ _ h (λF l j E' s G=>.inr ⟨by rw[c];simpa using hw,s,by rw[c];exact G⟩) (λk x=>by cases a.getD k .all<;>rfl)
end
section
variable{P:Program}{X:Ctx}{B:Nat}{ax:World}{di:List Deferred}
theorem VW(f:FP):FP.ok .no f=true:=by rfl
def VX(f:FP):FP.ok f .no=true:=by cases f<;>rfl
theorem x9{C:bJ}{xs:Nat->aQ}{F:Nat->FP}{i:Nat}(d: (xs i).i.cls=0): ∀ (l:lN) (fr b:Fr) (E E':AS),i∈l->j4 X C xs F l fr E b E'->F i= .no
 | [],_,_,_,_,a,_=>by grind
 |j::l,fr,b,E,E',a,h=>by
  rcases aeZ.1 a with rfl|a
  ·rcases h with⟨_,v,c,_,e,_⟩| ⟨_,e,_⟩
   ·grind [VN]
   omega
  ·rcases h with⟨_,v,c,_,_,h⟩| ⟨_,_,h⟩
   ·exact x9 d l _ _ _ _ a h
   ·exact x9 d l _ _ _ _ a h
theorem VY{rows:Bool}{ops:Array Oper}: ∀ {os:List Oper} {xs:List aQ},kX P rows ops os=some xs->xs.length=os.length/\ ∀ (i:Nat) (o:Oper),os[i]?=some o-> ∃x,xs[i]?=some x/\jb P rows ops o=some x
 | [],xs,h=>by
   simp only[kX,ac1]at h;grind
 |o::os,xs,h=>by
  simp only[kX]at h;split at h
  ·rename_i x a c b;obtain⟨e1,d⟩:=VY b
   grind
  grind
theorem VZ{ops:Array Oper}{e:Nat}: ∀n:Nat,e<n->(ux ops n).getD (n-1-e) 0=(ux ops (e+1)).headD 0
 |0,h=>absurd h (ao4 _)
 |n+1,h=>by
  by_cases he:e=n
  ·subst he;simp[ux]
  ·have a:e<n:=by omega
   rw[show n+1-1-e=(n-1-e)+1 by omega,<-VZ n a];simp[ux]
theorem V0{b:lN}{n a:Nat}{S:Nat->Prop}: ∀es:lN,(∀e∈es,S e)->(∀e∈es,e<n->Nat.testBit (b.getD (n-1-e) 0) a=true->S a)->Nat.testBit (Ac b n es) a=true->S a
 | [],_,_,h=>by simp[Ac]at h
 |e::es,f,d,h=>by
  have e1:Ac b n (e::es)=(1<<<e||| (if e<n then b.getD (n-1-e) 0 else 0))|||Ac b n es:=rfl;rw[e1,Nat.testBit_or,Nat.testBit_or,ao0,ao0]at h;rcases h with(h|h)|h
  ·simp_all[Nat.one_shiftLeft,Nat.testBit_two_pow,ae1]
  ·grind
  ·exact V0 es (λx c=>f x (aeR _ c)) (λx c=>d x (aeR _ c)) h
def MQ{ops:Array Oper}{S:Nat->Prop}(g: ∀j,S j-> ∀o,ops[j]?=some o-> ∀a∈kY o,S a)(k i:Nat)(o:Oper)(ho:ops[i]?=some o)(d: ∀a∈kY o,S a): ∀a∈iw ops k i,S a:=by
 intro a h;unfold iw at h;have key: ∀n i:Nat,i<n-> ∀o,ops[i]?=some o->(∀a∈kY o,S a)->Nat.testBit ((ux ops (i+1)).headD 0) a=true->S a:=by
  intro n
  induction n with
  |zero=>simp
  |succ n l=>
   intro i m o ho d f;simp only[ux,List.headD_cons,ho]at f;refine V0 _ d (λe hm b c=>?_) f;rw[VZ i b]at c
   grind
 grind
def V4{a:Region.Mode}{e:Edge}(h:Region.binds .any e=true):Region.binds a e=true:=by
 unfold Region.binds at h⊢
 grind
theorem MR{a:Region.Mode}{ops:Array Oper}{l:lN}{S:Nat->Prop}(f: ∀x,x<ops.size->x∉l->S x): ∀ (ord pre:lN),Gf a ops pre ord=true->(∀x∈pre,x<ops.size/\x∉l)->(∃x∈ord,x∈l)->
  ∃x∈l,∃o,ops[x]?=some o/\ ∀e∈o.after.toList,Region.binds a e=true->S e.on
 | [],_,_,_,⟨x,c,_⟩=>by grind
 |i::ord,pre,h,b,hex=>by
  simp only[Gf,aeW]at h;obtain⟨j,g⟩:=h;split at j
  ·by_cases d:i∈l
   ·grind
   ·refine MR f ord (i::pre) g (λx c=>?_) ?_
    ·grind
    grind
  grind
def Gh.later(G:Gh)(os:List ae):Gh:={G with n:=G.n+os.length,pz:=λi=>if i<G.n then G.pz i else os[i-G.n]?}
def Gh.ya(G:Gh)(os:List ae):G.le (G.later os):=
 .mk' (λ_ _ _ h=>h) (by simp[Gh.later]) (λi a=>by simp[Gh.later,a]) (λ_ _=>adA _) (λ_ _ _=>⟨rfl,rfl,rfl,rfl⟩)
def Gh.GO{G:Gh}{os:List ae}(h: (G.later os).on i):G.on i:=by
 obtain⟨c,a⟩:=h;simp only[Gh.later]at c a;by_cases b:i<G.n
 ·rw[ac6 b]at a;exact⟨b,a⟩
 grind
theorem aX.later{G:Gh}{E:AS}(h:aX P B ax G E w){os:List ae}(ho: ∀o∈os,∃z tg,o= .box z tg/\aL z=0):aX P B ax (G.later os) (E.my os) w where
 len:=by simp[Gh.later,AS.my,h.len]
 bG:=h.bG
 obj id o e b:=by
  simp only[Gh.later]at b;simp only[AS.my]at e;by_cases a:id<G.n
  ·rw[ac6 a]at b;rw[acj (by rw[<-h.len];exact a)]at e;exact jc.mono (G.ya os) ⟨a,b⟩ rfl rfl (h.obj id o e b)
  ·rw[ac0 a]at b;rw[aeY (by rw[<-h.len];omega),<-h.len,b]at e;cases e
 inj i j a d e:=h.inj i j (Gh.GO a) (Gh.GO d) e
 sep i a o:=h.sep i (Gh.GO a) o
 low i a:=h.low i (Gh.GO a)
 lT:=h.lT
 hB:=h.hB
 lU id o c b:=by
  simp only[Gh.later]at c b;simp only[AS.my];by_cases a:id<G.n
  ·rw[ac6 a]at b;obtain⟨g,f⟩:=h.lU id o a b
   grind
  ·rw[ac0 a]at b;exact⟨by rw[aeY (by rw[<-h.len];omega),<-h.len];exact b,ho o (amF b)⟩
 dW:=h.dW
theorem AS.Ext.my(E:AS)(os:List ae):E.Ext (E.my os)where
 len:=by simp[AS.my]
 lo _ h:=h
 obj j x e:=⟨x,by
  have:j<E.heap.length:=(ack.1 e).1;simp[AS.my,acj this,e],.inl λ_ k=>k.mono (by omega)⟩
def Gh.real(G:Gh)(id b:Nat):Gh:=
 {G with bb:=λi=>if i=id then b else G.bb i,ak:=λi=>if i=id then 0 else G.ak i,pz:=λi=>if i=id then none else G.pz i}
def Gh.GP{G:Gh}{id b:Nat}{o:ae}(d:G.pz id=some o):G.sub (G.real id b):=by
 have c: ∀i,G.on i->i≠id:=λi a e=>by rw[e]at a;rw[a.2]at d;cases d
 exact{bG:=λ_ _ _ h=>h,n:=adA _,on:=λi a=>⟨a.1,by simp only[Gh.real];rw[ac0 (c i a)];exact a.2⟩,
       ak:=λi a=>by simp only[Gh.real];grind,same:=λi a _=>by simp[Gh.real,c i a]}
def Gh.GQ{G:Gh}{id b:Nat}(h: (G.real id b).on i):i=id\/ (i≠id/\G.on i):=by
 obtain⟨c,a⟩:=h;simp only[Gh.real]at c a;by_cases e:i=id
 ·omega
 ·rw[ac0 e]at a;exact .inr ⟨e,c,a⟩
def GR{rows:Bool}{o:Oper}(h:kW P rows o=some (.alloc z tg)): ∃t,o.op= .alloc t/\iv P t=some z/\tg=rW z t:=by
 cases a:o.op with
 |alloc t=>
  simp only[kW,a]at h;obtain⟨e,d,b⟩:=aeL.1 h;cases b;exact⟨t,rfl,d,rfl⟩
 |call c=>
  exfalso;simp only[kW,a,Cw]at h
  repeat' split at h
  all_goals first| (cases h;done)| (simp only[aeL]at h;obtain⟨_,_,h⟩:=h;cases h;done)|skip
 |_=>
  exfalso;simp only[kW,a]at h
  (repeat' split at h)<;>first| (cases h;done)| (simp only[aeL]at h;obtain⟨_,_,h⟩:=h;first| (cases h;done)| (split at h<;>cases h))| (simp_all;done)
theorem aX.real{G:Gh}{E:AS}(h:aX P B ax G E w){id:Nat}{t:TypeId}(s:id<G.n)(H:G.pz id=some (.box z (rW z t)))(N:iv P t=some z):
  ∃w',(Instr.alloc t true (.tuple #[])).run P w= .ok (.pointer (some ⟨w.heap.size,0,none⟩)) w'/\aX P B ax (G.real id w.heap.size) E w'/\an (G.real id w.heap.size) (.ptr id 0) (.pointer (some ⟨w.heap.size,0,none⟩)):=by
 have p:G.sub (G.real id w.heap.size):=Gh.GP H;obtain⟨A,e,_,l,J,_⟩:=rZ N (G.real id w.heap.size) w;obtain⟨I,_⟩:=h.lU id _ s H;have x: (G.real id w.heap.size).bb id=w.heap.size:=by simp[Gh.real]
 refine⟨w.alloc (.cells A.cells t),by simp[Instr.alloc,e,newVar,newRow],?_,⟨⟨s,by simp[Gh.real]⟩,_,rfl,λ_=>by rw[x]⟩⟩;refine{len:=h.len,bG:=λb o v K=>?_,obj:=λi o y a=>?_,inj:=λi j g L f=>?_,sep:=λi g o=>?_,low:=λi g=>?_,lT:=h.lT.alloc h.hB _,hB:=by have:=h.hB;simp;omega,lU:=λi o g a=>?_,dW:=h.dW}
 ·have m:G.bG b o=some v:=K;rw[cell?_alloc_old (h.xR P m)];exact h.bG b o v m
 ·by_cases c:i=id
  ·subst c;rw[I]at y;cases y;refine⟨by simp[Gh.real],A.cells,t,?_,l,J,λt' h=>Mv h⟩;rw[x];exact apk _ _
  ·have q:i<G.n:=by rw[h.len];exact(ack.1 y).1
   simp only[Gh.real]at a;rw[ac0 c]at a;exact jc.dQ p ⟨q,a⟩ (by simp[Gh.real,c]) (Below.heap_alloc _ _ _ (h.low i ⟨q,a⟩).2) (h.obj i o y a)
 ·rcases Gh.GQ g with d| ⟨k,d⟩<;>rcases Gh.GQ L with u| ⟨D,u⟩
  ·rw[d,u]
  ·simp only[Gh.real,d,ae4,ac0 D]at f;have:=(h.low j u).2;omega
  ·simp only[Gh.real,u,ae4,ac0 k]at f;have:=(h.low i d).2;omega
  ·simp only[Gh.real,ac0 k,ac0 D]at f;exact h.inj i j d u f
 ·rcases Gh.GQ g with d| ⟨k,d⟩
  ·subst d;rw[x];show G.bG w.heap.size o=none;cases M:G.bG w.heap.size o with
   |none=>rfl
   |some v=>have:=h.xR P M;omega
  ·simp only[Gh.real,ac0 k];exact h.sep i d o
 ·rcases Gh.GQ g with d| ⟨k,d⟩
  ·subst d;rw[x];exact⟨h.hB,by simp⟩
  ·simp only[Gh.real,ac0 k];have:=h.low i d;exact⟨this.1,by simp;omega⟩
 ·simp only[Gh.real]at g a;by_cases c:i=id
  ·rw[ac6 c]at a;cases a
  ·rw[ac0 c]at a;exact h.lU i o g a
def Gh.V5{G:Gh}(h:gI.le G){id b:Nat}{o:ae}(a:G.pz id=some o)(c:gI.n<=id):gI.le (G.real id b):=
 {Gh.UP h.toSub (Gh.GP a)with pz:=λi d=>by simp only[Gh.real];rw[ac0 (by omega)];exact h.pz i d}
section
variable{C:bJ}(hC:fR P B ax C)(hg:fP X B ax){r:oN}{n nt:Nat}{rows:Bool}{ops:Array Oper}{xs:Nat->aQ}{F:Nat->FP}
include hC hg
theorem go_sound(D:Region.Mode){ord:lN}(R:uy D ops ord=true)(Z:Nat->Nat)(al:Nat->Option ae)(Ap: ∀i o,ops[i]?=some o->(al i=none/\jb P rows ops o=some (xs i))\/ ∃z tg g d,al i=some (.box z tg)/\jb P rows ops o=some ⟨g,d,.alloc z tg⟩/\xs i=⟨g,d,.mov (.c (.ptr (Z i) 0))⟩)
  (MS: ∀i j bi bj,al i=some bi->al j=some bj->Z i=Z j->i=j)  {cy:AS} (we: ∀i b,al i=some b->gI.n<=Z i) (hd: ∀i,i<ops.size-> ∀d,(xs i).dst=some d->d<nt) (anO: ∀i o,ops[i]?=some o-> ∀a∈kY o,a<i)
  (MT: ∀i j,i<j->j<ops.size->i∉iw ops 64 j->kq (xs i) (xs j)=true/\ (F i).ok (F j)=true):
  ∀ (fuel t:Nat) (listed:Array Bool) (l:lN) (G:Gh) (E E':AS) (w:World) (fr q:Fr) (a:Act) (Q:Exit->Act->World->Prop),
    (∀i,i∈l↔i<ops.size/\listed.getD i true=false)->listed.size=ops.size->l.Pairwise (· < ·)->(∀j o,ops[j]?=some o->listed.getD j true=true-> ∀a∈kY o,listed.getD a true=true)->l.length<=fuel->
    j4 X C xs F l fr E q E'->gI.le G->cy.Ext E->(∀i∈l,∀b,al i=some b->Z i<G.n/\G.pz (Z i)=some b)->aX P B ax G E w->cP G nt fr.env a.tmps->gW di G fr.marks a.defers->(∀e a w,mB P B ax di gI cy nt (.normal,q,E') e a w->Q e a w)->
    wpOpsIn (W r) n P ops Q (Region.linearise.go D ops fuel t listed []) a w:=by
 intro fuel
 induction fuel with
 |zero=>
  intro t listed l G E E' w fr q a Q hl O hp oT hf hr hle p oV hw he hm hQ;have:l=[]:=ajx.1 (by omega);subst this;obtain⟨rfl,rfl⟩:=hr;exact hQ _ _ _ ⟨G,hle,hw,he,hm,p,trivial⟩
 |succ fuel ih=>
  intro t listed l G E E' w fr q a Q hl O hp oT hf hr hle p oV hw he hm hQ;simp only[Region.linearise.go]
  change wpOpsIn (W r) n P ops Q (match(Region.ready D ops listed)[t % (Region.ready D ops listed).length]? with
   |some i=>Region.linearise.go D ops fuel (t/ (Region.ready D ops listed).length) (listed.setIfInBounds i true) [i]
   |none=>[].reverse) a w
  have H: ∀i,i∈Region.ready D ops listed↔i∈l/\ ∀o,ops[i]?=some o-> ∀e∈o.after.toList,Region.binds D e=true->listed.getD e.on false=true:=by
   intro i;simp only[Region.ready,ae2,anc,aeW,aBu];rw[hl];constructor
   ·rintro⟨N,A,h3⟩;refine⟨⟨N,A⟩,λo ho e V M=>?_⟩;rw[ho]at h3;simp only[aeM,aj3,apI]at h3;have:=h3 e (by simpa using V);rw[M]at this;simpa using this
   ·rintro⟨⟨N,A⟩,h3⟩;refine⟨N,A,?_⟩;obtain⟨o,ho⟩: ∃o,ops[i]?=some o:=⟨ops[i],by simp[N]⟩;rw[ho];simp only[aeM,aj3,apI];intro e V;by_cases M:Region.binds D e=true
    ·rw[h3 o ho e (by simpa using V) M];simp
    ·simp at M;simp[M]
  have Y: ∀a,listed.getD a false=true->listed.getD a true=true:=by
   intro a h;simp only[ae3]at h⊢;cases h':listed[a]? with
   |none=>rw[h']at h;cases h
   |some b=>rw[h']at h;exact h
  cases hi: (Region.ready D ops listed)[t % (Region.ready D ops listed).length]? with
  |none=>
   have CR:Region.ready D ops listed=[]:=by
    cases r8:Region.ready D ops listed with
    |nil=>rfl
    |cons x ys=>
     rw[r8]at hi;have xW:t % (x::ys).length< (x::ys).length:=anr _ (by simp);rw[ac7 xW]at hi;cases hi
   cases l with
   |nil=>
    obtain⟨rfl,rfl⟩:=hr;exact hQ _ _ _ ⟨G,hle,hw,he,hm,p,trivial⟩
   |cons i l=>
    exfalso;simp only[uy,aeW]at R;obtain⟨x,f,o,ho,uD⟩:=MR (S:=λa=>listed.getD a false=true) (l:=i::l) (λx f qE=>by
     cases r9:listed.getD x true with
     |true=>
      simp only[ae3,axo (show x<listed.size by omega),aj3]at r9⊢;exact r9
     |false=>exact absurd ((hl x).2 ⟨f,r9⟩) qE) ord [] R.2 (by simp) ⟨i,by
      have:=aeT.1 R.1 i (by simpa using((hl i).1 (by simp)).1);simpa using this,by simp⟩
    have:x∈Region.ready D ops listed:=(H x).2 ⟨f,λo' u e V M=>by rw[ho]at u;cases u;exact uD e V M⟩;rw[CR]at this;cases this
  |some i=>
   simp only;rw[linearise_go_acc,List.reverse_singleton,List.singleton_append];have MU:=amF hi;obtain⟨sa,MV⟩:=(H i).1 MU;have Aq: ∀o,ops[i]?=some o-> ∀a∈kY o,listed.getD a true=true:=by
    intro o ho a ha;simp only[kY,aeO,ae2]at ha;obtain⟨e,⟨e1,e2⟩,rfl⟩:=ha;exact Y _ (MV o ho e e1 (V4 e2))
   have U:=((hl i).1 sa).1;obtain⟨o,ho⟩: ∃o,ops[i]?=some o:=⟨ops[i],by simp[U]⟩;obtain⟨fD,gY,rfl⟩:=avT sa;have s:=aoS.1 hp;have m:=MN fD fr q E E' (λx f=>by
    have qE:=(hl x).1 (by simp[f]);refine MT x i (s.2.2 x f i (by simp)) U (λanP=>?_);have:=MQ (S:=λa=>listed.getD a true=true) (λj hj o' u a ha=>oT j o' u hj a ha) 64 i o ho (Aq o ho) x anP;rw[qE.2]at this;cases this) hr
   rw[j4]at m;have J: ∀k,k∈fD++gY↔k<ops.size/\ (listed.setIfInBounds i true).getD k true=false:=by
    intro k;have T:=hl k;have GS: ∀x∈fD++gY,x≠i:=by
     intro x f e;subst e;rcases adB.1 f with h|h
     ·have:=s.2.2 x h x (by simp);omega
     ·have:=(amI.1 s.2.1).1 x h;omega
    simp only[ae3,amE]at T⊢;constructor
    ·intro h;have sb:=GS k h;have:=T.1 (by simp only[adB,aeZ]at h⊢;rcases h with h|h;exact .inl h;exact .inr (.inr h));rw[ac0 (λe=>sb e.symm)];exact this
    ·rintro⟨N,A⟩;by_cases yb:i=k
     ·subst yb;rw[ac6 rfl,ac6 (by omega)]at A;simp at A
     ·rw[ac0 yb]at A;have:=T.2 ⟨N,A⟩;simp only[adB,aeZ]at this⊢;rcases this with h|h|h
      ·exact .inl h
      ·exact absurd h.symm yb
      ·exact .inr h
   have nZ: (fD++gY).Pairwise (· < ·):=aoS.2 ⟨s.1,(amI.1 s.2.1).2,λx f y hy=>s.2.2 x f y (by simp[hy])⟩;have L: ∀j o,ops[j]?=some o->(listed.setIfInBounds i true).getD j true=true-> ∀a∈kY o,(listed.setIfInBounds i true).getD a true=true:=by
    intro j o' u hj a ha;have key:listed.getD a true=true->(listed.setIfInBounds i true).getD a true=true:=by
     intro h;simp only[ae3,amE]at h⊢;split
     ·split<;>rfl
     ·exact h
    apply key;by_cases CT:i=j
    ·subst CT;rw[ho]at u;cases u;exact Aq _ ho a ha
    ·refine oT j o' u ?_ a ha;simp only[ae3,amE]at hj⊢;rw[ac0 CT]at hj;exact hj
   have qC: (fD++gY).length<=fuel:=by simp at hf⊢;omega
   have MW:i∉fD++gY:=λhm=>by
    rcases adB.1 hm with h|h
    ·have:=s.2.2 i h i (by simp);omega
    ·have:=(amI.1 s.2.1).1 i h;omega
   have I: ∀k∈fD++gY,∀b,al k=some b->Z k<G.n/\G.pz (Z k)=some b:=λk T b M=>oV k (by
    simp only[adB,aeZ]at T⊢;rcases T with h|h
    ·exact .inl h
    ·exact .inr (.inr h)) b M
   rcases Ap i o ho with⟨lW,f⟩| ⟨z,tg,g,d,lW,f,yc⟩
   ·have jd:guardOf ops o=some (xs i).g:=by
      unfold jb at f;split at f
      ·rename_i A;have:=ah8 f;rw[<-this];exact A
      ·cases f
    have K: (xs i).dst=o.dst:=by
     unfold jb at f;split at f
     ·have:=ah8 f;rw[<-this]
     ·cases f
    have uF:=x0 he jd;simp only[wpOpsIn,ho];rw[uF];rcases m with⟨N,v,yd,A,_,h4⟩| ⟨N,_,h4⟩
    ·rw[ac6 N];refine x5 hC hg f (hd i U) hw he hm A (λanQ oc e G' a' w' q1 q2 q3 q4 q5=>?_) (λanQ oc e=>by cases e);cases e;exact ih _ _ (fD++gY) G' yd E' w' _ q a' Q J (by simpa using O) nZ L qC h4 (Gh.le_trans hle q1) (p.trans q3) (λk T b M=>by
      obtain⟨p1,p2⟩:=I k T b M;exact⟨ah7 p1 q1.n,by rw[q1.pz _ p1];exact p2⟩) q2 q4 q5 hQ
    ·rw[ac0 (by rw[N];simp)];refine⟨λ_ _=>trivial,?_⟩;obtain⟨p1,p2,p3⟩:=qB (a:=a) he (hd i U) (v:=.undef) (v':=undef) xZ;rw[<-K];exact ih _ _ (fD++gY) G E E' w _ q _ Q J (by simpa using O) nZ L qC h4 hle p I hw p1 (by rw[p2,p3];exact hm) hQ
   ·rw[yc]at m;have ye: ∀d',d=some d'->d'<nt:=λd' Ar=>hd i U d' (by rw[yc];exact Ar)
    have CU:kW P rows o=some (.alloc z tg)/\guardOf ops o=some g/\o.dst=d:=by
     unfold jb at f;split at f
     ·rename_i i' g' A h3;simp only[ac1,aQ.mk.injEq]at f;obtain⟨rfl,rfl,rfl⟩:=f;exact⟨A,h3,rfl⟩
     ·cases f
    obtain⟨MX,jd,K⟩:=CU;have uF:=x0 he jd;simp only[wpOpsIn,ho];rw[uF];rcases m with⟨N,v,yd,A,_,h4⟩| ⟨N,_,h4⟩
    ·rw[ac6 N];simp only[exec,ao.get,ac1,Out.ok.injEq]at A;obtain⟨rfl,rfl⟩:=A;obtain⟨p1,p2⟩:=oV i (by simp) _ lW;obtain⟨t,oW,MY,rfl⟩: ∃t,o.op= .alloc t/\iv P t=some z/\tg=rW z t:=GR MX;obtain⟨w',e1,e2,e3⟩:=hw.real p1 p2 MY;refine⟨λ_ _=>trivial,?_⟩;have CV:o.semAt (W r).round a.eval=execOp a.eval o:=by
      apply Oper.semAt_eq;intro c e;rw[oW]at e;cases e
     have CW: (execOp a.eval o).run P w= .ok (.value (.pointer (some ⟨w.heap.size,0,none⟩))) w':=by
      unfold execOp;simp only[oW];rw[Sem.run_bind,e1];rfl
     rw[CV,CW];simp only[Oper.uponIn];have CX:=Gh.GP (b:=w.heap.size) p2;obtain⟨r1,r2,r3⟩:=qB (a:=a) (dst:=d) (he.dQ CX) ye e3;rw[K];exact ih _ _ (fD++gY) _ E E' w' _ q _ Q J (by simpa using O) nZ L qC h4 (Gh.V5 hle p2 (we i _ lW)) p (λk T b M=>by
      obtain⟨p3,p4⟩:=I k T b M;refine⟨p3,?_⟩;have sb:Z k≠Z i:=λe=>MW (by rw[MS i k _ _ lW M e.symm];exact T)
      simp only[Gh.real];rw[ac0 sb];exact p4) e2 r1 (by rw[r2,r3];exact hm.dQ CX) hQ
    ·rw[ac0 (by rw[N];simp)];refine⟨λ_ _=>trivial,?_⟩;obtain⟨p1,p2,p3⟩:=qB (a:=a) (dst:=d) he ye (v:=.undef) (v':=undef) xZ;rw[K];exact ih _ _ (fD++gY) G E E' w _ q _ Q J (by simpa using O) nZ L qC h4 hle p I hw p1 (by rw[p2,p3];exact hm) hQ
theorem anR(J:Region.Mode){ord:lN}(yf:uy J ops ord=true)(sl:Nat->Nat)(al:Nat->Option ae)(Ap: ∀i o,ops[i]?=some o->(al i=none/\jb P rows ops o=some (xs i))\/ ∃z tg g d,al i=some (.box z tg)/\jb P rows ops o=some ⟨g,d,.alloc z tg⟩/\xs i=⟨g,d,.mov (.c (.ptr (sl i) 0))⟩)
  (MS: ∀i j bi bj,al i=some bi->al j=some bj->sl i=sl j->i=j)  {cy:AS} (we: ∀i b,al i=some b->gI.n<=sl i) (hd: ∀i,i<ops.size-> ∀d,(xs i).dst=some d->d<nt) (anO: ∀i o,ops[i]?=some o-> ∀a∈kY o,a<i)
  {f:Nat} (GU:f<ops.size) (MT: ∀i j,i<j->j<f->i∉iw ops 64 j->kq (xs i) (xs j)=true/\ (F i).ok (F j)=true) (MZ: ∀i,i<f->i∈iw ops 64 f) (M3: ∀j,f<j->j<ops.size->f∈iw ops 64 j) {Gw:AV} {V6:AS}:
  ∀ (fuel t:Nat) (listed:Array Bool) (l:lN) (G:Gh) (E E':AS) (w:World) (fr u:Fr) (a:Act) (Q:Exit->Act->World->Prop),
    (∀i,i∈l↔i<f/\listed.getD i true=false)->listed.size=ops.size->(∀j,f<=j->j<ops.size->listed.getD j true=false)->l.Pairwise (· < ·)->(∀j o,ops[j]?=some o->listed.getD j true=true-> ∀a∈kY o,listed.getD a true=true)->l.length<fuel->
    j4 X C xs F l fr E u E'->gH u.env (xs f).g=true->exec X C (xs f).i u.env E'=some (.panic Gw V6)->gI.le G->cy.Ext E->(∀i∈l,∀b,al i=some b->sl i<G.n/\G.pz (sl i)=some b)->aX P B ax G E w->cP G nt fr.env a.tmps->gW di G fr.marks a.defers->(∀e a w,mB P B ax di gI cy nt (.panic Gw,u,V6) e a w->Q e a w)->
    wpOpsIn (W r) n P ops Q (Region.linearise.go J ops fuel t listed []) a w:=by
 intro fuel
 induction fuel with
 |zero=>simp
 |succ fuel ih=>
  intro t listed l G E E' w fr u a Q hl r0 Al hp oT hf hr CY I hle D oV hw he hm hQ;simp only[Region.linearise.go]
  change wpOpsIn (W r) n P ops Q (match(Region.ready J ops listed)[t % (Region.ready J ops listed).length]? with
   |some i=>Region.linearise.go J ops fuel (t/ (Region.ready J ops listed).length) (listed.setIfInBounds i true) [i]
   |none=>[].reverse) a w
  have K: ∀i,i∈Region.ready J ops listed↔(i<ops.size/\listed.getD i true=false)/\ ∀o,ops[i]?=some o-> ∀e∈o.after.toList,Region.binds J e=true->listed.getD e.on false=true:=by
   intro i;simp only[Region.ready,ae2,anc,aeW,aBu];constructor
   ·rintro⟨H,s,h3⟩;refine⟨⟨H,s⟩,λo ho e CZ T=>?_⟩;rw[ho]at h3;simp only[aeM,aj3,apI]at h3;have:=h3 e (by simpa using CZ);rw[T]at this;simpa using this
   ·rintro⟨⟨H,s⟩,h3⟩;refine⟨H,s,?_⟩;obtain⟨o,ho⟩: ∃o,ops[i]?=some o:=⟨ops[i],by simp[H]⟩;rw[ho];simp only[aeM,aj3,apI];intro e CZ;by_cases T:Region.binds J e=true
    ·rw[h3 o ho e (by simpa using CZ) T];simp
    ·simp at T;simp[T]
  have anS: ∀a,listed.getD a false=true->listed.getD a true=true:=by
   intro a h;simp only[ae3]at h⊢;cases h':listed[a]? with
   |none=>rw[h']at h;cases h
   |some b=>rw[h']at h;exact h
  cases hi: (Region.ready J ops listed)[t % (Region.ready J ops listed).length]? with
  |none=>
   have CR:Region.ready J ops listed=[]:=by
    cases r8:Region.ready J ops listed with
    |nil=>rfl
    |cons x ys=>
     rw[r8]at hi;have xW:t % (x::ys).length< (x::ys).length:=anr _ (by simp);rw[ac7 xW]at hi;cases hi
   exfalso;simp only[uy,aeW]at yf;obtain⟨x,m,o,ho,uD⟩:=MR (S:=λa=>listed.getD a false=true) (l:=(List.range ops.size).filter λi=>listed.getD i true==false) (λx m qE=>by
    cases r9:listed.getD x true with
    |true=>
     simp only[ae3,axo (show x<listed.size by omega),aj3]at r9⊢;exact r9
    |false=>exact absurd (ae2.2 ⟨anc.2 m,by simpa using r9⟩) qE) ord [] yf.2 (by simp) ⟨f,by
     have:=aeT.1 yf.1 f (by simpa using GU);simpa using this,ae2.2 ⟨anc.2 GU,by simpa using Al f (adA _) GU⟩⟩
   have CU:x<ops.size/\listed.getD x true=false:=by simpa using ae2.1 m
   have:x∈Region.ready J ops listed:=(K x).2 ⟨CU,λo' q e CZ T=>by rw[ho]at q;cases q;exact uD e CZ T⟩;rw[CR]at this;cases this
  |some i=>
   simp only;rw[linearise_go_acc,List.reverse_singleton,List.singleton_append];have MU:=amF hi;obtain⟨sa,MV⟩:=(K i).1 MU;have Aq: ∀o,ops[i]?=some o-> ∀a∈kY o,listed.getD a true=true:=by
    intro o ho a ha;simp only[kY,aeO,ae2]at ha;obtain⟨e,⟨e1,e2⟩,rfl⟩:=ha;exact anS _ (MV o ho e e1 (V4 e2))
   have V:=sa.1;obtain⟨o,ho⟩: ∃o,ops[i]?=some o:=⟨ops[i],by simp[V]⟩;have U: ∀x∈iw ops 64 i,listed.getD x true=true:=MQ (S:=λa=>listed.getD a true=true) (λj hj o' q a ha=>oT j o' q hj a ha) 64 i o ho (Aq o ho);by_cases GV: ¬i<f
   ·have anT:i=f:=by
      refine af8 λsb=>?_
      have:=U _ (M3 i (by omega) V);rw[Al f (adA _) GU]at this;cases this
    subst anT;have CR:l=[]:=by
     cases l with
     |nil=>rfl
     |cons x l=>
      obtain⟨q1,q2⟩:=(hl x).1 (by simp);have:=U _ (MZ x q1);rw[q2]at this;cases this
    subst CR;obtain⟨rfl,rfl⟩:=hr;rcases Ap i o ho with⟨Y,m⟩| ⟨z,tg,g,d,Y,m,yc⟩
    ·have jd:guardOf ops o=some (xs i).g:=by
       unfold jb at m;split at m
       ·rename_i s;have:=ah8 m;rw[<-this];exact s
       ·cases m
     have uF:=x0 he jd;simp only[wpOpsIn,ho];rw[uF,ac6 CY];exact x5 hC hg m (hd i V) hw he hm I (λZ oc e=>by cases e) (λZ oc e e' a' w' h=>by cases e;exact hQ _ _ _ (h.trans hle D))
    ·rw[yc]at I;simp[exec]at I
   have GV:i<f:=Decidable.byContradiction GV;have sa:i∈l:=(hl i).2 ⟨GV,sa.2⟩;obtain⟨fD,gY,rfl⟩:=avT sa;have A:=aoS.1 hp;have p:=MN fD fr u E E' (λx m=>by
    have qE:=(hl x).1 (by simp[m]);refine MT x i (A.2.2 x m i (by simp)) GV (λU=>?_);have:=MQ (S:=λa=>listed.getD a true=true) (λj hj o' q a ha=>oT j o' q hj a ha) 64 i o ho (Aq o ho) x U;rw[qE.2]at this;cases this) hr
   rw[j4]at p;have M: ∀k,k∈fD++gY↔k<f/\ (listed.setIfInBounds i true).getD k true=false:=by
    intro k;have hk:=hl k;have GS: ∀x∈fD++gY,x≠i:=by
     intro x m e;subst e;rcases adB.1 m with h|h
     ·have:=A.2.2 x h x (by simp);omega
     ·have:=(amI.1 A.2.1).1 x h;omega
    simp only[ae3,amE]at hk⊢;constructor
    ·intro h;have sb:=GS k h;have:=hk.1 (by simp only[adB,aeZ]at h⊢;rcases h with h|h;exact .inl h;exact .inr (.inr h));rw[ac0 (λe=>sb e.symm)];exact this
    ·rintro⟨H,s⟩;by_cases yb:i=k
     ·subst yb;rw[ac6 rfl,ac6 (by omega)]at s;simp at s
     ·rw[ac0 yb]at s;have:=hk.2 ⟨H,s⟩;simp only[adB,aeZ]at this⊢;rcases this with h|h|h
      ·exact .inl h
      ·exact absurd h.symm yb
      ·exact .inr h
   have nZ: (fD++gY).Pairwise (· < ·):=aoS.2 ⟨A.1,(amI.1 A.2.1).2,λx m y hy=>A.2.2 x m y (by simp[hy])⟩;have R: ∀j o,ops[j]?=some o->(listed.setIfInBounds i true).getD j true=true-> ∀a∈kY o,(listed.setIfInBounds i true).getD a true=true:=by
    intro j o' q hj a ha;have key:listed.getD a true=true->(listed.setIfInBounds i true).getD a true=true:=by
     intro h;simp only[ae3,amE]at h⊢;split
     ·split<;>rfl
     ·exact h
    apply key;by_cases CT:i=j
    ·subst CT;rw[ho]at q;cases q;exact Aq _ ho a ha
    ·refine oT j o' q ?_ a ha;simp only[ae3,amE]at hj⊢;rw[ac0 CT]at hj;exact hj
   have qC: (fD++gY).length<fuel:=by simp at hf⊢;omega
   have N: ∀j,f<=j->j<ops.size->(listed.setIfInBounds i true).getD j true=false:=by
    intro j H s;have:=Al j H s;simp only[ae3,amE]at this⊢;rw[ac0 (by omega)];exact this
   have MW:i∉fD++gY:=λhm=>by
    rcases adB.1 hm with h|h
    ·have:=A.2.2 i h i (by simp);omega
    ·have:=(amI.1 A.2.1).1 i h;omega
   have L: ∀k∈fD++gY,∀b,al k=some b->sl k<G.n/\G.pz (sl k)=some b:=λk hk b T=>oV k (by
    simp only[adB,aeZ]at hk⊢;rcases hk with h|h
    ·exact .inl h
    ·exact .inr (.inr h)) b T
   rcases Ap i o ho with⟨Y,m⟩| ⟨z,tg,g,d,Y,m,yc⟩
   ·have jd:guardOf ops o=some (xs i).g:=by
      unfold jb at m;split at m
      ·rename_i s;have:=ah8 m;rw[<-this];exact s
      ·cases m
    have O: (xs i).dst=o.dst:=by
     unfold jb at m;split at m
     ·have:=ah8 m;rw[<-this]
     ·cases m
    have uF:=x0 he jd;simp only[wpOpsIn,ho];rw[uF];rcases p with⟨H,v,yd,s,_,h4⟩| ⟨H,_,h4⟩
    ·rw[ac6 H];refine x5 hC hg m (hd i V) hw he hm s (λZ oc e G' a' w' q1 q2 q3 q4 q5=>?_) (λZ oc e=>by cases e);cases e;exact ih _ _ (fD++gY) G' yd E' w' _ u a' Q M (by simpa using r0) N nZ R qC h4 CY I (Gh.le_trans hle q1) (D.trans q3) (λk hk b T=>by
      obtain⟨p1,p2⟩:=L k hk b T;exact⟨ah7 p1 q1.n,by rw[q1.pz _ p1];exact p2⟩) q2 q4 q5 hQ
    ·rw[ac0 (by rw[H];simp)];refine⟨λ_ _=>trivial,?_⟩;obtain⟨p1,p2,p3⟩:=qB (a:=a) he (hd i V) (v:=.undef) (v':=undef) xZ;rw[<-O];exact ih _ _ (fD++gY) G E E' w _ u _ Q M (by simpa using r0) N nZ R qC h4 CY I hle D L hw p1 (by rw[p2,p3];exact hm) hQ
   ·rw[yc]at p;have ye: ∀d',d=some d'->d'<nt:=λd' Ar=>hd i V d' (by rw[yc];exact Ar)
    have CU:kW P rows o=some (.alloc z tg)/\guardOf ops o=some g/\o.dst=d:=by
     unfold jb at m;split at m
     ·rename_i i' g' s h3;simp only[ac1,aQ.mk.injEq]at m;obtain⟨rfl,rfl,rfl⟩:=m;exact⟨s,h3,rfl⟩
     ·cases m
    obtain⟨MX,jd,O⟩:=CU;have uF:=x0 he jd;simp only[wpOpsIn,ho];rw[uF];rcases p with⟨H,v,yd,s,_,h4⟩| ⟨H,_,h4⟩
    ·rw[ac6 H];simp only[exec,ao.get,ac1,Out.ok.injEq]at s;obtain⟨rfl,rfl⟩:=s;obtain⟨p1,p2⟩:=oV i (by simp) _ Y;obtain⟨t,oW,MY,rfl⟩: ∃t,o.op= .alloc t/\iv P t=some z/\tg=rW z t:=GR MX;obtain⟨w',e1,e2,e3⟩:=hw.real p1 p2 MY;refine⟨λ_ _=>trivial,?_⟩;have CV:o.semAt (W r).round a.eval=execOp a.eval o:=by
      apply Oper.semAt_eq;intro c e;rw[oW]at e;cases e
     have CW: (execOp a.eval o).run P w= .ok (.value (.pointer (some ⟨w.heap.size,0,none⟩))) w':=by
      unfold execOp;simp only[oW];rw[Sem.run_bind,e1];rfl
     rw[CV,CW];simp only[Oper.uponIn];have CX:=Gh.GP (b:=w.heap.size) p2;obtain⟨r1,r2,r3⟩:=qB (a:=a) (dst:=d) (he.dQ CX) ye e3;rw[O];exact ih _ _ (fD++gY) _ E E' w' _ u _ Q M (by simpa using r0) N nZ R qC h4 CY I (Gh.V5 hle p2 (we i _ Y)) D (λk hk b T=>by
      obtain⟨p3,p4⟩:=L k hk b T;refine⟨p3,?_⟩;have sb:sl k≠sl i:=λe=>MW (by rw[MS i k _ _ Y T e.symm];exact hk)
      simp only[Gh.real];rw[ac0 sb];exact p4) e2 r1 (by rw[r2,r3];exact hm.dQ CX) hQ
    ·rw[ac0 (by rw[H];simp)];refine⟨λ_ _=>trivial,?_⟩;obtain⟨p1,p2,p3⟩:=qB (a:=a) (dst:=d) he ye (v:=.undef) (v':=undef) xZ;rw[O];exact ih _ _ (fD++gY) G E E' w _ u _ Q M (by simpa using r0) N nZ R qC h4 CY I hle D L hw p1 (by rw[p2,p3];exact hm) hQ
end
end
section
variable{P:Program}{X:Ctx}{B:Nat}{ax:World}{di:List Deferred}
def C0{x:aQ}{b:ae}(h:x.gd=some b): ∃z tg,x.i= .alloc z tg/\b= .box z tg:=by
 unfold aQ.gd at h
 grind
def As{x:aQ}(h:x.gd=none):lR m x=x:=by unfold lR;rw[h]
def Au{x:aQ}{b:ae}(h:x.gd=some b):lR m x={x with i:=.mov (.c (.ptr m 0))}:=by unfold lR;rw[h]
def GW{x:aQ}: (lR m x).dst=x.dst:=by
 cases h:x.gd with
 |none=>rw[As h]
 |some b=>rw[Au h]
def V7{x:aQ}: (lR m x).reads=x.reads:=by
 cases h:x.gd with
 |none=>rw[As h]
 |some b=>
  rw[Au h];obtain⟨z,tg,a,_⟩:=C0 h;unfold aQ.reads;rw[a];rfl
theorem C2: ∀ (ys:List (aQ×lN)) (n q:Nat),(iG n ys)[q]?=(ys[q]?).map λy=>(lR (n+(dP (ys.take q)).length) y.1,y.2)
 | [],n,q=>by rfl
 |o::os,n,0=>by rfl
 |o::os,n,q+1=>by
  simp only[iG,azw,apM];rw[C2 os];cases h:o.1.gd with
  |none=>simp[dP,h]
  |some b=>
   simp only[dP,h,aeV]
   grind
theorem M4: ∀ (ys:List (aQ×lN)) (n:Nat),(iG n ys).length=ys.length
 | [],_=>rfl
 |o::os,n=>by simp[iG,M4 os]
theorem M5: ∀ (ys:List (aQ×lN)) (q:Nat) (y:aQ×lN) (b:ae),ys[q]?=some y->y.1.gd=some b->(dP ys)[(dP (ys.take q)).length]?=some b
 | [],q,y,b,h,_=>by grind
 |o::os,0,y,b,h,a=>by
  simp at h;subst h;simp[dP,a]
 |o::os,q+1,y,b,h,a=>by
  have c:=M5 os q y b (by grind) a;simp only[apM,dP]
  grind
theorem C3: ∀ (ys:List (aQ×lN)) (i j:Nat) (y:aQ×lN) (b:ae),ys[i]?=some y->y.1.gd=some b->i<j->(dP (ys.take i)).length< (dP (ys.take j)).length
 | [],i,j,y,b,h,_,_=>by grind
 |o::os,0,j+1,y,b,h,a,_=>by
  simp at h;subst h;simp[dP,a]
 |o::os,i+1,j+1,y,b,h,a,c=>by
  have d:=C3 os i j y b (by grind) a (by omega);simp only[apM,dP]
  grind
 |o::os,_,0,y,b,h,a,c=>by omega
theorem GX: ∀ (ys:List (aQ×lN)) (b:ae),b∈dP ys-> ∃y∈ys,y.1.gd=some b
 | [],b,h=>by trivial
 |o::os,b,h=>by
  simp only[dP]at h;cases ho:o.1.gd with
  |none=>
   rw[ho]at h;obtain⟨y,c,a⟩:=GX os b h
   grind
  |some d=>
   rw[ho]at h;rcases aeZ.1 h with rfl|h
   ·grind
   ·obtain⟨y,c,a⟩:=GX os b h
    grind
def M6(hg:fP X B ax):Am P X B ax:=by
 intro di C hC rows r n nt id ops u ys Ap hd O G E w fr a res Q hw he hm hr hQ;obtain⟨M7,Z⟩:=VY Ap;have V8:u.length=ops.size:=by omega
 unfold Mc at O;simp only at O;split at O
 ·rename_i V9;simp only[aeW]at V9;obtain⟨⟨⟨⟨Wa,Wb⟩,Wc⟩,Wd⟩,Y⟩:=V9;simp only[ac1]at O
  let g:Nat->aQ:=λi=>u.getD i default
  have s: ∀i,i<u.length->u[i]?=some (g i):=λi H=>by
   simp only[g,aeN,ac7 H,aj3]
  have C4: ∀i,¬i<u.length->(g i).gd=none:=λi H=>by
   simp only[g,aeN,akh (Nat.le_of_not_lt H),azN];rfl
  let sl:Nat->Nat:=λi=>E.heap.length+(dP (ys.take i)).length
  let xs:Nat->aQ:=λi=>lR (sl i) (g i)
  have GY:ys.length=u.length:=by rw[<-O];simp
  have I: ∀q y,ys[q]?=some y->y.1=g q:=by
   intro q y S;rw[<-O]at S;simp only[agp,aA6,aeL]at S;obtain⟨p,⟨z,hz,rfl⟩,rfl⟩:=S;have K:q<u.length:=(ack.1 hz).1;have:=s q K;rw[hz]at this;simpa using this
  have Av: ∀q,q<u.length-> ∃L,ys[q]?=some (g q,L):=λq S=>by
   have:q<ys.length:=by omega
   refine⟨(ys[q]).2,?_⟩;have e:=ac7 this;rw[e];have:=I q _ e;rw[<-this]
  by_cases hn:res.1= .normal
  ·obtain⟨F,f1,f2,f3,f4⟩:=MO (xs:=xs) (iG E.heap.length ys) [] fr _ res (λq y S=>by
     rw[C2]at S;obtain⟨y',R,rfl⟩:=aeL.1 S;have:=I q y' R;simp only[anu,aka,xs,sl,<-this]) hr hn
   have M8: (List.range (iG E.heap.length ys).length).map (([]:List FP).length+ ·)=List.range ops.size:=by
    rw[M4,GY,V8];simp
   rw[M8]at f3;obtain⟨ex,GH,E'⟩:=res;simp only at f2 f3;subst f2;have V: ∀i o,ops[i]?=some o-> ∀a∈kY o,a<i:=by
    intro i o ho a ha;have H:i<ops.size:=(amV.1 ho).1;have:=aeT.1 Wd i (by simp;omega);rw[ho]at this;simpa using aeT.1 this a ha
   have T: ∀i j,i<j->j<ops.size->i∉iw ops 64 j->kq (xs i) (xs j)=true/\ (F i).ok (F j)=true:=by
    intro i j A D c;have H:i<ops.size:=by omega
    have hb: (((List.range u.length).map λi=>(iw ops 64 i).eraseDups).getD j []).contains i=false:=by
     simp only[aeN,agp,apl (show j<u.length by omega),aeM,aj3];cases h: (iw ops 64 j).eraseDups.contains i with
     |false=>rfl
     |true=>
      rw[avX,List.mem_eraseDups]at h;exact absurd h c
    have R:=aeT.1 Y (g i,i) (by rw[anq];exact s i (by omega));have W:=aeT.1 R (g j,j) (by rw[anq];exact s j (by omega));simp only[ge_iff_le,ao0,ae1]at W;refine⟨?_,?_⟩
    ·have sc:kq (xs i) (xs j)=kq (g i) (g j):=by
       unfold kq;simp only[xs,GW,V7]
     rw[sc];rcases W with(h|h)|h
     ·omega
     ·rw[hb]at h;cases h
     ·exact h
    ·by_cases ci: (xs i).i.cls=0
     ·rw[x9 ci _ _ _ _ _ (by simp;omega) f3];exact VW _
     ·by_cases cj: (xs j).i.cls=0
      ·rw[x9 cj _ _ _ _ _ (by simp;omega) f3];exact VX _
      ·have same: ∀k,(xs k).i.cls≠0->xs k=g k:=by
         intro k hk;cases v: (g k).gd with
         |none=>exact As v
         |some b=>exact absurd (by show(lR (sl k) (g k)).i.cls=0;rw[Au v];rfl) hk
       have ei:=same i ci;have ej:=same j cj;have M9:ys[j]?=some (g j,rX u.zipIdx ((List.range u.length).map λi=>(iw ops 64 i).eraseDups) (g j) j):=by
        rw[<-O];simp only[agp,aA6,s j (by omega),aeM,aka]
       have N: (iG E.heap.length ys)[j]?=some (xs j,rX u.zipIdx ((List.range u.length).map λi=>(iw ops 64 i).eraseDups) (g j) j):=by
        rw[C2,M9];rfl
       have:=f4 j _ N i (by
        rw[ej]at cj;rw[ei]at ci;exact Mb (x:=g i) (by rw[anq];exact s i (by omega)) A ci cj hb) (by simpa using A)
       simpa using this
   refine wpIn_region_draw (λt=>?_);have J: ∃md ord t',Region.schedule (P.follows .mixedOrders) ops t=Region.linearise md ops t'/\uy md ops ord=true:=by
    unfold Region.schedule;split
    ·exact⟨.any,_,t,rfl,Wa⟩
    ·split
     ·exact⟨.text,_,_,rfl,Wb⟩
     ·exact⟨.gc,_,_,rfl,Wc⟩
   obtain⟨md,ord,t',J,yf⟩:=J;rw[J];unfold Region.linearise;have Na: ∀o∈dP ys,∃z tg,o= .box z tg/\aL z=0:=by
    intro o ho;obtain⟨y,R,W⟩:=GX ys o ho;obtain⟨z,tg,M,rfl⟩:=C0 W;refine⟨z,tg,rfl,?_⟩;obtain⟨q,S⟩:=awA R;have K:q<ops.size:=by
     have:=(ack.1 S).1;omega
    obtain⟨x,e1,e2⟩:=Z q ops[q] (by simp[K]);have e3:=s q (by omega);rw[e1]at e3;rw[I q y S]at M;rw[ah8 e3]at e2;have:kW P rows ops[q]=some (.alloc z tg):=by
     unfold jb at e2;split at e2
     ·rename_i i' g' h4 h5;rw[<-ah8 e2]at M;simp only at M;rw[h4,M]
     ·cases e2
    obtain⟨t,_,hc,_⟩:=GR this;obtain⟨z',_,_,l,_⟩:=rZ hc (Gh.mk (λ_ _=>none) 0 (λi=>i) (λi=>i) (λi=>i) (λi=>i) (λi=>i) (λ_=>none)) w;have:=aG.refs _ _ l;simpa using this
   refine go_sound hC hg (xs:=xs) (F:=F) (rows:=rows) (nt:=nt) md yf sl (λi=>(g i).gd) (λi o ho=>?_) (λi j bi bj H D A=>?_) (gI:=G) (cy:=E) (λi b H=>?_) (λi H d yg=>hd (g i) (amF (s i (by omega))) d (by rw[<-GW (m:=sl i)];exact yg)) V T ops.size t' _ (List.range ops.size) (G.later (dP ys)) (E.my (dP ys)) E' _ fr GH a Q
    (λi=>?_) (by simp) List.pairwise_lt_range (λj o ho D=>?_) (by simp) f3 (G.ya _) (.my E _) (λi H b hb=>?_) (hw.later Na).drew (he.mono (G.ya _)) (hm.mono (G.ya _)) hQ
   ·obtain⟨x,R,W⟩:=Z i o (by simpa using ho);have M:=s i (ack.1 R).1;rw[R]at M;have M:=ah8 M;subst M;cases v: (g i).gd with
    |none=>exact .inl ⟨rfl,by rw[W];show _=some (lR (sl i) (g i));rw[As v]⟩
    |some b=>
     obtain⟨z,tg,h4,rfl⟩:=C0 v;refine .inr ⟨z,tg,(g i).g,(g i).dst,rfl,?_,?_⟩
     ·rw[W,<-h4]
     ·show lR (sl i) (g i)=_;rw[Au v]
   ·have Nb:i<u.length:=by
      by_cases h:i<u.length
      ·exact h
      ·have:=C4 i h;rw[this]at H;cases H
    have Nc:j<u.length:=by
     by_cases h:j<u.length
     ·exact h
     ·have:=C4 j h;rw[this]at D;cases D
    obtain⟨Li,ei⟩:=Av i Nb;obtain⟨Lj,ej⟩:=Av j Nc;have anU: (dP (ys.take i)).length=(dP (ys.take j)).length:=by
     have:E.heap.length+(dP (ys.take i)).length=E.heap.length+(dP (ys.take j)).length:=A;omega
    rcases aBk i j with h|h|h
    ·have:=C3 ys i j _ bi ei H h;omega
    ·exact h
    ·have:=C3 ys j i _ bj ej D h;omega
   ·show G.n<=E.heap.length+_;rw[hw.len];omega
   ·simp only[anc,ae3,azv];constructor
    ·intro h;exact⟨h,by simp[h]⟩
    ·exactλh=>h.1
   ·exfalso;have K:j<ops.size:=(amV.1 ho).1;simp[ae3,K]at D
   ·have K:i<ops.size:=by simpa using H
    obtain⟨L,e⟩:=Av i (by omega);have C5:=M5 ys i _ b e hb;have Aw:=(ack.1 C5).1;have hn:=hw.len;refine⟨by show E.heap.length+_<G.n+_;omega,?_⟩;show(if E.heap.length+_<G.n then _ else _)=some b;rw[ac0 (by omega),hn,akb];exact C5
  ·obtain⟨F,f,Gw,yd,aAT,f1,q1,f2,f3,f5,f6,f4,f8,f9,f10,f11⟩:=VV (xs:=xs) (iG E.heap.length ys) [] fr _ res (λq y S=>by
     rw[C2]at S;obtain⟨y',R,rfl⟩:=aeL.1 S;have:=I q y' R;simp only[anu,aka,xs,sl,<-this]) hr hn
   have M8: (List.range f).map (([]:List FP).length+ ·)=List.range f:=by simp
   rw[M8]at f3;obtain⟨ex,GH,E'⟩:=res;simp only[anu,aka]at f2 f3 f5 f6 f10 f11;subst f2;have U:f<ops.size:=by
    have:=(ack.1 q1).1;rw[M4,GY,V8]at this;exact this
   have V: ∀i o,ops[i]?=some o-> ∀a∈kY o,a<i:=by
    intro i o ho a ha;have H:i<ops.size:=(amV.1 ho).1;have:=aeT.1 Wd i (by simp;omega);rw[ho]at this;simpa using aeT.1 this a ha
   have Nd: ∀i j,j<ops.size->i∉iw ops 64 j->(((List.range u.length).map λi=>(iw ops 64 i).eraseDups).getD j []).contains i=false:=by
    intro i j D c;simp only[aeN,agp,apl (show j<u.length by omega),aeM,aj3];cases h: (iw ops 64 j).eraseDups.contains i with
    |false=>rfl
    |true=>
     rw[avX,List.mem_eraseDups]at h;exact absurd h c
   have sc: ∀i j,i<j->j<ops.size->i∉iw ops 64 j->kq (xs i) (xs j)=true:=by
    intro i j A D c;have hb:=Nd i j D c;have R:=aeT.1 Y (g i,i) (by rw[anq];exact s i (by omega));have W:=aeT.1 R (g j,j) (by rw[anq];exact s j (by omega));simp only[ge_iff_le,ao0,ae1]at W;have sc:kq (xs i) (xs j)=kq (g i) (g j):=by
     unfold kq;simp only[xs,GW,V7]
    rw[sc];rcases W with(h|h)|h
    ·omega
    ·rw[hb]at h;cases h
    ·exact h
   have same: ∀k,(xs k).i.cls≠0->xs k=g k:=by
    intro k hk;cases v: (g k).gd with
    |none=>exact As v
    |some b=>exact absurd (by show(lR (sl k) (g k)).i.cls=0;rw[Au v];rfl) hk
   have N: ∀j,j<ops.size->(iG E.heap.length ys)[j]?=some (xs j,rX u.zipIdx ((List.range u.length).map λi=>(iw ops 64 i).eraseDups) (g j) j):=by
    intro j D;have M9:ys[j]?=some (g j,rX u.zipIdx ((List.range u.length).map λi=>(iw ops 64 i).eraseDups) (g j) j):=by
     rw[<-O];simp only[agp,aA6,s j (by omega),aeM,aka]
    rw[C2,M9];rfl
   have Nf: ∀i j,i<j->j<ops.size->i∉iw ops 64 j->(xs i).i.cls≠0->(xs j).i.cls≠0->i∈rX u.zipIdx ((List.range u.length).map λi=>(iw ops 64 i).eraseDups) (g j) j:=by
    intro i j A D c ci cj;have hb:=Nd i j D c;rw[same i ci]at ci;rw[same j cj]at cj;exact Mb (x:=g i) (by rw[anq];exact s i (by omega)) A ci cj hb
   have C6:=N f U;rw[q1]at C6;have C6:=ah8 C6;subst C6;have T: ∀i j,i<j->j<f->i∉iw ops 64 j->kq (xs i) (xs j)=true/\ (F i).ok (F j)=true:=by
    intro i j A D c;refine⟨sc i j A (by omega) c,?_⟩;by_cases ci: (xs i).i.cls=0
    ·rw[x9 ci _ _ _ _ _ (by simp;omega) f3];exact VW _
    ·by_cases cj: (xs j).i.cls=0
     ·rw[x9 cj _ _ _ _ _ (by simp;omega) f3];exact VX _
     ·have:=f4 j _ D (N j (by omega)) i (Nf i j A (by omega) c ci cj) (by simpa using A);simpa using this
   have MZ: ∀i,i<f->i∈iw ops 64 f:=by
    intro i H;refine af8 λc=>?_
    simp only at f8 f9 f10;rcases f10 with f10|f10
    ·rw[same f f9]at f10;exact alH (x:=g i) (by rw[anq];exact s i (by omega)) H f10 (Nd i f U c) f8
    ·have ci: (xs i).i.cls≠0:=λci=>f10 i H (x9 ci _ _ _ _ _ (by simp;omega) f3)
     have:=Nf i f H U c ci f9;rw[f8]at this;cases this
   have M3: ∀j,f<j->j<ops.size->f∈iw ops 64 j:=by
    intro j D Ng;refine af8 λc=>?_
    have yh:=f11 j _ D (N j Ng);simp only at yh;split at yh
    ·rw[sc f j D Ng c]at yh;cases yh
    ·rename_i cj;exact yh (Nf f j D Ng c f9 cj)
   refine wpIn_region_draw (λt=>?_);have J: ∃md ord t',Region.schedule (P.follows .mixedOrders) ops t=Region.linearise md ops t'/\uy md ops ord=true:=by
    unfold Region.schedule;split
    ·exact⟨.any,_,t,rfl,Wa⟩
    ·split
     ·exact⟨.text,_,_,rfl,Wb⟩
     ·exact⟨.gc,_,_,rfl,Wc⟩
   obtain⟨md,ord,t',J,yf⟩:=J;rw[J];unfold Region.linearise;have Na: ∀o∈dP ys,∃z tg,o= .box z tg/\aL z=0:=by
    intro o ho;obtain⟨y,R,W⟩:=GX ys o ho;obtain⟨z,tg,M,rfl⟩:=C0 W;refine⟨z,tg,rfl,?_⟩;obtain⟨q,S⟩:=awA R;have K:q<ops.size:=by
     have:=(ack.1 S).1;omega
    obtain⟨x,e1,e2⟩:=Z q ops[q] (by simp[K]);have e3:=s q (by omega);rw[e1]at e3;rw[I q y S]at M;rw[ah8 e3]at e2;have:kW P rows ops[q]=some (.alloc z tg):=by
     unfold jb at e2;split at e2
     ·rename_i i' g' h4 h5;rw[<-ah8 e2]at M;simp only at M;rw[h4,M]
     ·cases e2
    obtain⟨t,_,hc,_⟩:=GR this;obtain⟨z',_,_,l,_⟩:=rZ hc (Gh.mk (λ_ _=>none) 0 (λi=>i) (λi=>i) (λi=>i) (λi=>i) (λi=>i) (λ_=>none)) w;have:=aG.refs _ _ l;simpa using this
   refine anR hC hg (xs:=xs) (F:=F) (rows:=rows) (nt:=nt) md yf sl (λi=>(g i).gd) (λi o ho=>?_) (λi j bi bj H D A=>?_) (gI:=G) (cy:=E) (λi b H=>?_) (λi H d yg=>hd (g i) (amF (s i (by omega))) d (by rw[<-GW (m:=sl i)];exact yg)) V U T MZ M3 ops.size t' _ (List.range f) (G.later (dP ys)) (E.my (dP ys)) yd _ fr GH a Q
    (λi=>?_) (by simp) (λj _ D=>by simp[D]) List.pairwise_lt_range (λj o ho D=>?_) (by simpa using U) f3 f5 f6 (G.ya _) (.my E _) (λi H b hb=>?_) (hw.later Na).drew (he.mono (G.ya _)) (hm.mono (G.ya _)) hQ
   ·obtain⟨x,R,W⟩:=Z i o (by simpa using ho);have M:=s i (ack.1 R).1;rw[R]at M;have M:=ah8 M;subst M;cases v: (g i).gd with
    |none=>exact .inl ⟨rfl,by rw[W];show _=some (lR (sl i) (g i));rw[As v]⟩
    |some b=>
     obtain⟨z,tg,h4,rfl⟩:=C0 v;refine .inr ⟨z,tg,(g i).g,(g i).dst,rfl,?_,?_⟩
     ·rw[W,<-h4]
     ·show lR (sl i) (g i)=_;rw[Au v]
   ·have Nb:i<u.length:=by
      by_cases h:i<u.length
      ·exact h
      ·have:=C4 i h;rw[this]at H;cases H
    have Nc:j<u.length:=by
     by_cases h:j<u.length
     ·exact h
     ·have:=C4 j h;rw[this]at D;cases D
    obtain⟨Li,ei⟩:=Av i Nb;obtain⟨Lj,ej⟩:=Av j Nc;have anU: (dP (ys.take i)).length=(dP (ys.take j)).length:=by
     have:E.heap.length+(dP (ys.take i)).length=E.heap.length+(dP (ys.take j)).length:=A;omega
    rcases aBk i j with h|h|h
    ·have:=C3 ys i j _ bi ei H h;omega
    ·exact h
    ·have:=C3 ys j i _ bj ej D h;omega
   ·show G.n<=E.heap.length+_;rw[hw.len];omega
   ·simp only[anc,ae3,azv];constructor
    ·intro h;exact⟨h,by simp[Nat.lt_trans h U]⟩
    ·exactλh=>h.1
   ·exfalso;have K:j<ops.size:=(amV.1 ho).1;simp[ae3,K]at D
   ·have K:i<ops.size:=Nat.lt_trans (by simpa using H) U;obtain⟨L,e⟩:=Av i (by omega);have C5:=M5 ys i _ b e hb;have Aw:=(ack.1 C5).1;have hn:=hw.len;refine⟨by show E.heap.length+_<G.n+_;omega,?_⟩;show(if E.heap.length+_<G.n then _ else _)=some b;rw[ac0 (by omega),hn,akb];exact C5
 grind
def anV(n:Nat):x6 (iter n):=λ_ _ _ _ h=>⟨n,h⟩
theorem We(a:fP X B ax)(b:oU P X)(c: ∀f p,X.cg f=some p->gX P B ax f p): ∀n,fR P B ax (ja X n)
 |0=>by intro fv args E d h;simp[ja]at h
 |n+1=>anD (We a b c n) a b (M6 a) (anV n) c
end
section
variable{P:Program}{X:Ctx}{B:Nat}{ax:World}
def Gh.start(w:World):Gh where
 bG b o:=if b<w.heap.size then w.cell? ⟨b,o,none⟩else none
 n:=0
 bb:=id
 base:=id
 ak:=id
 ez:=id
 sz:=id
theorem aX.start(w:World):aX P w.heap.size w (Gh.start w) {heap:=[],lo:=none} w where
 len:=rfl
 bG b o v h:=by
  simp only[Gh.start]at h
  grind
 obj id o h:=by grind
 inj i j a:=absurd a.1 (ao4 _)
 sep i a:=absurd a.1 (ao4 _)
 low i a:=absurd a.1 (ao4 _)
 lU i o a:=absurd a (ao4 _)
 lT:=⟨rfl,rfl,rfl,adA _,λ_ _=>rfl⟩
 hB:=adA _
 dW b o v c h:=by simp only[Gh.start];grind
end
section
variable{P:Program}{X:Ctx}{B:Nat}{ax:World}
def bJ.le(C a:bJ):Prop:= ∀f args E r,C f args E=some r->a f args E=some r
def qF(b a:Fr->AS->jM):Prop:= ∀fr E r,b fr E=some r->a fr E=some r
def eJ.le(L c:eJ):Prop:= ∀b a,qF b a->qF (L b) (c a)
theorem Ax{C c:bJ}(b:bJ.le C c)(i:I)(e:Env)(E:AS)(r:Out)(h:exec X C i e E=some r):exec X c i e E=some r:=by
 cases i with
 |call f args=>
  simp only[exec]at h⊢;split at h
  ·rename_i a;rw[b _ _ _ _ a];exact h
  ·rename_i a;rw[b _ _ _ _ a];exact h
  grind
 |_=>simpa only[exec]using h
theorem GZ{C b:bJ}(a:bJ.le C b): ∀ (os:List aQ),qF (fg X C os) (fg X b os)
 | [],_,_,_,h=>by trivial
 |o::os,fr,E,r,h=>by
  simp only[fg]at h⊢;split at h
  ·rename_i hw;rw[ac6 hw];split at h
   ·rename_i c;rw[Ax a _ _ _ _ c];exact GZ a os _ _ _ h
   ·grind [Ax]
   grind
  ·rename_i hw;rw[ac0 hw];exact GZ a os _ _ _ h
theorem G4{C c:bJ}(b:bJ.le C c): ∀ (os:List (aQ×lN)) (a:List FP),qF (gV X C a os) (gV X c a os)
 | [],_,_,_,_,h=>by trivial
 |o::os,a,fr,E,r,h=>by
  simp only[gV]at h⊢;split at h
  ·rename_i hw;rw[ac6 hw];split at h
   ·rename_i d;rw[Ax b _ _ _ _ d];simp only;split at h
    ·rename_i e;rw[ac6 e];exact G4 b os _ _ _ _ h
    grind
   ·grind [Ax]
   grind
  ·rename_i hw;rw[ac0 hw];exact G4 b os _ _ _ _ h
theorem qG{C m:bJ}{L l:eJ}(d:bJ.le C m)(e:eJ.le L l)(bU:FuncId)(rd:Bool): ∀pc,qF (bf X C L bU rd pc) (bf X m l bU rd pc)
 |.skip,_,_,_,h=>by trivial
 |.seq a b,fr,E,r,h=>by
  simp only[bf]at h⊢;split at h
  ·rename_i f;rw[qG d e bU rd a _ _ _ f];exact qG d e bU rd b _ _ _ h
  ·cases i:bf X C L bU rd a fr E with
   |none=>grind
   |some q=>
    rw[qG d e bU rd a _ _ _ i]
    grind
 |.cond c a b,fr,E,r,h=>by
  simp only[bf]at h⊢;split at h
  ·rename_i t o;split at h
   ·rename_i j;rw[ac6 j];exact qG d e bU rd a _ _ _ h
   ·rename_i j;rw[ac0 j];exact qG d e bU rd b _ _ _ h
  omega
 |.block id body,fr,E,r,h=>by
  simp only[bf]at h⊢;cases i:bf X C L bU rd body fr E with
  |none=>rw[i]at h;cases h
  |some q=>rw[qG d e bU rd body _ _ _ i];rw[i]at h;exact h
 |.loop body,fr,E,r,h=>by
  simp only[bf]at h⊢;exact e _ _ (qG d e bU rd body) _ _ _ h
 |.exit id,_,_,_,h=>by simpa only[bf]using h
 |.ret,_,_,_,h=>by simpa only[bf]using h
 |.aJ ops,fr,E,r,h=>by
  simp only[bf]at h⊢;exact GZ d ops _ _ _ h
 |.ur ops,fr,E,r,h=>by
  simp only[bf]at h⊢;exact G4 d _ _ _ _ _ h
 |.iW g ps as bd,fr,E,r,h=>by
  simp only[bf]at h⊢;split at h
  ·cases h
  ·rename_i k;rw[ac0 k];split at h
   ·rename_i n;rw[ac6 n];split at h
    ·rename_i f;rw[d _ _ _ _ f];exact h
    ·rename_i f;rw[d _ _ _ _ f];exact h
    ·cases h
   ·cases h
theorem anW{C o:bJ}{L n:eJ}(m:bJ.le C o)(k:eJ.le L n)(l:Nat)(args:lA)(E:AS)(r:aU)(h:lS X C L l args E=some r):lS X o n l args E=some r:=by
 simp only[lS]at h⊢;split at h
 ·rename_i st i f env ps as bd u;split at h
  ·rename_i a;simp only[a,ae4];split at h
   ·rename_i fr d p;rw[qG m k _ _ _ _ _ _ p];simp only;split at h
    ·rename_i b t c e g ju s;cases j:bf X C L f true bd fr (d.set l (.loop .busy b t c e g ju) 0)with
     |none=>rw[j]at h;cases h
     |some q=>rw[qG m k _ _ _ _ _ _ j];grind
    omega
   grind
  grind
 omega
def Wg{C c:bJ}{L b:eJ}(e:bJ.le C c)(d:eJ.le L b):bJ.le (step X C L) (step X c b):=by
 intro v args E r h;unfold step at h⊢;split at h
 ·rename_i f first cap
  split at h
  ·omega
  ·split at h
   ·rename_i pf g;split at h
    ·cases a:bf X C L f false pf.body {env:=dv (first++args++cap),marks:=[]} {E with lo:=none}with
     |none=>rw[a]at h;cases h
     |some q=>rw[qG e d _ _ _ _ _ _ a];grind
    grind
   omega
 ·grind [anW]
 omega
theorem Nh: ∀n,eJ.le (iter n) (iter (n+1))
 |0,b,c,a,fr,E,r,h=>by trivial
 |n+1,b,c,a,fr,E,r,h=>by
  rw[iter]at h⊢;split at h
  ·rename_i d;rw[a _ _ _ d];exact Nh n b c a _ _ _ h
  ·rw[a _ _ _ h]
   grind
theorem Wh: ∀n,bJ.le (ja X n) (ja X (n+1))
 |0=>λf args E r h=>by trivial
 |n+1=>by
  exact Wg (Wh n) (Nh n)
def bJ.le_trans{A B C:bJ}(h:bJ.le A B)(k:bJ.le B C):bJ.le A C:=λf a s r e=>k f a s r (h f a s r e)
def yi(h:n<=m):bJ.le (ja X n) (ja X m):=by
 induction h with
 |refl=>exactλf a s r e=>e
 |step _ b=>exact bJ.le_trans b (Wh _)
def Ni(h:n<=m)(b:Fr->AS->jM):qF (iter n b) (iter m b):=by
 induction h with
 |refl=>exactλfr s r e=>e
 |step _ a=>exactλfr s r e=>Nh _ b b (λ_ _ _ h=>h) _ _ _ (a fr s r e)
theorem G5: ∀n (b a:Fr->AS->jM),qF b a->qF (iter n b) (iter n a)
 |0,_,_,_=>λfr E r h=>by trivial
 |n+1,b,a,c=>λfr E r h=>by
  rw[iter]at h⊢;split at h
  ·rename_i d;rw[c _ _ _ d];exact G5 n b a c _ _ _ h
  ·rw[c _ _ _ h]
   grind
def Wi(h:n<=m):eJ.le (iter n) (iter m):=by
 intro b a c fr s r e;exact Ni h a _ _ _ (G5 n b a c _ _ _ e)
noncomputable def D(X:Ctx):bJ:=λf args E=>
 open Classical in if h: ∃r,∃n,ja X n f args E=some r then some h.choose else none
noncomputable def Lw:eJ:=λb fr E=>
 open Classical in if h: ∃r,∃n,iter n b fr E=some r then some h.choose else none
def Nj:bJ.le (ja X n) (D X):=by
 intro f args E r h;have a: ∃r,∃n,ja X n f args E=some r:=⟨r,n,h⟩;unfold D;obtain⟨m,hm⟩:=a.choose_spec;have c:=yi (arI n m) _ _ _ _ h;have b:=yi (arc n m) _ _ _ _ hm
 grind
theorem yj{f:AV}{args:lA}{E:AS}{r:aU}(h:D X f args E=some r): ∃n,ja X n f args E=some r:=by
 unfold D at h;split at h
 ·grind
 grind
def Nk{b:Fr->AS->jM}:qF (iter n b) (Lw b):=by
 intro fr E r h;have a: ∃r,∃n,iter n b fr E=some r:=⟨r,n,h⟩;unfold Lw;obtain⟨m,hm⟩:=a.choose_spec;have d:=Ni (arI n m) b _ _ _ h;have c:=Ni (arc n m) b _ _ _ hm
 grind
def C7{b:Fr->AS->jM}{a:Fr}{E:AS}{r:Ex×Fr×AS}(h:Lw b a E=some r): ∃n,iter n b a E=some r:=by
 unfold Lw at h;split at h
 ·grind
 grind
theorem anX(b:Fr->AS->jM)(e:Fr)(E:AS):Lw b e E=match b e E with
  |some (.normal,c,E')=>Lw b c E'
  |r=>r:=by
 split
 ·rename_i c E' d;cases g:Lw b c E' with
  |none=>
   cases f:Lw b e E with
   |none=>rfl
   |some r=>
    obtain⟨n,a⟩:=C7 f;cases n with
    |zero=>trivial
    |succ n=>rw[iter,d]at a;rw[Nk _ _ _ a]at g;cases g
  |some r=>
   obtain⟨n,a⟩:=C7 g;exact Nk (n:=n+1) _ _ _ (by rw[iter,d];exact a)
 ·cases d:b e E with
  |none=>
   cases f:Lw b e E with
   |none=>rfl
   |some r=>
    obtain⟨n,a⟩:=C7 f;cases n with
    |zero=>trivial
    |succ n=>rw[iter,d]at a;cases a
  |some q=>
   refine Nk (n:=1) _ _ _ ?_;rw[iter,d]
   grind
theorem G6{i:I}{E:AS}{r:Out}(h:exec X (D X) i e E=some r): ∃n,exec X (ja X n) i e E=some r:=by
 cases i with
 |call f args=>
  simp only[exec]at h⊢;split at h
  ·grind [yj]
  ·rename_i b;obtain⟨n,a⟩:=yj b;exact⟨n,by rw[a];exact h⟩
  grind
 |_=>exact⟨0,by simpa only[exec]using h⟩
theorem Nl: ∀ (os:List aQ) (fr:Fr) (E:AS) (r:Ex×Fr×AS),fg X (D X) os fr E=some r-> ∃n,fg X (ja X n) os fr E=some r
 | [],_,_,_,h=>⟨0,by trivial⟩
 |o::os,fr,E,r,h=>by
  simp only[fg]at h⊢;split at h
  ·rename_i hw;simp only[hw,ae4];split at h
   ·rename_i a;obtain⟨n,b⟩:=G6 a;obtain⟨m,hm⟩:=Nl os _ _ _ h;refine⟨max n m,?_⟩;rw[Ax (yi (arI n m)) _ _ _ _ b];exact GZ (yi (arc n m)) _ _ _ _ hm
   ·grind [G6]
   grind
  ·obtain⟨m,hm⟩:=Nl os _ _ _ h
   grind
theorem Nm: ∀ (os:List (aQ×lN)) (a:List FP) (fr:Fr) (E:AS) (r:Ex×Fr×AS),gV X (D X) a os fr E=some r-> ∃n,gV X (ja X n) a os fr E=some r
 | [],_,_,_,_,h=>⟨0,by trivial⟩
 |o::os,a,fr,E,r,h=>by
  simp only[gV]at h⊢;split at h
  ·rename_i hw;simp only[hw,ae4];split at h
   ·rename_i b;obtain⟨n,c⟩:=G6 b;split at h
    ·rename_i d;obtain⟨m,hm⟩:=Nm os _ _ _ _ h;refine⟨max n m,?_⟩;rw[Ax (yi (arI n m)) _ _ _ _ c];simp only;rw[ac6 d];exact G4 (yi (arc n m)) _ _ _ _ _ hm
    grind
   ·rename_i b;obtain⟨n,c⟩:=G6 b
    grind
   grind
  ·obtain⟨m,hm⟩:=Nm os _ _ _ _ h
   grind
def yk(h:n<=m)(bU:FuncId)(rd:Bool)(a:PC):qF (bf X (ja X n) (iter n) bU rd a) (bf X (ja X m) (iter m) bU rd a):=
 qG (yi h) (Wi h) bU rd a
theorem qH(bU:FuncId)(rd:Bool): ∀ (pc:PC) (fr:Fr) (E:AS) (r:Ex×Fr×AS),bf X (D X) Lw bU rd pc fr E=some r-> ∃n,bf X (ja X n) (iter n) bU rd pc fr E=some r
 |.skip,_,_,_,h=>⟨0,by trivial⟩
 |.seq a b,fr,E,r,h=>by
  simp only[bf]at h;split at h
  ·rename_i e;obtain⟨n,d⟩:=qH bU rd a _ _ _ e;obtain⟨m,hm⟩:=qH bU rd b _ _ _ h;refine⟨max n m,?_⟩;simp only[bf];rw[yk (arI n m) _ _ _ _ _ _ d];exact yk (arc n m) _ _ _ _ _ _ hm
  ·rename_i e;obtain⟨n,d⟩:=qH bU rd a _ _ _ h;refine⟨n,?_⟩;simp only[bf];rw[d];obtain⟨ex,l,E'⟩:=r;cases ex with
   |normal=>exact absurd h (e _ _)
   |_=>rfl
 |.cond c a b,fr,E,r,h=>by
  simp only[bf]at h;split at h
  ·rename_i t p;split at h
   ·rename_i i;obtain⟨n,d⟩:=qH bU rd a _ _ _ h;exact⟨n,by simp only[bf,p,i,ae4];exact d⟩
   ·rename_i i;obtain⟨n,d⟩:=qH bU rd b _ _ _ h;exact⟨n,by simp only[bf,p,ac0 i];exact d⟩
  ·cases h
 |.block id body,fr,E,r,h=>by
  simp only[bf]at h;cases j:bf X (D X) Lw bU rd body fr E with
  |none=>rw[j]at h;cases h
  |some q=>
   obtain⟨n,d⟩:=qH bU rd body _ _ _ j;refine⟨n,?_⟩;simp only[bf];rw[d];rw[j]at h;exact h
 |.loop body,fr,E,r,h=>by
  simp only[bf]at h;obtain⟨k,u⟩:=C7 h;have key: ∀k fr,∀E,iter k (bf X (D X) Lw bU rd body) fr E=some r-> ∃n,iter n (bf X (ja X n) (iter n) bU rd body) fr E=some r:=by
   intro k
   induction k with
   |zero=>intro fr E h;simp[iter]at h
   |succ k s=>
    intro fr E h;rw[iter]at h;split at h
    ·rename_i e;obtain⟨n,d⟩:=qH bU rd body _ _ _ e;obtain⟨m,hm⟩:=s _ _ h;refine⟨max n m+1,?_⟩;rw[iter];rw[yk (show n<=max n m+1 by omega) _ _ _ _ _ _ d];exact Wi (show m<=max n m by omega) _ _ (yk (show m<=max n m+1 by omega) _ _ _) _ _ _ hm
    ·rename_i e;obtain⟨n,d⟩:=qH bU rd body _ _ _ h;refine⟨n+1,?_⟩;rw[iter,yk (Nat.le_succ n) _ _ _ _ _ _ d];obtain⟨ex,l,E'⟩:=r;cases ex with
     |normal=>exact absurd h (e _ _)
     |_=>rfl
  obtain⟨n,d⟩:=key k fr E u;exact⟨n,by simp only[bf];exact d⟩
 |.exit id,_,_,_,h=>⟨0,by simpa only[bf]using h⟩
 |.ret,_,_,_,h=>⟨0,by simpa only[bf]using h⟩
 |.aJ ops,fr,E,r,h=>by
  simp only[bf]at h;obtain⟨n,d⟩:=Nl _ _ _ _ h;exact⟨n,by simp only[bf];exact d⟩
 |.ur ops,fr,E,r,h=>by
  simp only[bf]at h;obtain⟨n,d⟩:=Nm _ _ _ _ _ h;exact⟨n,by simp only[bf];exact d⟩
 |.iW g ps as bd,fr,E,r,h=>by
  simp only[bf]at h;split at h
  ·cases h
  ·rename_i f;split at h
   ·rename_i o;split at h
    ·rename_i e;obtain⟨n,d⟩:=yj e;exact⟨n,by simp only[bf];rw[ac0 f,ac6 o,d];exact h⟩
    ·rename_i e;obtain⟨n,d⟩:=yj e;exact⟨n,by simp only[bf];rw[ac0 f,ac6 o,d];exact h⟩
    ·cases h
   ·cases h
def anY{args:lA}{E:AS}{r:aU}(h:lS X (D X) Lw l args E=some r): ∃n,lS X (ja X n) (iter n) l args E=some r:=by
 simp only[lS]at h⊢;split at h
 ·rename_i st i f env ps as bd t;split at h
  ·rename_i d;split at h
   ·rename_i fr c k;obtain⟨n,o⟩:=qH _ _ _ _ _ _ k;split at h
    ·rename_i a s b e g ju p;cases j:bf X (D X) Lw f true bd fr (c.set l (.loop .busy a s b e g ju) 0)with
     |none=>rw[j]at h;cases h
     |some q=>
      obtain⟨m,hm⟩:=qH _ _ _ _ _ _ j;have e1:=yk (arI n m) _ _ _ _ _ _ o;have u:=yk (arc n m) _ _ _ _ _ _ hm
      grind
    grind
   grind
  grind
 grind
def G7{args:lA}{E:AS}{r:aU}(h:step X (D X) Lw v args E=some r):D X v args E=some r:=by
 have key: ∃n,step X (ja X n) (iter n) v args E=some r:=by
  unfold step at h⊢;split at h
  ·rename_i f first cap
   split at h
   ·simp_all
   ·split at h
    ·rename_i pf c;split at h
     ·cases a:bf X (D X) Lw f false pf.body {env:=dv (first++args++cap),marks:=[]} {E with lo:=none}with
      |none=>rw[a]at h;cases h
      |some q=>grind [qH]
     grind
    grind
  ·exact anY h
  grind
 obtain⟨n,b⟩:=key;exact Nj (n:=n+1) _ _ _ _ (by trivial)
def Nn(b:fP X B ax)(c:oU P X)(d: ∀f p,X.cg f=some p->gX P B ax f p):fR P B ax (D X):=by
 intro fv args E e h;obtain⟨n,a⟩:=yj h;exact We b c d n fv args E e a
end
def G8:Value->Prop
 |.slice (some a) _ _=>a.spot=none
 |_=>True
section
variable{H:Type}{enc:TypeId×Value->H}{P:Program}{w:World}{sp:Nat->Bool}{held:Bool}
def No(R:TypeId->DataW H->lA->Prop):List Field->List (DataW H)->lA->Prop
 | [],e,xs=>e=[]/\xs=[]
 |x::r,e,xs=> ∃d c a b,e=d::c/\xs=a++b/\R x.type d a/\No R r c b
def iH(P:Program):Nat->TypeId->DataW H->lA->Prop
 |0,_,_,_=>False
 |f+1,t,d,xs=>match P.underlying t with
  |some .bool=> ∃b,d= .lit (.bool b)/\xs=[.bool b]
  |some (.int k)=> ∃n,d= .lit (.int k n)/\xs=[.int k n]/\ (Lit.int k n).wf=true
  |some .string=> ∃s:ByteArray,d= .lit (.string s.data.toList)/\xs=[.str s]/\s.size<=maxLen
  |some (.slice e)=>(d= .nil/\xs=[.au])\/ ∃ (es rest:List (DataW H)) (af:List lA),d= .slice es rest/\xs=[.sl af false]/\es.length=af.length/\af.length<=maxLen/\
    ∀ (i:Nat) (a:DataW H) (b:lA),es[i]?=some a->af[i]?=some b->b.length=P.cellsOf e/\iH P f e a b
  |some (.struct fs)=> ∃c,d= .agg c/\No (iH P f) fs.toList c xs
  |some (.array n e)=> ∃ (c:List (DataW H)) (af:List lA),d= .agg c/\xs=af.flatten/\c.length=n/\af.length=n/\ ∀ (i:Nat) (a:DataW H) (b:lA),c[i]?=some a->af[i]?=some b->iH P f e a b
  |_=>False
def Ay(P:Program)(g:TypeId->Bool):List Field->Nat->Nat->Bool
 | [],off,n=>off==n
 |x::r,off,n=>x.offset==off&&g x.type&&Ay P g r (off+P.cellsOf x.type) n
def Az(P:Program)(nest:Bool):Nat->TypeId->Bool
 |0,_=>false
 |f+1,t=>match P.underlying t with
  |some .bool=>true
  |some (.int _)=>true
  |some .string=>true
  |some (.slice e)=>nest&&Az P nest f e
  |some (.struct fs)=>Ay P (Az P nest f) fs.toList 0 (P.cellsOf t)
  |some (.array n e)=>Az P nest f e&&P.cellsOf t==n*P.cellsOf e
  |_=>false
def Wj(w:World)(b o:Nat):Option Value:=if b<w.heap.size then w.cell? ⟨b,o,none⟩else none
def anZ{b o:Nat}{v:Value}(h:w.cell? ⟨b,o,none⟩=some v):Wj w b o=some v:=by
 unfold Wj;rw[ac6,h];unfold World.cell? at h
 grind
def Wk{a:Addr}(h:a.spot=none)(n:Nat):a.add n=⟨a.block,a.off+n,none⟩:=by
 unfold Addr.add;split
 ·obtain⟨b,o,s⟩:=a;grind
 ·rfl
def an0{a:Addr}(e:a.spot=none){c:Nat}{cs:List Value}(h:w.cells? 0 (a.add k) c=some cs):cs.length=c/\ ∀ (j:Nat) (v:Value),cs[j]?=some v->w.cell? ⟨a.block,a.off+k+j,none⟩=some v:=by
 have b:=mapM_some_length h;rw[List.length_range]at b;refine⟨b,λj v d=>?_⟩;have:=mapM_some_get h j j (by grind);rw[d]at this;rw[Wk e,Wk rfl]at this;omega
def Wl{e:TypeId}{R:DataW H->lA->Prop}{a:Addr}(A:a.spot=none)
  (D: ∀ (cs:List Value) d ps,(∀ (j:Nat) (v:Value),cs[j]?=some v-> ∃o,w.cell? ⟨a.block,o,none⟩=some v)->DataW.trod enc P w 0 sp held n e cs=some (d,ps)-> ∃xs,R d xs/\aG (Gh.start w) xs cs/\Leaves cs/\xs.length=cs.length)
  {es:List (DataW H×List MemPlace)} (len:Nat) (M:len<=es.length)
  (h: ∀i,i<len->(w.cells? 0 (a.add (i*P.cellsOf e)) (P.cellsOf e)).bind (DataW.trod enc P w 0 sp held n e)=es[i]?):
  ∃ (af:List lA) (vs:List Value),af.length=len/\ (∀ (i:Nat) (x:DataW H×List MemPlace) (b:lA),es[i]?=some x->af[i]?=some b->b.length=P.cellsOf e/\R x.1 b)/\aG (Gh.start w) af.flatten vs/\Leaves vs/\vs.length=len*P.cellsOf e/\qz (Gh.start w) a.block a.off vs:=by
 induction len with
 |zero=>exact⟨[],[],rfl,λi x b _ f=>by grind,rfl,λv c=>by grind,by simp,λj v c=>by grind⟩
 |succ m y=>
  obtain⟨af,vs,q,J,I,G,F,E⟩:=y (by omega) (λi p=>h i (by omega));have hm:=h m (avY m);have g:es[m]?=some es[m]:=ac7 (by omega);rw[g,an1]at hm;obtain⟨cs,C,z⟩:=hm;obtain⟨K,r⟩:=an0 A C;obtain⟨xs,u,t,s,L⟩:=D cs es[m].1 es[m].2 (λj v c=>⟨_,r j v c⟩) z;refine⟨af++[xs],vs++cs,by simp[q],λi x b k f=>?_,by rw[anw];simpa using I.append t,G.append s,by simp[F,K,apB],λj v c=>?_⟩
  ·by_cases p:i<af.length
   ·rw[acj p]at f;exact J i x b k f
   ·have l:=(ack.1 f).1;rw[aeG,asa]at l;have:i=m:=by omega
    subst this;rw[aeY (by omega),q,Nat.sub_self]at f;simp only[arb,ac1]at f;rw[g]at k;cases k;cases f;exact⟨by omega,u⟩
  ·by_cases B:j<vs.length
   ·rw[acj B]at c;exact E j v c
   ·rw[aeY (by omega)]at c;have:=r _ _ c;have e1:a.off+m*P.cellsOf e+(j-vs.length)=a.off+j:=by omega
    rw[e1]at this;exact anZ this
theorem Np{n:Nat}{R:TypeId->DataW H->lA->Prop}{g:TypeId->Bool}{cs:List Value}
  (m: ∀t c d ps,g t=true->(∀v∈c,v∈cs)->DataW.trod enc P w 0 sp held n t c=some (d,ps)-> ∃xs,R t d xs/\aG (Gh.start w) xs c/\Leaves c/\xs.length=c.length)
  (N:Nat) (u:cs.length=N):
  ∀ (fs:List Field) (ys:List (DataW H×List MemPlace)) (off:Nat),Ay P g fs off N=true->ys.length=fs.length->(∀ (i:Nat) (f:Field),fs[i]?=some f->DataW.trod enc P w 0 sp held n f.type ((cs.drop f.offset).take (P.cellsOf f.type))=ys[i]?)->
    ∃xs,No R fs (ys.map (·.1)) xs/\aG (Gh.start w) xs (cs.drop off)/\Leaves (cs.drop off)/\xs.length=(cs.drop off).length
 | [],ys,off,j,k,_=>by
   simp only[Ay,awJ]at j;have:cs.drop off=[]:=ahz (by omega);rw[this];cases ys with
   |nil=>exact⟨[],⟨rfl,rfl⟩,rfl,λv l=>by grind,rfl⟩
   |cons _ _=>grind
 |x::r,ys,off,j,k,h=>by
  simp only[Ay,aeW,awJ]at j;obtain⟨⟨rfl,s⟩,p⟩:=j;cases ys with
  |nil=>grind
  |cons y ys=>
   have o:=h 0 x rfl;simp only[arb]at o;obtain⟨a,G,F,E,D⟩:=m x.type _ y.1 y.2 s (λv l=>ao1 (ahW l)) o;obtain⟨b,C,B,A,z⟩:=Np m N u r ys (x.offset+P.cellsOf x.type) p (by simpa using k) (λi f q=>by have:=h (i+1) f q;simpa using this);have e:cs.drop x.offset=(cs.drop x.offset).take (P.cellsOf x.type)++cs.drop (x.offset+P.cellsOf x.type):=by
    rw[<-ape];exact(aoX _ _).symm
   refine⟨a++b,⟨y.1,ys.map (·.1),a,b,rfl,rfl,G,C⟩,?_,?_,?_⟩
   ·rw[e];exact F.append B
   ·rw[e];exact E.append A
   ·rw[e,aeG,aeG,D,z]
def Wm{e:TypeId}{R:DataW H->lA->Prop}{cs:List Value}
  (A: ∀ (c:List Value) d ps,(∀v∈c,v∈cs)->DataW.trod enc P w 0 sp held n e c=some (d,ps)-> ∃xs,R d xs/\aG (Gh.start w) xs c/\Leaves c/\xs.length=c.length)
  {ys:List (DataW H×List MemPlace)} (k:Nat) (z:k*P.cellsOf e<=cs.length) (F:k<=ys.length) (h: ∀i,i<k->DataW.trod enc P w 0 sp held n e ((cs.drop (i*P.cellsOf e)).take (P.cellsOf e))=ys[i]?):
  ∃af:List lA,af.length=k/\ (∀ (i:Nat) (x:DataW H×List MemPlace) (b:lA),ys[i]?=some x->af[i]?=some b->R x.1 b)/\aG (Gh.start w) af.flatten (cs.take (k*P.cellsOf e))/\Leaves (cs.take (k*P.cellsOf e))/\af.flatten.length=k*P.cellsOf e:=by
 induction k with
 |zero=>exact⟨[],rfl,λi x b _ a=>by grind,by simp[aG],λv l=>by grind,by simp⟩
 |succ m y=>
  rw[apB]at z;obtain⟨af,p,E,D,C,B⟩:=y (by omega) (by omega) (λi o=>h i (by omega));have hm:=h m (avY m);have g:ys[m]?=some ys[m]:=ac7 (by omega);rw[g]at hm;obtain⟨xs,u,t,s,r⟩:=A _ ys[m].1 ys[m].2 (λv l=>ao1 (ahW l)) hm;have f:xs.length=P.cellsOf e:=by rw[r,af9,am7];omega
  have q:cs.take ((m+1)*P.cellsOf e)=cs.take (m*P.cellsOf e)++(cs.drop (m*P.cellsOf e)).take (P.cellsOf e):=by rw[apB,List.take_add]
  refine⟨af++[xs],by simp[p],λi x b f a=>?_,by rw[q,anw];simpa using D.append t,by rw[q];exact C.append s,by rw[anw,aeG,B,apB];simp[f]⟩;by_cases o:i<af.length
  ·rw[acj o]at a;exact E i x b f a
  ·have j:=(ack.1 a).1;rw[aeG,asa]at j;have:i=m:=by omega
   subst this;rw[aeY (by omega),p,Nat.sub_self]at a;simp only[arb,ac1]at a;rw[g]at f;cases f;cases a;exact u
theorem G9{nest:Bool}(J:nest=true-> ∀b o v,w.cell? ⟨b,o,none⟩=some v->G8 v): ∀ (f:Nat) (t:TypeId) (n:Nat) (cs:List Value) (d:DataW H) (ps:List MemPlace),Az P nest f t=true->(nest=true-> ∀v∈cs,G8 v)->
  DataW.trod enc P w 0 sp held n t cs=some (d,ps)-> ∃xs,iH P f t d xs/\aG (Gh.start w) xs cs/\Leaves cs/\xs.length=cs.length
 |0,_,_,_,_,_,r,_,_=>by trivial
 |f+1,t,n,cs,d,ps,r,C,h=>by
  unfold Az at r;unfold iH;cases B:P.underlying t with
  |none=>grind
  |some td=>
   rw[B]at r;cases td with
   |bool=>
    obtain⟨b,rfl,l⟩:=DataW.trod_bool B h;cases l;exact⟨[.bool b],⟨b,rfl,rfl⟩,aG.single.2 rfl,λv g=>by simp at g;subst g;rfl,rfl⟩
   |int k=>
    obtain⟨b,rfl,l,T⟩:=DataW.trod_int B h;cases l;exact⟨[.int k b],⟨b,rfl,rfl,T⟩,aG.single.2 rfl,λv g=>by simp at g;subst g;rfl,rfl⟩
   |string=>
    obtain⟨s,rfl,l,F⟩:=DataW.trod_string B h;cases l;exact⟨[.str s],⟨s,rfl,rfl,F⟩,aG.single.2 rfl,λv g=>by simp at g;subst g;rfl,rfl⟩
   |slice e=>
    simp only[aeW]at r;obtain⟨D,r⟩:=r;rcases DataW.trod_slice B h with⟨rfl,l⟩| ⟨a,len,cap,es,rest,m,rfl,rfl,l,_,hlc,Vr,W,V,_,_⟩
    ·cases l;exact⟨[.au],.inl ⟨rfl,rfl⟩,aG.single.2 rfl,λv g=>by simp at g;subst g;rfl,rfl⟩
    ·cases l;have F:a.spot=none:=C D _ (List.mem_singleton_self _);obtain⟨af,vs,Q,O,N,M,h5,h6⟩:=Wl (R:=iH P f e) F (λc I p u q=>G9 J f e m c I p r (λ_ v g=>by
      obtain⟨j,L⟩:=avW.1 g;obtain⟨o,ho⟩:=u j v L;exact J D _ _ _ ho) q) len (by omega) V
     refine⟨[.sl af false],.inr ⟨es.map (·.1),rest.map (·.1),af,rfl,rfl,by simp[W,Q],by omega,λi x b l Y=>?_⟩,aG.single.2 ?_,λv g=>by simp at g;subst g;rfl,rfl⟩
     ·rw[agp,aeL]at l;obtain⟨y,S,rfl⟩:=l;exact O i y b S Y
     ·refine⟨a.block,a.off,cap,P.cellsOf e,vs,?_,by omega,(λu=>absurd u (by decide)),λel G=>?_,h6,M,bF.iff.2 N⟩
      ·rw[Q];obtain⟨b,o,s⟩:=a;simp at F;subst F;rfl
      ·obtain⟨j,L⟩:=avW.1 G;have hjl:=(ack.1 L).1;exact(O j es[j] el (ac7 (by omega)) L).1
   |struct fs=>
    obtain⟨ys,m,rfl,l,K,A,z⟩:=DataW.trod_struct B h;cases l;obtain⟨xs,x1,x2,x3,x4⟩:=Np (R:=iH P f) (cs:=cs) (λt' c I p hg u q=>G9 J f t' m c I p hg (λD v g=>C D v (u v g)) q) _ K fs.toList ys 0 r (by simpa using A) (λi fl hi=>z i fl (by simpa using hi));exact⟨xs,⟨_,rfl,x1⟩,by simpa using x2,by simpa using x3,by simpa using x4⟩
   |array k e=>
    simp only[aeW,awJ]at r;obtain⟨U,u⟩:=r;obtain⟨ys,m,rfl,l,K,A,z⟩:=DataW.trod_array B h;cases l;obtain⟨af,Q,O,N,M,h5⟩:=Wm (R:=iH P f e) (cs:=cs) (λc I p X q=>G9 J f e m c I p U (λD v g=>C D v (X v g)) q) k (by rw[K,u];exact adA _) (by omega) z;have E:k*P.cellsOf e=cs.length:=by rw[K,u]
    rw[E,aeQ]at N M;exact⟨af.flatten,⟨_,af,rfl,rfl,by simpa using A,Q,λi a b Z Y=>by
     rw[agp,aeL]at Z;obtain⟨y,S,rfl⟩:=Z;exact O i y b S Y⟩,N,M,by rw[h5,E]⟩
   |_=>cases r
theorem Wn{W j:World}(g:laidOutB P=true)(i:Below W.heap.size W j): ∀ {ts:List TypeId} {vs:List Value} {e:List (DataW H)} {ps:List MemPlace},(ts.all λt=>P.readableRec t&&decide (t<P.types.size))=true->
  DataW.TrodAll enc P W 0 (λ_=>true) true ts vs e ps->(∀x∈ps,x.block<W.heap.size)->DataW.TrodAll enc P j 0 (λb=>decide (b<W.heap.size)) true ts vs e ps
 | [],[],[],_,_,h,_=>h
 |t::ts,v::vs,d::e,ps,c,h,f=>by
  simp only[awC,aeW,ae1]at c;obtain⟨p,q,l,k,rfl⟩:=h;exact⟨p,q,Below.trod g c.1.1 c.1.2 l i (λx a=>f x (List.mem_append_left _ a)),Wn g i (by grind) k (λx a=>f x (List.mem_append_right _ a)),rfl⟩
 | [],[],_::_,_,_,h,_=>h.elim
 | [],_::_,_,_,_,h,_=>h.elim
 |_::_,[],_,_,_,h,_=>h.elim
 |_::_,_::_,[],_,_,h,_=>h.elim
end
def an3{P:Program}{X:Ctx}(m:fP X w.heap.size w)(q:oU P X)(r: ∀f p,X.cg f=some p->gX P w.heap.size w f p){fn:Func}(j:P.funcs[f]?=some fn)(o:fn.body.isSome=true)
  (d: (fn.name== "runtime.NumGoroutine")=false) {args:lA} {a:Array Value} (l:aG (Gh.start w) args a.toList)  {E':AS} (h:D X (.fn (.func f) [] []) args ⟨[],none⟩=some (.ret v E')):
  Calls P f a w λe w'=> ∃G v',e= .returned v'/\an G v v'/\Below w.heap.size w w':=by
 have k:=Nn m q r _ _ _ _ h (Gh.start w) w (.func (.func f) #[] #[]) a (.start w) ⟨_,_,_,rfl,rfl,rfl,rfl⟩ l;have b: (v9 (.func (.func f) #[] #[]) a).run P w= .ok (.enter f a) w:=by
  have g: ¬fn.name= "runtime.NumGoroutine" :=by grind
  obtain⟨c,n⟩:=atY.1 o;simp[v9,Deferred.ofValue,invoke,callFunc,arH,j,g,n]
 rw[b]at k;have i:CallsIn Fence.wide 0 P f a w (Ends P w.heap.size w (Gh.start w) {heap:=[],lo:=none} (.ret v E')):=k;refine callsIn_wide.1 (i.mono λe w' he=>?_);cases e with
 |returned v'=>
  obtain⟨u,x,t,s,_⟩:=he;exact⟨u,v',rfl,s,t.lT⟩
 |panicked _=>trivial
 |outgrown=>trivial
section
abbrev bY:=Ex->Fr->AS->Prop
variable(X:Ctx)
def wp(f:FuncId)(rd:Bool)(b:PC)(fr:Fr)(E:AS)(Q:bY):Prop:=
 ∃ex a E',bf X (D X) Lw f rd b fr E=some (ex,a,E')/\Q ex a E'
def dL(os:List aQ)(fr:Fr)(E:AS)(Q:bY):Prop:=
 ∃ex a E',fg X (D X) os fr E=some (ex,a,E')/\Q ex a E'
def ie(b:List FP)(os:List (aQ×lN))(fr:Fr)(E:AS)(Q:bY):Prop:=
 ∃ex a E',gV X (D X) b os fr E=some (ex,a,E')/\Q ex a E'
def qI(K Kp:AV->AS->Prop):Option Out->Prop
 |some (.ok v E)=>K v E
 |some (.panic v E)=>Kp v E
 |none=>False
def aO(i:I)(e:Env)(E:AS)(K Kp:AV->AS->Prop):Prop:=qI K Kp (exec X (D X) i e E)
def C8(f:FuncId)(rd:Bool)(b:PC)(Q:bY):bY
 |.normal,fr,E=>wp X f rd b fr E Q
 |ex,fr,E=>Q ex fr E
def yl(id:Nat)(Q:bY):bY
 |.exit i,fr,E=>if i=id then Q .normal fr E else Q (.exit i) fr E
 |ex,fr,E=>Q ex fr E
def Ha(K Kp:AV->AS->Prop):Option aU->Prop
 |some (.ret v E)=>K v E
 |some (.panic v E)=>Kp v E
 |none=>False
def dX(n:Nat)(lo:oN)(b:List RV)(R:aU->Prop):bY
 |.normal,fr,E|.ret,fr,E=> ∃a v,dV E fr.marks=some a/\gg X a fr.env b=some v/\R (.ret (finish n lo v a).1 (finish n lo v a).2)
 |.panic v,fr,E=> ∃a,dV E fr.marks=some a/\R (.panic (finish n lo v a).1 (finish n lo v a).2)
 |.exit _,_,_=>False
def Hb(c:AV)(b:Bool)(A B:Prop):Prop:=
 match c with
 |.bool t=>(t=b->A)/\ (t=(!b)->B)
 |_=>False
variable{X}{f:FuncId}{rd:Bool}{fr:Fr}{E:AS}{Q:bY}{e:Env}{ms:lN}{K Kp:AV->AS->Prop}
def aAU{a:Ex}{b:Fr}{c:AS}: (∃ex d E',(some (a,b,c):jM)=some (ex,d,E')/\Q ex d E')↔Q a b c:=
 by grind
def ym(c:AV)(b:Bool)(A B C:Prop):Prop:=
 match c with
 |.bool t=>(t=b->A)/\ (t=(!b)->B)
 |_=>C
def wp_skip:wp X f rd .skip fr E Q=Q .normal fr E:=propext (by simp only[wp,bf];grind)
def wp_exit{id:Nat}:wp X f rd (.exit id) fr E Q=Q (.exit id) fr E:=propext (by simp only[wp,bf];grind)
def wp_ret:wp X f rd .ret fr E Q=Q .ret fr E:=propext (by simp only[wp,bf];grind)
def wp_seq{a:PC}:wp X f rd (.seq a b) fr E Q=wp X f rd a fr E (C8 X f rd b Q):=by
 apply propext;simp only[wp,bf];constructor
 ·rintro⟨ex,d,E',h,c⟩;split at h
  ·rename_i g i j;exact⟨_,_,_,j,ex,d,E',h,c⟩
  ·refine⟨_,_,_,h,?_⟩;cases ex with
   |normal=>grind
   |_=>exact c
 ·rintro⟨ex,d,E',h,c⟩;rw[h];cases ex with
  |normal=>exact c
  |exit _=>exact⟨_,_,_,rfl,c⟩
  |ret=>exact⟨_,_,_,rfl,c⟩
  |panic _=>exact⟨_,_,_,rfl,c⟩
def wp_block{id:Nat}:wp X f rd (.block id b) fr E Q=wp X f rd b fr E (yl id Q):=by
 apply propext;simp only[wp,bf];constructor
 ·rintro⟨ex,c,E',h,a⟩;split at h
  ·simp only[yl]
   grind
  ·refine⟨_,_,_,h,?_⟩;cases ex with
   |exit i=>grind
   |_=>exact a
 ·rintro⟨ex,c,E',h,a⟩;rw[h];cases ex with
  |normal=>exact⟨_,_,_,rfl,a⟩
  |exit i=>
   simp only[yl]at a
   grind
  |ret=>exact⟨_,_,_,rfl,a⟩
  |panic _=>exact⟨_,_,_,rfl,a⟩
def wp_cond{c:ao}{a:PC}:wp X f rd (.cond c a b) fr E Q=Hb (c.get fr.env) true (wp X f rd a fr E Q) (wp X f rd b fr E Q):=by
 apply propext;simp only[wp,bf,Hb];constructor
 ·grind
 ·intro h;cases d:c.get fr.env<;>rw[d]at h<;>simp only at h<;>try rfl
  rename_i t;cases t
  ·grind
  grind
theorem Nq{os:List aQ}:wp X f rd (.aJ os) fr E Q=dL X os fr E Q:=by rfl
theorem an4{os:List (aQ×lN)}:wp X f rd (.ur os) fr E Q=ie X [] (iG E.heap.length os) fr (E.my (dP os)) Q:=by rfl
def wp_loop{S:Type}(I:S->Fr->AS->Prop)(μ:S->Nat)(s:S)(i:I s fr E)
  (h: ∀s fr E,I s fr E->wp X f rd b fr E (λex a E'=>match ex with|.normal=> ∃s',μ s'<μ s/\I s' a E'|ex=>Q ex a E')):wp X f rd (.loop b) fr E Q:=by
 have key: ∀n s fr E,μ s<n->I s fr E-> ∃ex a E',Lw (bf X (D X) Lw f rd b) fr E=some (ex,a,E')/\Q ex a E':=by
  intro n
  induction n with
  |zero=>simp
  |succ n j=>
   intro s fr E k g;obtain⟨ex,a,E',c,d⟩:=h s fr E g;rw[anX,c]
   grind
 obtain⟨ex,a,E',c,d⟩:=key _ s fr E (avY _) i;exact⟨ex,a,E',by trivial,d⟩
def wp_mono{c:PC}{d:bY}(h:wp X f rd c fr E Q)(i: ∀ex fr E,Q ex fr E->d ex fr E):wp X f rd c fr E d:=by
 obtain⟨ex,b,E',g,a⟩:=h;exact⟨ex,b,E',g,i _ _ _ a⟩
theorem Wo:C8 X f rd b Q .normal fr E=wp X f rd b fr E Q:=rfl
theorem Wp:C8 X f rd b Q (.exit i) fr E=Q (.exit i) fr E:=rfl
theorem Wq:C8 X f rd b Q .ret fr E=Q .ret fr E:=rfl
theorem Wr:C8 X f rd b Q (.panic v) fr E=Q (.panic v) fr E:=rfl
theorem Ws{id:Nat}:yl id Q .normal fr E=Q .normal fr E:=rfl
theorem Wt{id:Nat}:yl id Q (.exit i) fr E=if i=id then Q .normal fr E else Q (.exit i) fr E:=rfl
theorem Wu{id:Nat}:yl id Q .ret fr E=Q .ret fr E:=rfl
theorem Wv{id:Nat}:yl id Q (.panic v) fr E=Q (.panic v) fr E:=rfl
theorem yn{b:List RV}{R:aU->Prop}:dX X n lo b R .ret fr E= ∃a v,dV E fr.marks=some a/\gg X a fr.env b=some v/\R (.ret (finish n lo v a).1 (finish n lo v a).2):=rfl
theorem Hc{t b:Bool}{A B:Prop}:Hb (.bool t) b A B=((t=b->A)/\ (t=(!b)->B)):=rfl
theorem Ww:Ha K Kp (some (.ret v E))=K v E:=rfl
theorem Wx:Ha K Kp (some (.panic v E))=Kp v E:=rfl
def Wy:dL X [] fr E Q=Q .normal fr E:=propext (by simp only[dL,fg];grind)
theorem Fr.Wz{d:Nat}:Fr.put ⟨e,ms⟩ (some d) v=⟨e.set d v,ms⟩:=rfl
theorem Fr.WA:Fr.put ⟨e,ms⟩ none v=⟨e,ms⟩:=rfl
def Nr{i:I}{os:List aQ}:dL X (⟨none,d,i⟩::os) fr E Q=aO X i fr.env E (λv E'=>dL X os (fr.put d v) E' Q) (λv E'=>Q (.panic v) fr E'):=by
 simp only[dL,aO,fg,gH,ae4];cases a:exec X (D X) i fr.env E with
 |none=>simp[qI]
 |some o=>
  cases o with
  |ok v E'=>rfl
  |panic v E'=>simp only[qI];grind
def Env.Ns{e:Env}:e.set t (e t)=e:=by
 unfold Env.set;grind
def WB{b:Bool}{i:I}{os:List aQ}:dL X (⟨some (t,b),d,i⟩::os) ⟨e,ms⟩ E Q=
  ym (e t) b (aO X i (e.set t (.bool b)) E (λv E'=>dL X os (Fr.put ⟨e.set t (.bool b),ms⟩ d v) E' Q) (λv E'=>Q (.panic v) ⟨e.set t (.bool b),ms⟩ E'))
   (dL X os (Fr.put ⟨e.set t (.bool (!b)),ms⟩ d .undef) E Q) (dL X os (Fr.put ⟨e,ms⟩ d .undef) E Q):=by
 cases g:e t with
 |bool c=>
  have o:c=b->dL X (⟨some (t,b),d,i⟩::os) ⟨e,ms⟩ E Q=dL X (⟨none,d,i⟩::os) ⟨e,ms⟩ E Q:=by
   intro h;subst h;simp only[dL,fg,gH,g,beq_self_eq_true,ae4]
  have n:c=(!b)->dL X (⟨some (t,b),d,i⟩::os) ⟨e,ms⟩ E Q=dL X os (Fr.put ⟨e,ms⟩ d .undef) E Q:=by
   intro h;subst h;have: ((!b)==b)=false:=by simp
   simp only[dL,fg,gH,g,this,aeJ,ags]
  have l:e.set t (.bool c)=e:=by rw[<-g];exact Env.Ns
  apply propext;simp only[ym];by_cases j:c=b
  ·have m: ¬c=(!b):=by subst j;cases c<;>simp
   rw[o j,Nr];subst j;rw[l];exact⟨λh=>⟨λ_=>h,λk=>absurd k m⟩,λh=>h.1 rfl⟩
  ·have a:c=(!b):=by cases c<;>cases b<;>simp_all
   rw[n a,<-a,l];exact⟨λh=>⟨λk=>absurd k j,λ_=>h⟩,λh=>h.2 rfl⟩
 |_=>simp only[dL,fg,gH,g,ym,aeJ,ags]
theorem Nt{f:FuncId}{first cap args:lA}{H:List ae}{R:aU->Prop}(j:X.cg f=none)(l:X.code f=some pf)(n: (first++args++cap).length<=pf.ntmps)
  (h:wp X f false pf.body ⟨dv (first++args++cap),[]⟩ ⟨H,none⟩ (dX X H.length lo pf.results R)): ∃b,D X (.fn (.func f) first cap) args ⟨H,lo⟩=some b/\R b:=by
 obtain⟨ex,fr,E,m,g⟩:=h;have key: ∀b,leave X H.length lo pf (some (ex,fr,E))=some b->D X (.fn (.func f) first cap) args ⟨H,lo⟩=some b:=by
  intro b k;refine G7 ?_;simp only[step,j,l]
  grind
 cases ex with
 |normal=>obtain⟨a,v,d,i,c⟩:=g;exact⟨_,key _ (by simp only[leave,qx,d,i]),c⟩
 |ret=>obtain⟨a,v,d,i,c⟩:=g;exact⟨_,key _ (by simp only[leave,qx,d,i]),c⟩
 |panic v=>obtain⟨a,d,c⟩:=g;exact⟨_,key _ (by simp only[leave,d]),c⟩
 |exit _=>trivial
theorem WC{f:FuncId}{first cap args:lA}{H:List ae}{a:aU}(b:X.cg f=none)(d:X.code f=some pf)(c: (first++args++cap).length<=pf.ntmps)
 (h:wp X f false pf.body ⟨dv (first++args++cap),[]⟩ ⟨H,none⟩ (dX X H.length lo pf.results (· =a))):D X (.fn (.func f) first cap) args ⟨H,lo⟩=some a:=by grind [Nt]
end
section
variable{X:Ctx}{f:FuncId}{rd:Bool}{fr:Fr}{E:AS}{Q:bY}{e:Env}{ms:lN}{K Kp:AV->AS->Prop}
def dg{α:Type}(r:Option α)(K:α->Prop):Prop:=
 match r with
 |some a=>K a
 |none=>False
def WD{g:ao}{as:List ao}:aO X (.call g as) e E K Kp=Ha K Kp (D X (g.get e) (as.map (·.get e)) E):=by
 simp only[aO,exec];cases D X (g.get e) (as.map (·.get e)) E with
 |none=>rfl
 |some r=>cases r<;>rfl
def jP{r:Option AV}:qI K Kp (gv E r)=dg r (λv=>K v E):=by cases r<;>rfl
def k5(c:BinOp)(x y:AV):Option AV:=match x,y with
 |.int k a,.int _ b=>vY c k a b
 |_,_=>none
theorem aAV:aO X (.mov x) e E K Kp=(K (x.get e) E):=by
 rfl
def an5{c:ao}{a:ao}{b:ao}:aO X (.pick c a b) e E K Kp=(dg (match c.get e with|.bool t=>some t|_=>none) λt=>K (if t then a.get e else b.get e) E):=by
 simp only[aO,exec];cases c.get e<;>rfl
theorem aAW:aO X (.alloc z tg) e E K Kp=(K (.ptr E.heap.length 0) (E.push (.box z tg))):=by
 rfl
def an6:aO X (.box x tg) e E K Kp=(((x.get e).cx=false/\K (.ptr E.heap.length 0) (E.push (.box (x.get e).cells tg)))):=by
 simp only[aO,exec];cases h: (x.get e).cx<;>simp[qI]
def an7{a:List (Nat×Nat×ao)}:aO X (.build z a) e E K Kp=(dg (eH z (a.map λp=>(p.1,p.2.1,p.2.2.get e))) λcs=>K (.agg cs) E):=by
 simp only[aO,exec];cases eH z (a.map λp=>(p.1,p.2.1,p.2.2.get e))<;>rfl
def an8{len:Nat}{a:List (Nat×Nat×ao)}:aO X (.bslice z len a) e E K Kp=(dg (eH (List.replicate len z).flatten (a.map λp=>(p.1,p.2.1,p.2.2.get e))) λcs=>K (.sl (chunks z.length len cs) true) E):=by
 simp only[aO,exec];cases eH (List.replicate len z).flatten (a.map λp=>(p.1,p.2.1,p.2.2.get e))<;>rfl
def an9{ty:TypeId}{len:Nat}{a:List (Nat×Nat×ao)}:aO X (.rQ ty z len a) e E K Kp=(dg (eH (List.replicate len z).flatten (a.map λp=>(p.1,p.2.1,p.2.2.get e))) λcs=>K (.ref E.heap.length 0 z.length 0 len false) (E.push (.row 0 z.length ty (chunks z.length len cs)))):=by
 simp only[aO,exec];cases eH (List.replicate len z).flatten (a.map λp=>(p.1,p.2.1,p.2.2.get e))<;>rfl
theorem aoa{agg:Bool}{a:ao}:aO X (.load agg n a) e E K Kp=(dg (cp X E agg n (a.get e)) λv=>K v E):=by
 simp only[aO,exec,jP]
theorem aob{a:ao}{v:ao}:aO X (.store n a v) e E K Kp=(dg (kp E n (a.get e) (v.get e)) λE'=>K .undef E'):=by
 simp only[aO,exec];cases kp E n (a.get e) (v.get e)<;>rfl
theorem aoc:aO X (.nilck x) e E K Kp=(dg (v7 (x.get e)) λv=>K v E):=by
 simp only[aO,exec,jP]
theorem aod{a:BinOp}:aO X (.bin a x y) e E K Kp=(dg (dE a (x.get e) (y.get e)) λv=>K v E):=by
 simp only[aO,exec,jP]
theorem aoe{a:BinOp}:aO X (.shf a x y) e E K Kp=(dg (k5 a (x.get e) (y.get e)) λv=>K v E):=by
 simp only[aO,exec,k5];cases x.get e<;>first|rfl| (cases y.get e<;>first|rfl|exact jP)
def aof{k:EK}:aO X (.eq k x y) e E K Kp=(dg (eI k (x.get e) (y.get e)) λb=>K (.bool b) E):=by
 simp only[aO,exec];cases eI k (x.get e) (y.get e)<;>rfl
def aog{k:EK}:aO X (.ne k x y) e E K Kp=(dg (eI k (x.get e) (y.get e)) λb=>K (.bool !b) E):=by
 simp only[aO,exec];cases eI k (x.get e) (y.get e)<;>rfl
theorem aoh{a:UnOp}:aO X (.un a x) e E K Kp=(dg (xK a (x.get e)) λv=>K v E):=by
 simp only[aO,exec,jP]
def aoi{k:IntKind}:aO X (.conv k x) e E K Kp=(dg (qq (x.get e)) λn=>K (.int k (k.wrap n)) E):=by
 simp only[aO,exec];cases x.get e<;>rfl
def aoj:aO X (.s2b x) e E K Kp=(dg (match x.get e with|.str s=>if s.size<=room then some s else none|_=>none) λs=>K (.sl (rR s) false) E):=by
 simp only[aO,exec];cases x.get e<;>first|rfl| (simp only[];split<;>rfl)
theorem aAX{t:TypeId}:aO X (.mki t x) e E K Kp=(K (.du t (x.get e)) E):=by
 rfl
theorem aAY{f:Fn}{first:List ao}{cap:List ao}:aO X (.mkf f first cap) e E K Kp=(K (.fn f (first.map (·.get e)) (cap.map (·.get e))) E):=by
 rfl
theorem aAZ:aO X (.nT) e E K Kp=(K (.mp E.heap.length) (E.push (.map []))):=by
 rfl
theorem aok{ty:TypeId}{bytes:Nat}{l:ao}{c:ao}:aO X (.uq ty z bytes l c) e E K Kp=(dg (rU E ty z bytes (l.get e) (c.get e)) λp=>K p.1 p.2):=by
 simp only[aO,exec];cases rU E ty z bytes (l.get e) (c.get e)<;>rfl
theorem aol{lo:Option ao}{a:Option ao}:aO X (.slstr x lo a) e E K Kp=(dg (uu (x.get e) (lo.map (·.get e)) (a.map (·.get e))) λv=>K v E):=by
 simp only[aO,exec,jP]
theorem aom{lo:Option ao}{b:Option ao}{a:Option ao}:aO X (.slsl n x lo b a) e E K Kp=(dg (gE n (x.get e) (lo.map (·.get e)) (b.map (·.get e)) (a.map (·.get e))) λv=>K v E):=by
 simp only[aO,exec,jP]
theorem aon{lo:Option ao}{a:Option ao}:aO X (.slarr n sz x lo a) e E K Kp=(dg (qs X n sz (x.get e) (lo.map (·.get e)) (a.map (·.get e))) λv=>K v E):=by
 simp only[aO,exec,jP]
theorem aoo:aO X (.faddr n x) e E K Kp=(dg (mw X n (x.get e)) λv=>K v E):=by
 simp only[aO,exec,jP]
def aop{agg:Bool}{off:Nat}:aO X (.fld agg n off x) e E K Kp=(dg (match x.get e with|.agg cs=>part agg n cs off|_=>none) λv=>K v E):=by
 simp only[aO,exec];cases x.get e<;>first|rfl|exact jP
theorem aoq{i:ao}:aO X (.iaddra n sz x i) e E K Kp=(dg (uv X n sz (x.get e) (i.get e)) λv=>K v E):=by
 simp only[aO,exec,jP]
theorem aor{i:ao}:aO X (.iaddrs sz x i) e E K Kp=(dg (jL sz (x.get e) (i.get e)) λv=>K v E):=by
 simp only[aO,exec,jP]
theorem aos{agg:Bool}{i:ao}:aO X (.idxa agg n sz x i) e E K Kp=(dg (qu agg n sz (x.get e) (i.get e)) λv=>K v E):=by
 simp only[aO,exec,jP]
theorem aot{i:ao}:aO X (.idxs x i) e E K Kp=(dg (xL (x.get e) (i.get e)) λv=>K v E):=by
 simp only[aO,exec,jP]
theorem aou{b:EK}{z:AV}{m:ao}{k:ao}{a:Bool}:aO X (.lookup b z m k a) e E K Kp=(dg (jK X.gu E b z (m.get e) (k.get e) a) λv=>K v E):=by
 simp only[aO,exec,jP]
theorem aov{a:EK}{m:ao}{k:ao}{v:ao}:aO X (.oO a m k v) e E K Kp=(dg (mv E a (m.get e) (k.get e) (v.get e)) λE'=>K .undef E'):=by
 simp only[aO,exec];cases mv E a (m.get e) (k.get e) (v.get e)<;>rfl
theorem aow{z:AV}{t:TypeId}{a:Bool}:aO X (.ta z x t a) e E K Kp=(dg (z9 z (x.get e) t a) λv=>K v E):=by
 simp only[aO,exec,jP]
def aox:aO X (.ext x i) e E K Kp=(dg (match x.get e with|.aA vs=>vs[i]?|_=>none) λv=>K v E):=by
 simp only[aO,exec];cases x.get e<;>first|rfl|exact jP
theorem aoy{k:EK}:aO X (.len k x) e E K Kp=(dg (gF E k (x.get e)) λv=>K v E):=by
 simp only[aO,exec,jP]
def aoz{ty:TypeId}{bytes:Nat}{s:ao}:aO X (.append ty sz bytes s x) e E K Kp=(dg (elems E sz (x.get e)) λys=>dg (dO E ty sz bytes (s.get e) ys) λp=>K p.1 p.2):=by
 simp only[aO,exec];cases elems E sz (x.get e)with
 |none=>rfl
 |some ys=>simp only[dg];cases dO E ty sz bytes (s.get e) ys<;>rfl
theorem aoA{d:ao}{s:ao}:aO X (.copy sz d s) e E K Kp=(dg (rS E sz (d.get e) (s.get e)) λp=>K p.1 p.2):=by
 simp only[aO,exec];cases rS E sz (d.get e) (s.get e)<;>rfl
theorem aoB:aO X (.clear z x) e E K Kp=(dg (rT E z (x.get e)) λE'=>K .undef E'):=by
 simp only[aO,exec];cases rT E z (x.get e)<;>rfl
theorem aoC{xs:List ao}:aO X (.max xs) e E K Kp=(dg (gU qt (xs.map (·.get e))) λv=>K v E):=by
 simp only[aO,exec,jP]
theorem aoD{xs:List ao}:aO X (.min xs) e E K Kp=(dg (gU v5 (xs.map (·.get e))) λv=>K v E):=by
 simp only[aO,exec,jP]
def aoE:aO X (.panic x) e E K Kp=(dg (match x.get e with|.du t v=>some (AV.du t v)|_=>none) λv=>Kp v E):=by
 simp only[aO,exec];cases x.get e<;>rfl
def Hd(b:Bool)(v:AV)(e:Env)(t:Nat):AV:=match b with|true=>v|false=>e t
theorem WE:Hd true v e t=v:=rfl
theorem WG:Hd false v e t=e t:=rfl
def WH{d:Nat}: (e.set d v) t=Hd (d==t) v e t:=by
 unfold Env.set Hd
 grind
theorem He{t b:Bool}{A B C:Prop}:ym (.bool t) b A B C=((t=b->A)/\ (t=(!b)->B)):=rfl
theorem push_mk{H:List ae}{o:ae}:AS.push ⟨H,lo⟩ o=⟨H++[o],lo⟩:=rfl
theorem set_mk{H:List ae}{id:Nat}{o:ae}:AS.set ⟨H,lo⟩ id o r=⟨H.set id o,if r<=id+1 then lo else cO lo id⟩:=rfl
end
section
variable{H L:List ae}{n k:Nat}
def dB(h:H.length=n): (H++L)[n]?=L[0]?:=by grind
def bM(h:H.length=n): (H++L)[n+k]?=L[k]?:=by grind
theorem Hf{o:ae}(h:H.length=n): (H++L).set n o=H++L.set 0 o:=by grind
theorem m7{o:ae}(h:H.length=n): (H++L).set (n+k) o=H++L.set k o:=by grind
def mC(h:H.length=n): (H++L).take n=H:=by grind
end
def Hg{v':AV}{H:List ae}(a: (match aj with|none=>true|some j=>decide (n<=j))=true)(b:freeze ⟨H,aj⟩ n 12 v=some v'):finish n lo v ⟨H,aj⟩=(v',⟨H.take n,lo⟩):=by
 cases aj with
 |none=>simp[finish,b]
 |some j=>simp[finish,a,b]
def yo{E:AS}(h:v.refs<=n):freeze E n (k+1) v=some v:=by
 unfold freeze;grind
def WI{H:List ae}(a: (match aj with|none=>true|some j=>decide (n<=j))=true)(b:v.refs<=n):finish n lo v ⟨H,aj⟩=(v,⟨H.take n,lo⟩):=
 Hg a (yo b)
def wrap_i64{n:Int}(h: -9223372036854775808<=n)(a:n<=9223372036854775807):IntKind.wrap .i64 n=n:=by
 unfold IntKind.wrap IntKind.bits IntKind.signed;grind
def wrap_u64{n:Int}(h:0<=n)(a:n<=18446744073709551615):IntKind.wrap .u64 n=n:=by
 unfold IntKind.wrap IntKind.bits IntKind.signed;grind
def wrap_u32{n:Int}(h:0<=n)(a:n<=4294967295):IntKind.wrap .u32 n=n:=by
 unfold IntKind.wrap IntKind.bits IntKind.signed;grind
def wrap_i32{n:Int}(h: -2147483648<=n)(a:n<=2147483647):IntKind.wrap .i32 n=n:=by
 unfold IntKind.wrap IntKind.bits IntKind.signed;grind
def wrap_u16{n:Int}(h:0<=n)(a:n<=65535):IntKind.wrap .u16 n=n:=by
 unfold IntKind.wrap IntKind.bits IntKind.signed;grind
def wrap_u8{n:Int}(h:0<=n)(a:n<=255):IntKind.wrap .u8 n=n:=by
 unfold IntKind.wrap IntKind.bits IntKind.signed;grind
def S(l:lB):AV:=.str ⟨l.toArray⟩
theorem aoF(l:lB): (⟨l.toArray⟩:ByteArray).size=l.length:=by rfl
def o(d:Nat)(i:I):aQ:=⟨none,some d,i⟩
def u(i:I):aQ:=⟨none,none,i⟩
def gt(t:Nat)(d:oN)(i:I):aQ:=⟨some (t,true),d,i⟩
def gf(t:Nat)(d:oN)(i:I):aQ:=⟨some (t,false),d,i⟩
def ci(n:Int):ao:=.c (.int .i64 n)
def cf(f:Nat):ao:=.c (.fn (.func f) [] [])
def lY(P:Program)(f:Nat)(pf:PF):Prop:= ∃rows fn,P.funcs[f]?=some fn/\Cx P rows fn=some pf
section
variable{X:Ctx}{f:FuncId}{rd:Bool}{fr:Fr}{E:AS}{Q:bY}{e:Env}{ms:lN}{K Kp:AV->AS->Prop}
def aoG{i:I}{os:List aQ}:dL X (gt t d i::os) ⟨e,ms⟩ E Q=
 ym (e t) true (aO X i (e.set t (.bool true)) E (λv E'=>dL X os (Fr.put ⟨e.set t (.bool true),ms⟩ d v) E' Q) (λv E'=>Q (.panic v) ⟨e.set t (.bool true),ms⟩ E'))
  (dL X os (Fr.put ⟨e.set t (.bool false),ms⟩ d .undef) E Q) (dL X os (Fr.put ⟨e,ms⟩ d .undef) E Q):=WB
def aoH{i:I}{os:List aQ}:dL X (gf t d i::os) ⟨e,ms⟩ E Q=
 ym (e t) false (aO X i (e.set t (.bool false)) E (λv E'=>dL X os (Fr.put ⟨e.set t (.bool false),ms⟩ d v) E' Q) (λv E'=>Q (.panic v) ⟨e.set t (.bool false),ms⟩ E'))
  (dL X os (Fr.put ⟨e.set t (.bool true),ms⟩ d .undef) E Q) (dL X os (Fr.put ⟨e,ms⟩ d .undef) E Q):=WB
end
theorem WJ:ao.get e (.t i)=e i:=rfl
theorem WK:ao.get e (.c v)=v:=rfl
theorem WL{n:Int}:ao.get e (ci n)= .int .i64 n:=rfl
theorem WM{f:Nat}:ao.get e (cf f)= .fn (.func f) [] []:=rfl
def Nu{X:Ctx}(pf:PF){args:lA}{H:List ae}{a:aU}(b:X.cg f=none)(g:X.code f=some pf)(c:Nat.ble args.length pf.ntmps=true)
 (h: ∀n,H.length=n->wp X f false pf.body ⟨dv args,[]⟩ ⟨H,none⟩ (dX X n lo pf.results (· =a))):D X (.fn (.func f) [] []) args ⟨H,lo⟩=some a:=by grind [Nat.le_of_ble_eq_true,WC]
def aoI{X:Ctx}(pf:PF){args:lA}{H:List ae}{R:aU->Prop}(b:X.cg f=none)(g:X.code f=some pf)(c:Nat.ble args.length pf.ntmps=true)
 (h: ∀n,H.length=n->wp X f false pf.body ⟨dv args,[]⟩ ⟨H,none⟩ (dX X n lo pf.results R)): ∃a,D X (.fn (.func f) [] []) args ⟨H,lo⟩=some a/\R a:=by simp_all[ao6,Nt]
theorem WN{X:Ctx}{E:AS}:gg X E e [.t t]=some (e t):=rfl
theorem aoJ{X:Ctx}{E:AS}{u:Nat}:gg X E e [.t t,.t u]=some (.aA [e t,e u]):=rfl
theorem aoK{X:Ctx}{E:AS}{u v:Nat}:gg X E e [.t t,.t u,.t v]=some (.aA [e t,e u,e v]):=rfl
theorem yp{E:AS}:dV E []=some E:=rfl
def C9(x:AV)(i:Nat):Option AV:=match x with|.aA vs=>vs[i]?|_=>none
def WO(agg:Bool)(n off:Nat)(x:AV):Option AV:=match x with|.agg cs=>part agg n cs off|_=>none
def sd(E:AS)(x:AV)(tg:Option TypeId):Option (AV×AS):=if x.cx=false then some (.ptr E.heap.length 0,E.push (.box x.cells tg))else none
def Nv(z:lA)(a:List (Nat×Nat×AV)):Option AV:=(eH z a).map .agg
def Nw(z:lA)(len:Nat)(a:List (Nat×Nat×AV)):Option AV:=(eH (List.replicate len z).flatten a).map λcs=>.sl (chunks z.length len cs) true
def Nx(E:AS)(ty:TypeId)(z:lA)(len:Nat)(a:List (Nat×Nat×AV)):Option (AV×AS):=
 (eH (List.replicate len z).flatten a).map λcs=>(.ref E.heap.length 0 z.length 0 len false,E.push (.row 0 z.length ty (chunks z.length len cs)))
def WQ(x:AV):Option AV:=match x with|.du t v=>some (.du t v)|_=>none
def Hh(x:AV):Option AV:=match x with|.str s=>if s.size<=room then some (.sl (rR s) false)else none|_=>none
section
variable(X:Ctx)
def kV(os:List aQ)(d:Nat)(e:Env)(ms:lN)(Q:bY):AV->AS->Prop:=λv E=>dL X os ⟨e.set d v,ms⟩ E Q
def kU(os:List aQ)(e:Env)(ms:lN)(Q:bY):AV->AS->Prop:=λ_ E=>dL X os ⟨e,ms⟩ E Q
def kP(e:Env)(ms:lN)(Q:bY):AV->AS->Prop:=λv E=>Q (.panic v) ⟨e,ms⟩ E
def okV(r:Option AV)(K:AV->AS->Prop)(E:AS):Prop:=match r with|some v=>K v E|none=>False
def wg(r:Option AS)(K:AV->AS->Prop):Prop:=match r with|some E=>K .undef E|none=>False
def qJ(r:Option (AV×AS))(K:AV->AS->Prop):Prop:=match r with|some p=>K p.1 p.2|none=>False
def okB(r:Option Bool)(a:Bool)(K:AV->AS->Prop)(E:AS):Prop:=match r with|some b=>K (.bool (if a then !b else b)) E|none=>False
def WR(k:IntKind)(x:AV)(K:AV->AS->Prop)(E:AS):Prop:=match x with|.int _ n=>K (.int k (k.wrap n)) E|_=>False
def Ny(c a b:AV)(K:AV->AS->Prop)(E:AS):Prop:=match c with|.bool t=>K (if t then a else b) E|_=>False
def WS(r:Option (List lA))(ty:TypeId)(sz bytes:Nat)(s:AV)(K:AV->AS->Prop)(E:AS):Prop:=match r with|some ys=>qJ (dO E ty sz bytes s ys) K|none=>False
def od(f:FuncId)(rd:Bool)(a b:PC)(fr:Fr)(E:AS)(Q:bY)(c:AV):Prop:=Hb c true (wp X f rd a fr E Q) (wp X f rd b fr E Q)
def gK(t:Nat)(b:Bool)(d:oN)(i:I)(os:List aQ)(e:Env)(ms:lN)(E:AS)(Q:bY)(c:AV):Prop:=
 ym c b (aO X i (e.set t (.bool b)) E (match d with|some d=>kV X os d (e.set t (.bool b)) ms Q|none=>kU X os (e.set t (.bool b)) ms Q) (kP (e.set t (.bool b)) ms Q))
  (dL X os (Fr.put ⟨e.set t (.bool (!b)),ms⟩ d .undef) E Q) (dL X os (Fr.put ⟨e,ms⟩ d .undef) E Q)
end
section
variable{X:Ctx}{f:FuncId}{rd:Bool}{fr:Fr}{E:AS}{Q:bY}{e:Env}{ms:lN}{K Kp:AV->AS->Prop}{t:Nat}{d:oN}{i:I}{os:List aQ}{dd:Nat}
theorem jQ{r:Option AV}:dg r (λv=>K v E)=okV r K E:=by cases r<;>rfl
theorem Nz{r:Option AS}:dg r (λE'=>K .undef E')=wg r K:=by cases r<;>rfl
theorem NA{r:Option (AV×AS)}:dg r (λp=>K p.1 p.2)=qJ r K:=by cases r<;>rfl
def WT:dL X (o dd i::os) ⟨e,ms⟩ E Q=aO X i e E (kV X os dd e ms Q) (kP e ms Q):=Nr
def WU:dL X (u i::os) ⟨e,ms⟩ E Q=aO X i e E (kU X os e ms Q) (kP e ms Q):=Nr
def NB:dL X (gt t d i::os) ⟨e,ms⟩ E Q=gK X t true d i os e ms E Q (e t):=by
 rw[aoG];cases d<;>rfl
def NC:dL X (gf t d i::os) ⟨e,ms⟩ E Q=gK X t false d i os e ms E Q (e t):=by
 rw[aoH];cases d<;>rfl
theorem WV:kV X os dd e ms Q v E=dL X os ⟨e.set dd v,ms⟩ E Q:=rfl
theorem WW:kU X os e ms Q v E=dL X os ⟨e,ms⟩ E Q:=rfl
theorem WX:kP e ms Q v E=Q (.panic v) ⟨e,ms⟩ E:=rfl
theorem WY:okV (some v) K E=K v E:=rfl
def WZ{c:Prop}[Decidable c]{v:Option AV}:okV (if c then v else none) K E=(c/\okV v K E):=by split<;>simp[*,okV]
theorem W4:wg (some E) K=K .undef E:=rfl
def W5{c:Prop}[Decidable c]{v:Option AS}:wg (if c then v else none) K=(c/\wg v K):=by split<;>simp[*,wg]
theorem W7:qJ (some (v,E)) K=K v E:=rfl
theorem W8{b:Bool}:okB (some b) false K E=K (.bool b) E:=rfl
theorem W9{b:Bool}:okB (some b) true K E=K (.bool (!b)) E:=rfl
theorem Xa{k:IntKind}{n:Int}:WR k (.int k' n) K E=K (.int k (k.wrap n)) E:=rfl
theorem Xb{a b:AV}:Ny (.bool true) a b K E=K a E:=rfl
theorem Xc{a b:AV}:Ny (.bool false) a b K E=K b E:=rfl
theorem Xd{ys:List lA}{ty:TypeId}{bytes:Nat}{s:AV}:WS (some ys) ty sz bytes s K E=qJ (dO E ty sz bytes s ys) K:=rfl
def ND{c:ao}{a:PC}:wp X f rd (.cond c a b) fr E Q=od X f rd a b fr E Q (c.get fr.env):=wp_cond
def Xe{a:PC}:od X f rd a b fr E Q (.bool true)=wp X f rd a fr E Q:=by simp[od,Hc]
def Xf{a:PC}:od X f rd a b fr E Q (.bool false)=wp X f rd b fr E Q:=by simp[od,Hc]
def cm{a:PC}{p:Prop}[Decidable p]:od X f rd a b fr E Q (.bool (decide p))=((p->wp X f rd a fr E Q)/\ (¬p->wp X f rd b fr E Q)):=by simp[od,Hc]
def Xg{a:PC}:od X f rd a b fr E Q (.bool (!c))=od X f rd b a fr E Q (.bool c):=by cases c<;>simp[od,Hc]
theorem Xh{b:Bool}{c:lA}:gK X t b (some dd) i os e ms E Q (.aA c)=dL X os ⟨e.set dd .undef,ms⟩ E Q:=rfl
theorem Xi{b:Bool}{c:lA}:gK X t b none i os e ms E Q (.aA c)=dL X os ⟨e,ms⟩ E Q:=rfl
def Xj:gK X t true (some dd) i os e ms E Q (.bool true)=aO X i (e.set t (.bool true)) E (kV X os dd (e.set t (.bool true)) ms Q) (kP (e.set t (.bool true)) ms Q):=by simp[gK,He]
def Xk:gK X t false (some dd) i os e ms E Q (.bool false)=aO X i (e.set t (.bool false)) E (kV X os dd (e.set t (.bool false)) ms Q) (kP (e.set t (.bool false)) ms Q):=by simp[gK,He]
def Xl:gK X t true d i os e ms E Q (.bool false)=dL X os (Fr.put ⟨e.set t (.bool false),ms⟩ d .undef) E Q:=by simp[gK,He]
def Xm:gK X t false d i os e ms E Q (.bool true)=dL X os (Fr.put ⟨e.set t (.bool true),ms⟩ d .undef) E Q:=by simp[gK,He]
def Xn{b:Bool}{p:Prop}[Decidable p]:gK X t b d i os e ms E Q (.bool (decide p))=((p->gK X t b d i os e ms E Q (.bool true))/\ (¬p->gK X t b d i os e ms E Q (.bool false))):=by
 by_cases h:p<;>simp[h]
theorem Xo:aO X (.mov x) e E K Kp=(K (x.get e) E):=by rfl
def Xp{c:ao}{a:ao}{b:ao}:aO X (.pick c a b) e E K Kp=(Ny (c.get e) (a.get e) (b.get e) K E):=by
 first|rfl|rfl|rfl|rfl| (rw[an5];cases c.get e<;>rfl)
theorem Xq:aO X (.alloc z tg) e E K Kp=(K (.ptr E.heap.length 0) (E.push (.box z tg))):=by rfl
def Xr{agg:Bool}{a:ao}:aO X (.load agg n a) e E K Kp=(okV (cp X E agg n (a.get e)) K E):=by grind [aoa,jQ]
def Xs{a:ao}{v:ao}:aO X (.store n a v) e E K Kp=(wg (kp E n (a.get e) (v.get e)) K):=by grind [aob,Nz]
def Xt:aO X (.nilck x) e E K Kp=(okV (v7 (x.get e)) K E):=by grind [aoc,jQ]
def Xu{a:BinOp}:aO X (.bin a x y) e E K Kp=(okV (dE a (x.get e) (y.get e)) K E):=by grind [aod,jQ]
def Xv{a:BinOp}:aO X (.shf a x y) e E K Kp=(okV (k5 a (x.get e) (y.get e)) K E):=by grind [aoe,jQ]
def Xw{k:EK}:aO X (.eq k x y) e E K Kp=(okB (eI k (x.get e) (y.get e)) false K E):=by
 first|rfl|rfl|rfl|rfl| (rw[aof];cases eI k (x.get e) (y.get e)<;>rfl)
def Xx{k:EK}:aO X (.ne k x y) e E K Kp=(okB (eI k (x.get e) (y.get e)) true K E):=by
 first|rfl|rfl|rfl|rfl| (rw[aog];cases eI k (x.get e) (y.get e)<;>rfl)
def Xy{a:UnOp}:aO X (.un a x) e E K Kp=(okV (xK a (x.get e)) K E):=by grind [aoh,jQ]
def Xz{k:IntKind}:aO X (.conv k x) e E K Kp=(WR k (x.get e) K E):=by
 first|rfl|rfl|rfl|rfl| (rw[aoi];cases x.get e<;>rfl)
theorem XD{t:TypeId}:aO X (.mki t x) e E K Kp=(K (.du t (x.get e)) E):=by rfl
theorem XE{f:Fn}{first:List ao}{cap:List ao}:aO X (.mkf f first cap) e E K Kp=(K (.fn f (first.map (ao.get e)) (cap.map (ao.get e))) E):=by rfl
theorem XF:aO X (.nT) e E K Kp=(K (.mp E.heap.length) (E.push (.map []))):=by rfl
def XG{lo:Option ao}{a:Option ao}:aO X (.slstr x lo a) e E K Kp=(okV (uu (x.get e) (lo.map (ao.get e)) (a.map (ao.get e))) K E):=by grind [aol,jQ]
def XH{lo:Option ao}{b:Option ao}{a:Option ao}:aO X (.slsl n x lo b a) e E K Kp=(okV (gE n (x.get e) (lo.map (ao.get e)) (b.map (ao.get e)) (a.map (ao.get e))) K E):=by grind [aom,jQ]
def XI{lo:Option ao}{a:Option ao}:aO X (.slarr n sz x lo a) e E K Kp=(okV (qs X n sz (x.get e) (lo.map (ao.get e)) (a.map (ao.get e))) K E):=by grind [aon,jQ]
def XJ:aO X (.faddr n x) e E K Kp=(okV (mw X n (x.get e)) K E):=by grind [aoo,jQ]
def XK{i:ao}:aO X (.iaddra n sz x i) e E K Kp=(okV (uv X n sz (x.get e) (i.get e)) K E):=by grind [aoq,jQ]
def XL{i:ao}:aO X (.iaddrs sz x i) e E K Kp=(okV (jL sz (x.get e) (i.get e)) K E):=by grind [aor,jQ]
def XM{agg:Bool}{i:ao}:aO X (.idxa agg n sz x i) e E K Kp=(okV (qu agg n sz (x.get e) (i.get e)) K E):=by grind [aos,jQ]
def XN{i:ao}:aO X (.idxs x i) e E K Kp=(okV (xL (x.get e) (i.get e)) K E):=by grind [aot,jQ]
def XO{b:EK}{z:AV}{m:ao}{k:ao}{a:Bool}:aO X (.lookup b z m k a) e E K Kp=(okV (jK X.gu E b z (m.get e) (k.get e) a) K E):=by grind [aou,jQ]
def XP{a:EK}{m:ao}{k:ao}{v:ao}:aO X (.oO a m k v) e E K Kp=(wg (mv E a (m.get e) (k.get e) (v.get e)) K):=by grind [aov,Nz]
def XQ{z:AV}{t:TypeId}{a:Bool}:aO X (.ta z x t a) e E K Kp=(okV (z9 z (x.get e) t a) K E):=by grind [aow,jQ]
def XR{k:EK}:aO X (.len k x) e E K Kp=(okV (gF E k (x.get e)) K E):=by grind [aoy,jQ]
def XS{ty:TypeId}{bytes:Nat}{s:ao}:aO X (.append ty sz bytes s x) e E K Kp=(WS (elems E sz (x.get e)) ty sz bytes (s.get e) K E):=by
 first|rfl|rfl|rfl|rfl| (rw[aoz];cases elems E sz (x.get e)<;>first|rfl|exact NA)
def XT{d:ao}{s:ao}:aO X (.copy sz d s) e E K Kp=(qJ (rS E sz (d.get e) (s.get e)) K):=by grind [aoA,NA]
def XU:aO X (.clear z x) e E K Kp=(wg (rT E z (x.get e)) K):=by grind [aoB,Nz]
def XV{xs:List ao}:aO X (.max xs) e E K Kp=(okV (gU qt (xs.map (ao.get e))) K E):=by grind [aoC,jQ]
def XW{xs:List ao}:aO X (.min xs) e E K Kp=(okV (gU v5 (xs.map (ao.get e))) K E):=by grind [aoD,jQ]
def XX{ty:TypeId}{bytes:Nat}{l:ao}{c:ao}:aO X (.uq ty z bytes l c) e E K Kp=(qJ (rU E ty z bytes (l.get e) (c.get e)) K):=by grind [aok,NA]
def XY{i:Nat}:aO X (.ext x i) e E K Kp=(okV (C9 (x.get e) i) K E):=by
 first|rfl| (rw[aox];exact jQ)|rfl|rfl|rfl
def XZ{agg:Bool}{off:Nat}:aO X (.fld agg n off x) e E K Kp=(okV (WO agg n off (x.get e)) K E):=by
 first|rfl| (rw[aop];exact jQ)|rfl|rfl|rfl
def X7:aO X (.box x tg) e E K Kp=(qJ (sd E (x.get e) tg) K):=by
 first|rfl|rfl|rfl|rfl| (rw[an6];unfold sd;cases h: (x.get e).cx<;>simp[qJ])
def X8{a:List (Nat×Nat×ao)}:aO X (.build z a) e E K Kp=(okV (Nv z (a.map λp=>(p.1,p.2.1,p.2.2.get e))) K E):=by
 first|rfl|rfl|rfl|rfl| (rw[an7];unfold Nv;cases eH z (a.map λp=>(p.1,p.2.1,p.2.2.get e))<;>rfl)
def X9{len:Nat}{a:List (Nat×Nat×ao)}:aO X (.bslice z len a) e E K Kp=(okV (Nw z len (a.map λp=>(p.1,p.2.1,p.2.2.get e))) K E):=by
 first|rfl|rfl|rfl|rfl| (rw[an8];unfold Nw;cases eH (List.replicate len z).flatten (a.map λp=>(p.1,p.2.1,p.2.2.get e))<;>rfl)
def Ya{ty:TypeId}{len:Nat}{a:List (Nat×Nat×ao)}:aO X (.rQ ty z len a) e E K Kp=(qJ (Nx E ty z len (a.map λp=>(p.1,p.2.1,p.2.2.get e))) K):=by
 first|rfl|rfl|rfl|rfl| (rw[an9];unfold Nx;cases eH (List.replicate len z).flatten (a.map λp=>(p.1,p.2.1,p.2.2.get e))<;>rfl)
def Yb:aO X (.panic x) e E K Kp=(okV (WQ (x.get e)) Kp E):=by
 first|rfl|rfl|rfl|rfl| (rw[aoE];cases x.get e<;>rfl)
def Yc:aO X (.s2b x) e E K Kp=(okV (Hh (x.get e)) K E):=by
 first|rfl|rfl|rfl|rfl| (rw[aoj];cases x.get e<;>first|rfl| (rename_i q;simp only[Hh];by_cases a:q.size<=room<;>simp only[a,ae4,ags]<;>rfl))
end
def R1:=gG @wp_skip<|gG @wp_exit<|gG @wp_ret<|gG @wp_seq<|gG @wp_block<|gG @ND<|gG @Nq<|gG @Wo<|gG @Wp<|gG @Wq<|gG @Wr<|gG @Ws<|gG @Wt<|gG @Wu<|gG @Wv<|gG @Wy<|gG @WT<|gG @WU<|gG @NB<|gG @NC<|gG @WV<|gG @WW<|gG @WX<|gG @WD<|gG @Xo<|gG @Xp<|gG @Xq<|gG @Xr<|gG @Xs<|gG @Xt<|gG @Xu<|gG @Xv<|gG @Xw<|gG @Xx<|gG @Xy<|gG @Xz<|gG @XD<|gG @XE<|gG @XF<|gG @XG<|gG @XH<|gG @XI<|gG @XJ<|gG @XK<|gG @XL<|gG @XM<|gG @XN<|gG @XO<|gG @XP<|gG @XQ<|gG @XR<|gG @XS<|gG @XT<|gG @XU<|gG @XV<|gG @XW<|gG @XX<|gG @XY<|gG @XZ<|gG @X7<|gG @X8<|gG @X9<|gG @Ya<|gG @Yb @Yc
def R2:=gG @Ww<|gG @Wx<|gG @WY<|gG @WZ<|gG @W4<|gG @W5<|gG @W7<|gG @W8<|gG @W9<|gG @Xa<|gG @Xb<|gG @Xc<|gG @Xd<|gG @Xe<|gG @Xf<|gG @Xg<|gG @Xh<|gG @Xi<|gG @Xj<|gG @Xk<|gG @Xl<|gG @Xm<|gG @Fr.Wz<|gG @Fr.WA<|gG @WJ<|gG @WK<|gG @WL<|gG @WM<|gG @push_mk @set_mk
def R4:=gG @Xn @cm
section
variable{X:Ctx}{f:FuncId}{rd:Bool}{E:AS}{Q:bY}{e:Env}{ms:lN}{K Kp:AV->AS->Prop}{k:IntKind}{a b c:Int}{l m:lB}{n:Nat}{lo:oN}{H L:List ae}{R:aU->Prop}
def Yd:dE .add (.int k a) (.int k b)=some (.int k (k.wrap (a+b))):=by simp[dE,mr]
def Ye:dE .sub (.int k a) (.int k b)=some (.int k (k.wrap (a-b))):=by simp[dE,mr]
def Yf:dE .mul (.int k a) (.int k b)=some (.int k (k.wrap (a*b))):=by simp[dE,mr]
def Yg:dE .quo (.int k a) (.int k b)=if b≠0 then some (.int k (k.wrap (a.tdiv b)))else none:=by
 by_cases h:b=0<;>simp[dE,mr,h]
def Yh:dE .rem (.int k a) (.int k b)=if b≠0 then some (.int k (a.tmod b))else none:=by
 by_cases h:b=0<;>simp[dE,mr,h]
def Yi:dE .lss (.int k a) (.int k b)=some (.bool (decide (a<b))):=by simp[dE,mr]
def Yj:dE .leq (.int k a) (.int k b)=some (.bool (decide (a<=b))):=by simp[dE,mr]
def Yk:dE .gtr (.int k a) (.int k b)=some (.bool (decide (b<a))):=by simp[dE,mr]
def Yl:dE .geq (.int k a) (.int k b)=some (.bool (decide (b<=a))):=by simp[dE,mr]
def Da:dE .and (.int k a) (.int k b)=some (.int k (k.wrap (BitVec.ofInt k.bits a&&&BitVec.ofInt k.bits b).toNat)):=by simp[dE,mr,vX]
def Hi:dE .or (.int k a) (.int k b)=some (.int k (k.wrap (BitVec.ofInt k.bits a|||BitVec.ofInt k.bits b).toNat)):=by simp[dE,mr,vX]
def NF:dE .xor (.int k a) (.int k b)=some (.int k (k.wrap (BitVec.ofInt k.bits a^^^BitVec.ofInt k.bits b).toNat)):=by simp[dE,mr,vX]
def NG:dE .andNot (.int k a) (.int k b)=some (.int k (k.wrap (BitVec.ofInt k.bits a&&& ~~~ (BitVec.ofInt k.bits b)).toNat)):=by simp[dE,mr,vX]
def AA:k5 .shl (.int k a) (.int k' b)=if 0<=b then some (.int k (k.wrap (a*2^(min b.toNat k.bits))))else none:=by
 by_cases h:0<=b
 ·have: ¬b<0:=by omega
  simp[k5,vY,h,this]
 ·have:b<0:=by omega
  simp[k5,vY,h,this]
def Db:k5 .shr (.int k a) (.int k' b)=if 0<=b then some (.int k (a.fdiv (2^(min b.toNat k.bits))))else none:=by
 by_cases h:0<=b
 ·have: ¬b<0:=by omega
  simp[k5,vY,h,this]
 ·have:b<0:=by omega
  simp[k5,vY,h,this]
def eq_int:eI .int (.int k a) (.int k b)=some (decide (a=b)):=by
 simp only[eI,qo,ae4];grind
theorem Ym{x y:Bool}:eI .bool (.bool x) (.bool y)=some (x==y):=rfl
theorem Yn{x:Bool}:xK .not (.bool x)=some (.bool !x):=rfl
theorem Yo:xK .neg (.int k a)=some (.int k (k.wrap (0-a))):=rfl
theorem Yp:gF E .str (S l)=some (.int .i64 l.length):=by rfl
def Yq:xL (S l) (.int k a)=if 0<=a/\a<l.length then some (.int .u8 (l.getD a.toNat 0).toNat)else none:=by
 simp only[xL,qq,S]
 grind
def aoL(i j:Nat): (⟨l.toArray⟩:ByteArray).extract i j=⟨((l.take j).drop i).toArray⟩:=by
 apply ByteArray.ext;simp[ByteArray.data_extract,awQ]
def Hj:uu (S l) (some (.int k a)) none=if 0<=a/\a<=l.length then some (S (l.drop a.toNat))else none:=by
 simp only[uu,S,gT,lO,aoF];by_cases h:0<=a/\a<=l.length
 ·simp_all[ac6,aoL]
 grind
theorem Yr: (S l).cx=false:=rfl
theorem Ys: (S l).cells=[S l]:=rfl
theorem Yt: (S l).refs=0:=rfl
def Yu:dX X n lo [.t t] R .ret ⟨e,[]⟩ E=R (.ret (finish n lo (e t) E).1 (finish n lo (e t) E).2):=by
 simp[dX,dV,WN]
def Yv{u:Nat}:dX X n lo [.t t,.t u] R .ret ⟨e,[]⟩ E=R (.ret (finish n lo (.aA [e t,e u]) E).1 (finish n lo (.aA [e t,e u]) E).2):=by
 simp[dX,dV,aoJ]
def Yw{u v:Nat}:dX X n lo [.t t,.t u,.t v] R .ret ⟨e,[]⟩ E=R (.ret (finish n lo (.aA [e t,e u,e v]) E).1 (finish n lo (.aA [e t,e u,e v]) E).2):=by
 simp[dX,dV,aoK]
def Yx:dX X n lo [] R .ret ⟨e,[]⟩ E=R (.ret (finish n lo (.aA []) E).1 (finish n lo (.aA []) E).2):=by
 simp[dX,dV,gg,kr]
def Yy:dX X n lo [] R .normal ⟨e,[]⟩ E=R (.ret (finish n lo (.aA []) E).1 (finish n lo (.aA []) E).2):=by
 simp[dX,dV,gg,kr]
def uG:finish n lo v ⟨H,none⟩=if v.refs<=n then(v,⟨H.take n,lo⟩)else match freeze ⟨H,none⟩ n 12 v with|some v'=>(v',⟨H.take n,lo⟩)|none=>(v,⟨H,gS lo none⟩):=by
 by_cases h:v.refs<=n
 ·rw[ac6 h,WI rfl h]
 ·rw[ac0 h];rfl
def Dc:finish n lo v ⟨H,some j⟩=if n<=j then(if v.refs<=n then(v,⟨H.take n,lo⟩)else match freeze ⟨H,some j⟩ n 12 v with|some v'=>(v',⟨H.take n,lo⟩)|none=>(v,⟨H,gS lo (some j)⟩))else(v,⟨H,gS lo (some j)⟩):=by
 by_cases d:n<=j
 ·rw[ac6 d];by_cases h:v.refs<=n
  ·rw[ac6 h,WI (by grind) h]
  ·rw[ac0 h];simp only[finish,ae1,ac6 d];rfl
 ·simp only[finish,ae1,ac0 d]
def Yz(h:H.length=n):H.take n=H:=by grind
theorem YA{agg:Bool}{m id off:Nat}{lo:oN}:cp X ⟨H,lo⟩ agg m (.ptr id off)=match H[id]? with
 |some (.box cs _)=>part agg m cs off
 |_=>none:=rfl
theorem YB{agg:Bool}{m off:Nat}{cs:lA}:cp X E agg m (.fe cs off)=part agg m cs off:=rfl
theorem YC{m id off:Nat}{v:AV}{lo:oN}:kp ⟨H,lo⟩ m (.ptr id off) v=match H[id]? with
 |some (.box cs tg)=>if v.cx=false/\v.cells.length=m/\off+m<=cs.length then some (AS.set ⟨H,lo⟩ id (.box (aN cs off v.cells) tg) v.refs)else none
 |_=>none:=rfl
theorem YD{m:Nat}{cs:lA}{off:Nat}:part false m cs off=cs[off]?:=rfl
theorem YE{m:Nat}{cs:lA}{off:Nat}:part true m cs off=if off+m<=cs.length then some (.agg ((cs.drop off).take m))else none:=rfl
theorem YF{id off:Nat}:v7 (.ptr id off)=some (.ptr id off):=rfl
theorem YG{id off:Nat}:v7 (.dA id ak i off)=some (.dA id ak i off):=rfl
theorem YH{cs:lA}{off:Nat}:v7 (.fe cs off)=some (.fe cs off):=rfl
theorem YI{id off m:Nat}:mw X m (.ptr id off)=some (.ptr id (off+m)):=rfl
theorem YJ{id off m:Nat}:mw X m (.dA id ak i off)=some (.dA id ak i (off+m)):=rfl
theorem YK{cs:lA}{off m:Nat}:mw X m (.fe cs off)=some (.fe cs (off+m)):=rfl
theorem YL:sd E (.int k a) tg=some (.ptr E.heap.length 0,E.push (.box [.int k a] tg)):=rfl
theorem YM{b:Bool}:sd E (.bool b) tg=some (.ptr E.heap.length 0,E.push (.box [.bool b] tg)):=rfl
theorem YN:sd E (S l) tg=some (.ptr E.heap.length 0,E.push (.box [S l] tg)):=rfl
theorem YO{cs:lA}:sd E (.agg cs) tg=some (.ptr E.heap.length 0,E.push (.box cs tg)):=rfl
def YP{cs:lA}:aN cs 0 vs=vs++cs.drop vs.length:=by simp[aN]
def YQ{cs:lA}{c:AV}{off:Nat}:aN (c::cs) (off+1) vs=c::aN cs off vs:=by
 simp[aN,Nat.add_right_comm]
theorem YR{k:IntKind}{n:Int}:AV.cx (.int k n)=false:=rfl
theorem YS{k:IntKind}{n:Int}:AV.cells (.int k n)=[.int k n]:=rfl
theorem YT{b:Bool}:AV.cx (.bool b)=false:=rfl
theorem YU{b:Bool}:AV.cells (.bool b)=[.bool b]:=rfl
theorem YW{o:Nat}:AV.cx (.ptr i o)=false:=rfl
theorem YX{o:Nat}:AV.cells (.ptr i o)=[.ptr i o]:=rfl
theorem YY{v o:Nat}:AV.cx (.dA i v j o)=false:=rfl
theorem YZ{v o:Nat}:AV.cells (.dA i v j o)=[.dA i v j o]:=rfl
theorem Y0{cs:lA}{o:Nat}:AV.cx (.fe cs o)=false:=rfl
theorem Y1{cs:lA}{o:Nat}:AV.cells (.fe cs o)=[.fe cs o]:=rfl
theorem Y2:AV.cx (.fN)=false:=rfl
theorem Y3:AV.cells (.fN)=[.fN]:=rfl
theorem Y4:AV.cx (.au)=false:=rfl
theorem Y5:AV.cells (.au)=[.au]:=rfl
theorem Y6{c:Bool}:AV.cx (.sl af c)=false:=rfl
theorem Y7{c:Bool}:AV.cells (.sl af c)=[.sl af c]:=rfl
theorem Y8{v z o l:Nat}{c:Bool}:AV.cx (.ref i v z o l c)=false:=rfl
theorem Y9{v z o l:Nat}{c:Bool}:AV.cells (.ref i v z o l c)=[.ref i v z o l c]:=rfl
theorem Za{z o l:Nat}:AV.cx (.fC i z o l)=false:=rfl
theorem Zb{z o l:Nat}:AV.cells (.fC i z o l)=[.fC i z o l]:=rfl
theorem Zc:AV.cx (.mo)=false:=rfl
theorem Zd:AV.cells (.mo)=[.mo]:=rfl
theorem Ze:AV.cx (.mp i)=false:=rfl
theorem Zf:AV.cells (.mp i)=[.mp i]:=rfl
theorem Zg{f:Fn}{a b:lA}:AV.cx (.fn f a b)=false:=rfl
theorem Zh{f:Fn}{a b:lA}:AV.cells (.fn f a b)=[.fn f a b]:=rfl
theorem Zi:AV.cx (.dD)=false:=rfl
theorem Zj:AV.cells (.dD)=[.dD]:=rfl
theorem Zk{t:TypeId}:AV.cx (.du t v)=false:=rfl
theorem Zl{t:TypeId}:AV.cells (.du t v)=[.du t v]:=rfl
theorem Zm:AV.cx (.eV)=false:=rfl
theorem Zn:AV.cells (.eV)=[.eV]:=rfl
theorem Zo{g:Nat}:AV.cx (.dS g)=false:=rfl
theorem Zp{g:Nat}:AV.cells (.dS g)=[.dS g]:=rfl
theorem Zq{cs:lA}:AV.cx (.agg cs)=false:=rfl
theorem Zr{cs:lA}:AV.cells (.agg cs)=cs:=rfl
theorem Zs{k:IntKind}{n:Int}:AV.refs (.int k n)=0:=by rfl
theorem Zt{b:Bool}:AV.refs (.bool b)=0:=by rfl
theorem Zu{o:Nat}:AV.refs (.ptr i o)=i+1:=by rfl
theorem Zv:AV.refs (.au)=0:=by rfl
theorem Zw{v z o l:Nat}{c:Bool}:AV.refs (.ref i v z o l c)=i+1:=by rfl
theorem Zx:AV.refs (.mp i)=i+1:=by rfl
theorem Zy{f:Nat}{a b:lA}:AV.refs (.fn (.func f) a b)=max (aL a) (aL b):=by rfl
theorem ZA{t:TypeId}:AV.refs (.du t v)=v.refs:=by rfl
theorem ZB{cs:lA}:AV.refs (.agg cs)=aL cs:=by rfl
theorem ZC{cs:lA}:AV.refs (.aA cs)=aL cs:=by rfl
theorem ZD{c:Bool}:AV.refs (.sl af c)=b9 af:=by rfl
theorem ZE:aL []=0:=by rfl
theorem ZF{a:AV}{as:lA}:aL (a::as)=max a.refs (aL as):=by rfl
theorem ZG{a:AV}{as:lA}:dv (a::as) 0=a:=rfl
theorem ZH{a:AV}{as:lA}{n:Nat}:dv (a::as) (n+1)=dv as n:=rfl
theorem ZI{n:Nat}:dv [] n= .undef:=rfl
theorem ZJ: (!true)=false:=rfl
theorem ZK: (!false)=true:=rfl
end
structure Rd(E:AS)(v:AV)(sz:Nat)(af:List lA):Prop where
 kind:match v with|.au|.sl .. |.ref .. =>True|_=>False
 eq:elems E sz v=some af
 aA0: ∀el∈af,el.length=sz
def dw(v:AV)(j off:Nat):AV:=
 match v with
 |.sl af _=>.fe (af.getD j []) off
 |.ref id ak _ o _ _=>.dA id ak (o+j) off
 |_=>.qn
section
variable{X:Ctx}{E:AS}{v:AV}{sz:Nat}{af:List lA}{k:IntKind}{a:Int}
def Rd.len(h:Rd E v sz af):gF E .sl v=some (.int .i64 af.length):=by
 obtain⟨i,d,j⟩:=h;cases v<;>simp only[]at i
 ·cases d;rfl
 ·simp only[elems]at d;split at d<;>cases d;rfl
 ·simp only[elems]at d;split at d
  ·split at d
   ·simp only[gF];grind
   grind
  grind
def Rd.addr(h:Rd E v sz af):jL sz v (.int k a)=if 0<=a/\a<af.length then some (dw v a.toNat 0)else none:=by
 obtain⟨o,d,p⟩:=h;cases v<;>simp only[]at o
 ·cases d;have: ¬(0<=a/\a< (([]:List lA).length:Int)):=by simp
  rw[ac0 this];rfl
 ·simp only[elems]at d;simp only[jL,qq,dw]
  grind
 ·rename_i id ak z off len cK;simp only[elems]at d;split at d
  ·split at d
   ·rename_i j;cases d;simp only[jL,qq,dw];have e: ((List.take len (List.drop off (by assumption))).length:Nat)=len:=by rw[af9,am7];omega
    rw[e];by_cases i:0<=a/\a<len
    ·rw[ac6 ⟨i.1,i.2,j.2.2.1⟩,ac6 i]
    ·rw[ac0 (λh=>i ⟨h.1,h.2.1⟩),ac0 i]
   grind
  grind
def Rd.load(h:Rd E v sz af){off:Nat}{agg:Bool}(r:j<af.length):cp X E agg n (dw v j off)=part agg n (af.getD j []) off:=by
 obtain⟨q,d,s⟩:=h;cases v<;>simp only[]at q
 ·simp only[elems]at d;grind
 ·simp only[elems]at d;split at d<;>cases d;rfl
 ·simp only[elems]at d;split at d
  ·rename_i v' o ty i p;split at d
   ·simp only[dw,cp,p]
    grind
   grind
  grind
def Rd.faddr(h:Rd E v sz af){off:Nat}(o:j<af.length):mw X n (dw v j off)=some (dw v j (off+n)):=by
 obtain⟨i,d,p⟩:=h;cases v<;>simp only[]at i
 ·simp only[elems]at d;grind
 ·rfl
 ·rfl
theorem Rd.sl{af:List lA}(h: ∀el∈af,el.length=sz):Rd E (.sl af c) sz af:=
 ⟨trivial,by simp only[elems];grind,h⟩
theorem Rd.au:Rd E .au sz []:=⟨trivial,rfl,by simp⟩
def Rd.ext{H L:List ae}(h:Rd ⟨H,lo⟩ v sz af):Rd ⟨H++L,aj⟩ v sz af:=by
 obtain⟨i,d,j⟩:=h;refine⟨i,?_,j⟩;cases v<;>simp only[]at i
 ·exact d
 ·exact d
 ·simp only[elems]at d⊢
  grind
end
def NH{f:AV->AV->Option AV}{x:AV}:gU f [x]=some x:=by rw[gU]
def ZL{f:AV->AV->Option AV}{x y z:AV}{r:lA}(h:f x y=some z):gU f (x::y::r)=gU f (z::r):=by rw[gU,h]
def NI{k:IntKind}{a b:Int}{r:lA}:gU qt (.int k a:: .int k' b::r)=gU qt (.int k (max a b)::r):=by
 refine ZL ?_;simp only[qt];grind
def ZM{k:IntKind}{a b:Int}{r:lA}:gU v5 (.int k a:: .int k' b::r)=gU v5 (.int k (min a b)::r):=by
 refine ZL ?_;simp only[v5];grind
def Rd.mono{H H':List ae}(h:Rd ⟨H,lo⟩ v sz af)(d:H<+:H'):Rd ⟨H',aj⟩ v sz af:=by
 obtain⟨L,rfl⟩:=d;exact h.ext
def Rv(v:AV)(sz:Nat)(af:List lA):Prop:= ∀E,Rd E v sz af
def Rv.len(h:Rv v sz af){E:AS}:gF E .sl v=some (.int .i64 af.length):=(h E).len
def Rv.addr(h:Rv v sz af){k:IntKind}{a:Int}:jL sz v (.int k a)=if 0<=a/\a<af.length then some (dw v a.toNat 0)else none:=(h ⟨[],none⟩).addr
theorem Rv.load{X:Ctx}(h:Rv v sz af){E:AS}{off:Nat}{agg:Bool}(d:j<af.length):cp X E agg n (dw v j off)=part agg n (af.getD j []) off:=(h E).load d
theorem Rv.faddr{X:Ctx}(h:Rv v sz af){off:Nat}(d:j<af.length):mw X n (dw v j off)=some (dw v j (off+n)):=(h ⟨[],none⟩).faddr d
theorem Rv.sl(h: ∀el∈af,el.length=sz):Rv (.sl af c) sz af:=λ_=>.sl h
theorem Rv.au:Rv .au sz []:=λ_=>.au
def dp{v':AV}{H H':List ae}(h:v=v')(d:H=H'):aU.ret v ⟨H,lo⟩=aU.ret v' ⟨H',lo⟩:=by grind
theorem ZN: ((k+m:Nat):Int)=(k:Int)+(m:Int):=by rfl
theorem cast_zero: ((0:Nat):Int)=0:=rfl
def ZO{α:Type}[Inhabited α]{g:α->lA}{l:List α}(h:j<l.length): (l.map g).getD j []=g (l.getD j default):=by grind
section
variable{α:Type}{g:α->lA}{l:List α}{v:AV}{sz:Nat}
def Rv.bZ(h:Rv v sz (l.map g)){E:AS}:gF E .sl v=some (.int .i64 l.length):=by rw[h.len,aeK]
def Rv.cn(h:Rv v sz (l.map g)){k:IntKind}{a:Int}:jL sz v (.int k a)=if 0<=a/\a<l.length then some (dw v a.toNat 0)else none:=by rw[h.addr,aeK]
def Rv.cE[Inhabited α]{X:Ctx}(h:Rv v sz (l.map g)){E:AS}{off:Nat}{agg:Bool}(d:j<l.length):cp X E agg n (dw v j off)=part agg n (g (l.getD j default)) off:=by
 rw[h.load (by grind),ZO d]
def Rv.Hk{X:Ctx}(h:Rv v sz (l.map g)){off:Nat}(d:j<l.length):mw X n (dw v j off)=some (dw v j (off+n)):=h.faddr (by grind)
def Rd.bZ{E:AS}(h:Rd E v sz (l.map g)):gF E .sl v=some (.int .i64 l.length):=by rw[h.len,aeK]
def Rd.cn{E:AS}(h:Rd E v sz (l.map g)){k:IntKind}{a:Int}:jL sz v (.int k a)=if 0<=a/\a<l.length then some (dw v a.toNat 0)else none:=by rw[h.addr,aeK]
def Rd.cE[Inhabited α]{X:Ctx}{E:AS}(h:Rd E v sz (l.map g)){off:Nat}{agg:Bool}(d:j<l.length):cp X E agg n (dw v j off)=part agg n (g (l.getD j default)) off:=by
 rw[h.load (by grind),ZO d]
end
def V1:=gG @Yd<|gG @Ye<|gG @Yf<|gG @Yg<|gG @Yh<|gG @Yi<|gG @Yj<|gG @Yk<|gG @Yl<|gG @Da<|gG @Hi<|gG @NF<|gG @NG<|gG @AA<|gG @Db<|gG @eq_int<|gG @Ym<|gG @Yn<|gG @Yo<|gG @Yp<|gG @Yq<|gG @Hj<|gG @Yr<|gG @Ys<|gG @Yt<|gG @Yu<|gG @Yv<|gG @Yw<|gG @Yx<|gG @Yy<|gG @YA<|gG @YB<|gG @YC<|gG @YD<|gG @YE<|gG @YF<|gG @YG<|gG @YH<|gG @YI<|gG @YJ<|gG @YK<|gG @YL<|gG @YM<|gG @YN<|gG @YO<|gG @YP<|gG @YQ<|gG @WH<|gG @WE @WG
def V3:type_of% @ZG/\type_of% @cast_zero/\type_of% @ZN/\type_of% @Int.toNat_natCast/\type_of% @Int.natCast_nonneg/\type_of% @NH/\type_of% @NI/\type_of% @ZM/\type_of% @ZH/\type_of% @ZI/\type_of% @ZJ/\type_of% @ZK/\type_of% @Option.map_some.{0,0}/\type_of% @Option.map_none.{0,0}/\type_of% @List.map_cons.{0,0}/\type_of% @List.map_nil.{0,0}/\type_of% @not_false_eq_true/\type_of% @true_and/\type_of% @and_true/\type_of% @Nat.zero_le/\type_of% @List.length_cons.{0}/\type_of% @List.length_nil.{0}/\type_of% @List.length_append.{0}/\type_of% @List.length_map.{0,0}/\type_of% @if_true.{1}/\type_of% @if_false.{1}/\type_of% @if_true.{0}/\type_of% @if_false.{0}/\type_of% @ne_eq.{1}/\type_of% @List.cons_append.{0}/\type_of% @List.nil_append.{0}/\type_of% @List.append_nil.{0}/\type_of% @Nat.zero_add/\type_of% @List.length_set.{0}/\type_of% @List.append_assoc.{0}/\type_of% @List.getElem?_cons_zero.{0}/\type_of% @List.getElem?_cons_succ.{0}/\type_of% @List.set_cons_zero.{0}/\type_of% @List.set_cons_succ.{0}/\type_of% @List.drop_succ_cons.{0}/\type_of% @List.drop_zero.{0}/\type_of% @List.take_succ_cons.{0}/\type_of% @List.take_zero.{0}/\type_of% @Nat.max_self/\type_of% @Nat.zero_max/\type_of% @Nat.max_zero:=
 ⟨@ZG,@cast_zero,@ZN,@aBo,@Int.natCast_nonneg,@NH,@NI,@ZM,@ZH,@ZI,@ZJ,@ZK,@aeM.{0,0},@Option.map_none.{0,0},@aj9.{0,0},@atZ.{0,0},@axp,@aA4,@anj,@adC,@aeV.{0},@anu.{0},@aeG.{0},@aeK.{0,0},@ae4.{1},@ags.{1},@ae4.{0},@ags.{0},@ne_eq.{1},@ah6.{0},@agt.{0},@agc.{0},@aka,@aeU.{0},@ac8.{0},@arb.{0},@azw.{0},@List.set_cons_zero.{0},@List.set_cons_succ.{0},@asR.{0},@aoT.{0},@apM.{0},@List.take_zero.{0},@Nat.max_self,@Nat.zero_max,@Nat.max_zero⟩
def F1:=gG @uG @Dc
def V2:=gG @YR<|gG @YT<|gG @YW<|gG @YY<|gG @Y0<|gG @Y2<|gG @Y4<|gG @Y6<|gG @Y8<|gG @Za<|gG @Zc<|gG @Ze<|gG @Zg<|gG @Zi<|gG @Zk<|gG @Zm<|gG @Zo<|gG @Zq<|gG @YS<|gG @YU<|gG @YX<|gG @YZ<|gG @Y1<|gG @Y3<|gG @Y5<|gG @Y7<|gG @Y9<|gG @Zb<|gG @Zd<|gG @Zf<|gG @Zh<|gG @Zj<|gG @Zl<|gG @Zn<|gG @Zp<|gG @Zr<|gG @Zs<|gG @Zt<|gG @Zu<|gG @Zv<|gG @Zw<|gG @Zx<|gG @Zy<|gG @ZA<|gG @ZB<|gG @ZC<|gG @ZD<|gG @ZE @ZF
def ig:List aQ->lN
 | []=>[]
 |o::os=>match o.dst with
  |some d=>d::ig os
  |none=>ig os
def Fr.CQ{fr:Fr}(h:d≠some t): (fr.put d v).env t=fr.env t:=by
 cases d with
 |none=>rfl
 |some d=>
  simp only[Fr.put,Env.set]
  grind
section
variable{X:Ctx}{C:bJ}{L:eJ}
theorem NJ: ∀ (os:List aQ) (fr a:Fr) (E E':AS) (ex:Ex),fg X C os fr E=some (ex,a,E')-> ∀t,t∉ig os->a.env t=fr.env t
 | [],fr,a,E,E',ex,h,t,j=>by simp only[fg,ac1,apA]at h;grind
 |o::os,fr,a,E,E',ex,h,t,j=>by
  have k:o.dst≠some t:=by
   intro e;apply j;simp[ig,e]
  have g:t∉ig os:=by
   intro e;apply j;simp only[ig];grind
  simp only[fg]at h;split at h
  ·split at h
   ·rw[NJ os _ _ _ _ _ h t g,Fr.CQ k]
   ·grind
   grind
  ·rw[NJ os _ _ _ _ _ h t g,Fr.CQ k]
end
def se:lN->Nat->Bool
 | [],_=>false
 |a::as,t=>a==t||se as t
theorem ZP{t:Nat}: ∀ {W:lN},se W t=true↔t∈W
 | []=>by simp[se]
 |a::as=>by
  simp only[se,ao0,awJ,aeZ];rw[ZP]
  grind
def ZQ(b:Bool)(a e:Env)(t:Nat):AV:=match b with|true=>a t|false=>e t
theorem ZR{a:Env}:ZQ true a e t=a t:=rfl
theorem ZS{a:Env}:ZQ false a e t=e t:=rfl
section
variable{X:Ctx}{f:FuncId}{rd:Bool}{E oc:AS}{Q:bY}{e:Env}{ms:lN}{t:Nat}{b c:Bool}{d:oN}{i:I}{os:List aQ}
def NK(r:Nat)(v:AV)(ms:lN)(oc:AS)(Q:bY):bY
 |.normal,fr,E'=>fr.env r=v/\fr.marks=ms/\E'=oc
 |ex,fr,E'=>Q ex fr E'
theorem ZT{ms a:lN}:NK r v ms oc Q .normal ⟨e,a⟩ E=(e r=v/\a=ms/\E=oc):=rfl
end
def wi(e:Env):lN->Env->Env
 | [],a=>a
 |t::ts,a=>(wi e ts a).set t (e t)
theorem ZU{W:lN}{e g:Env}(h: ∀t,t∉W->g t=e t): ∀a:lN,a.all (λk=>!se W k)=true->wi e a g=g
 | [],_=>rfl
 |k::a,j=>by
  simp only[awC,aeW]at j;have l:k∉W:=by
   intro hm;have:=ZP.2 hm
   grind
  simp only[wi];rw[ZU h a j.2,<-h k l,Env.Ns]
section
variable{X:Ctx}{f:FuncId}{rd:Bool}{E:AS}{Q:bY}{e:Env}{ms:lN}{t:Nat}{b c:Bool}{d:oN}{i:I}{os:List aQ}
def aoM(oc:AS)(r:Nat)(v:AV)(g:lN)(l:g.all (λk=>!se (ig os) k)=true)(u:dL X os ⟨e,ms⟩ E (NK r v ms oc Q))(q: ∀w,Q .normal ⟨(wi e g w).set r v,ms⟩ oc):dL X os ⟨e,ms⟩ E Q:=by
 obtain⟨ex,a,E',h,j⟩:=u;have m:=NJ os _ _ _ _ _ h;refine⟨ex,a,E',h,?_⟩;cases ex with
 |normal=>
  obtain⟨p,o,n⟩:=j;have:=q a.env;rw[ZU m g l,<-p,Env.Ns,<-o,<-n]at this;omega
 |_=>exact j
def wj(r:Nat)(v:AV)(a:lN){g:AV}(l:e t=g)(j:a.all (λk=>!se (ig (⟨none,d,i⟩::os)) k)=true)(h:gK X t b d i os e ms E (NK r v ms E Q) g)(m: ∀n,Q .normal ⟨(wi e a n).set r v,ms⟩ E):gK X t b d i os e ms E Q g:=by
 subst l;have key: ∀Q,gK X t b d i os e ms E Q (e t)=dL X (⟨some (t,b),d,i⟩::os) ⟨e,ms⟩ E Q:=by
  intro Q;cases b
  ·exact NC.symm
  ·exact NB.symm
 rw[key]at h⊢;exact aoM E r v a j h m
def aoN(r:Nat)(v:AV)(ms:lN)(P:AS->Prop)(Q:bY):bY
 |.normal,fr,E'=>fr.env r=v/\fr.marks=ms/\P E'
 |ex,fr,E'=>Q ex fr E'
theorem ZV{ms a:lN}{P:AS->Prop}:aoN r v ms P Q .normal ⟨e,a⟩ E=(e r=v/\a=ms/\P E):=rfl
def NL(P:Env->List ae->oN->Prop)(Q:bY):bY
 |.normal,fr,E'=>fr.marks=[]/\P fr.env E'.heap E'.lo
 |ex,fr,E'=>Q ex fr E'
def Hl{P:Env->List ae->oN->Prop}{H:List ae}:NL P Q .normal ⟨e,[]⟩ ⟨H,lo⟩=P e H lo:=by simp[NL]
def ZW{p q:PC}{a:AV}(P:Env->List ae->oN->Prop)(g:od X f rd p q ⟨e,[]⟩ E (NL P Q) a)(l: ∀e H lo,P e H lo->Q .normal ⟨e,[]⟩ ⟨H,lo⟩):od X f rd p q ⟨e,[]⟩ E Q a:=by
 have key: ∀Q,od X f rd p q ⟨e,[]⟩ E Q a=wp X f rd (.cond (.c a) p q) ⟨e,[]⟩ E Q:=λQ=>by rw[ND];rfl
 rw[key]at g⊢;refine wp_mono g ?_;rintro ex ⟨m,ms⟩ ⟨H,lo⟩ h;cases ex with
 |normal=>obtain⟨k,j⟩:=h;grind
 |_=>exact h
end
def mD(n:Nat)(a:AV):FP:=match a with
 |.ptr id off=>.rd id off (Nat.max n 1)
 |.dA .. =>.rr
 |.fe .. =>.no
 |.dS _=>.no
 |_=>.all
def Hm(n:Nat)(a:AV):FP:=match a with
 |.ptr id off=>.wr id off n
 |.dA .. =>.app
 |_=>.all
noncomputable def AB(E E':AS):FP:=open Classical in if E'=E then .q else if E'.heap.take E.heap.length=E.heap then .new E.heap.length else .all
section
variable{e:Env}{E E':AS}
theorem ZX:aW (.mov x) e E E'= .no:=rfl
theorem ZY{c:ao}{a:ao}{b:ao}:aW (.pick c a b) e E E'= .no:=rfl
theorem ZZ{a:List (Nat×Nat×ao)}:aW (.build z a) e E E'= .no:=rfl
theorem Z0{a:List (Nat×Nat×ao)}:aW (.bslice z n a) e E E'= .no:=rfl
theorem Z1:aW (.nilck x) e E E'= .no:=rfl
theorem Z2{a:BinOp}:aW (.bin a x y) e E E'= .no:=rfl
theorem Z3{a:BinOp}:aW (.shf a x y) e E E'= .no:=rfl
theorem Z4{k:EK}:aW (.eq k x y) e E E'= .no:=rfl
theorem Z5{k:EK}:aW (.ne k x y) e E E'= .no:=rfl
theorem Z6{a:UnOp}:aW (.un a x) e E E'= .no:=rfl
theorem Z7{a:IntKind}:aW (.conv a x) e E E'= .no:=rfl
theorem Z8:aW (.s2b x) e E E'= .no:=rfl
theorem Z9{ty:TypeId}:aW (.mki ty x) e E E'= .no:=rfl
theorem aaa{fn:Fn}{g:List ao}{a:List ao}:aW (.mkf fn g a) e E E'= .no:=rfl
theorem aab{lo:Option ao}{a:Option ao}:aW (.slstr x lo a) e E E'= .no:=rfl
theorem aac{lo:Option ao}{g:Option ao}{a:Option ao}:aW (.slsl n x lo g a) e E E'= .no:=rfl
theorem aad{lo:Option ao}{a:Option ao}:aW (.slarr n m x lo a) e E E'= .no:=rfl
theorem aae:aW (.faddr n x) e E E'= .no:=rfl
theorem aaf:aW (.fld ag n m x) e E E'= .no:=rfl
theorem aag:aW (.iaddra n m x y) e E E'= .no:=rfl
theorem aah:aW (.iaddrs n x y) e E E'= .no:=rfl
theorem aai:aW (.idxa ag n m x y) e E E'= .no:=rfl
theorem aaj:aW (.idxs x y) e E E'= .no:=rfl
theorem aak{a:AV}{ty:TypeId}{g:Bool}:aW (.ta a x ty g) e E E'= .no:=rfl
theorem aal:aW (.ext x n) e E E'= .no:=rfl
theorem aam{a:List ao}:aW (.max a) e E E'= .no:=rfl
theorem aan{a:List ao}:aW (.min a) e E E'= .no:=rfl
theorem aao{k:EK}{a:AV}{g:Bool}:aW (.lookup k a x y g) e E E'= .q:=rfl
theorem aap:aW (.len .sl x) e E E'= .no/\aW (.len .str x) e E E'= .no/\aW (.len .map x) e E E'= .q:=⟨rfl,rfl,rfl⟩
theorem aaq{ty:TypeId}:aW (.append ty n m x y) e E E'= .app:=rfl
theorem aar:aW (.alloc z tg) e E E'= .all:=rfl
theorem aas:aW (.box x tg) e E E'= .all:=rfl
theorem aat{ty:TypeId}{a:List (Nat×Nat×ao)}:aW (.rQ ty z n a) e E E'= .all:=rfl
theorem aau:aW (.nT) e E E'= .all:=rfl
theorem aav{k:EK}{c:ao}:aW (.oO k x y c) e E E'= .all:=rfl
theorem aaw:aW (.copy n x y) e E E'= .all:=rfl
theorem aax:aW (.clear z x) e E E'= .all:=rfl
theorem aay:aW (.panic x) e E E'= .all:=rfl
theorem aaz:aW (.load ag n x) e E E'=mD n (x.get e):=by rfl
theorem aaA:aW (.store n x y) e E E'=Hm n (x.get e):=by rfl
theorem aaB{a:List ao}:aW (.call x a) e E E'=AB E E':=rfl
def aaC:AB E E= .q:=by simp[AB]
def aoO{b c:Nat}(h:E'.heap.take E.heap.length=E.heap)(g:a<E.heap.length):FP.ok (.rd a b c) (AB E E')=true/\FP.ok (AB E E') (.rd a b c)=true:=by
 unfold AB;split
 ·trivial
 ·exact⟨ady g,ady g⟩
theorem aaD{id off:Nat}:mD n (.ptr id off)= .rd id off (Nat.max n 1)/\mD n (.dA id ak i off)= .rr:=⟨rfl,rfl⟩
theorem aaE{off:Nat}{cs:lA}:mD n (.fe cs off)= .no:=rfl
theorem aaF{g:Nat}:mD n (.dS g)= .no:=rfl
theorem aaG{id off:Nat}:Hm n (.ptr id off)= .wr id off n/\Hm n (.dA id ak i off)= .app:=⟨rfl,rfl⟩
theorem Rv.mD(h:Rv v sz af){off:Nat}(k:j<af.length):Den.mD n (dw v j off)= .no:=by
 obtain⟨g,a,l⟩:=h ⟨[],none⟩;cases v<;>simp only[]at g
 ·simp only[Den.elems]at a;grind
 ·rfl
 ·trivial
def Rv.Hn{α:Type}{g:α->lA}{l:List α}(h:Rv v sz (l.map g)){off:Nat}(a:j<l.length):Den.mD n (dw v j off)= .no:=h.mD (by grind)
theorem Ho{x:FP}:FP.ok .no x=true:=by rfl
def Hp{x:FP}:FP.ok x .no=true:=by cases x<;>rfl
theorem Hq{b c h g:Nat}:FP.ok (.rd a b c) (.rd a' h g)=true:=rfl
theorem Hr{b c:Nat}:FP.ok (.rd a b c) .q=true:=rfl
theorem Hs{b c:Nat}:FP.ok .q (.rd a b c)=true:=rfl
theorem Ht:FP.ok .q .q=true:=rfl
theorem aaH{b c:Nat}:FP.ok .rr (.rd a b c)=true/\FP.ok (.rd a b c) .rr=true/\FP.ok .rr (.wr a b c)=true/\FP.ok (.wr a b c) .rr=true:=⟨rfl,rfl,rfl,rfl⟩
def aaI:FP.ok .rr .q=true/\FP.ok .q .rr=true/\FP.ok .rr .rr=true:=by decide
theorem Hu{b c:Nat}:FP.ok (.rd a b c) .app=true:=rfl
theorem Hv{b c:Nat}:FP.ok .app (.rd a b c)=true:=rfl
theorem Hw{b c g h:Nat}:FP.ok (.rd a b c) (.wr a' g h)=(a !=a'||b+c<=g||g+h<=b):=rfl
theorem Hx{b c g h:Nat}:FP.ok (.wr a b c) (.rd a' g h)=(a !=a'||b+c<=g||g+h<=b):=rfl
end
def qK(bO:List FP)(x:FP):lN->Bool
 | []=>true
 |j::js=>(bO.getD j .all).ok x&&qK bO x js
theorem NN{bO:List FP}{x:FP}: ∀js:lN,js.all (λj=>(bO.getD j .all).ok x)=qK bO x js
 | []=>rfl
 |j::js=>by simp only[awC,qK,NN js]
def kD(X:Ctx)(i:I)(cy:AS)(bO:List FP)(js:lN)(os:List (aQ×lN))(d:oN)(e:Env)(ms:lN)(Q:bY):AV->AS->Prop:=λv E=>
 qK bO (aW i e cy E) js=true/\ie X (bO++[aW i e cy E]) os (Fr.put ⟨e,ms⟩ d v) E Q
def kF(bO:List FP)(i:I)(d:oN)(js:lN)(os:List (aQ×lN))(e:Env)(ms:lN)(Q:bY):AV->AS->Prop:=λv E=>Cv bO (⟨none,d,i⟩,js) os=true/\Q (.panic v) ⟨e,ms⟩ E
def aaJ{X:Ctx}{E:AS}{Q:bY}{ms:lN}{bO:List FP}{js:lN}{os:List (aQ×lN)}{i:I}:ie X bO ((⟨none,d,i⟩,js)::os) ⟨e,ms⟩ E Q=aO X i e E (kD X i E bO js os d e ms Q) (kF bO i d js os e ms Q):=by
 apply propext;simp only[ie,aO,gV,gH,ae4];cases g:exec X (D X) i e E with
 |none=>simp[qI]
 |some o=>
  cases o with
  |ok v E'=>
   simp only[qI,NN];by_cases a:qK bO (aW i e E E') js=true
   ·rw[ac6 a];exact⟨λh=>⟨a,h⟩,λh=>h.2⟩
   ·simp[kD,a]
  |panic v E'=>
   simp only[qI,kF]
   grind
section
variable{X:Ctx}{f:FuncId}{rd:Bool}{E cy:AS}{Q:bY}{e:Env}{ms:lN}{bO:List FP}{js:lN}{os:List (aQ×lN)}{i:I}{d:Nat}{v:AV}
def aaK:ie X bO [] ⟨e,ms⟩ E Q=Q .normal ⟨e,ms⟩ E:=propext (by simp only[ie,gV];grind)
def aaL:ie X bO ((o d i,js)::os) ⟨e,ms⟩ E Q=aO X i e E (kD X i E bO js os (some d) e ms Q) (kF bO i (some d) js os e ms Q):=aaJ
def aaM:ie X bO ((u i,js)::os) ⟨e,ms⟩ E Q=aO X i e E (kD X i E bO js os none e ms Q) (kF bO i none js os e ms Q):=aaJ
theorem aaN:kD X i cy bO js os (some d) e ms Q v E=(qK bO (aW i e cy E) js=true/\ie X (bO++[aW i e cy E]) os ⟨e.set d v,ms⟩ E Q):=rfl
theorem aaO:kD X i cy bO js os none e ms Q v E=(qK bO (aW i e cy E) js=true/\ie X (bO++[aW i e cy E]) os ⟨e,ms⟩ E Q):=rfl
theorem aaP{x:FP}:qK bO x []=true:=rfl
theorem aaQ{x:FP}:qK bO x (j::js)=((bO.getD j .all).ok x&&qK bO x js):=rfl
def aaR{H:List ae}:wp X f rd (.ur os) ⟨e,ms⟩ ⟨H,lo⟩ Q=ie X [] (iG H.length os) ⟨e,ms⟩ ⟨H++dP os,lo⟩ Q:=an4
theorem aaS{x y:FP}{l:List FP}: (x::l).getD 0 y=x:=rfl
end
def dx:I->Option ae
 |.alloc z tg=>some (.box z tg)
 |_=>none
theorem aaT{d:Nat}{i:I}:aQ.gd (o d i)=dx i:=by rfl
theorem aaU{i:I}:aQ.gd (u i)=dx i:=by rfl
theorem aaV{i:I}:aQ.gd (gt t d i)=dx i:=by rfl
theorem aaW{i:I}:aQ.gd (gf t d i)=dx i:=by rfl
def jv(n:Nat)(x:aQ)(l:lN)(os:List (aQ×lN)):Option ae->List (aQ×lN)
 |none=>(x,l)::iG n os
 |some _=>({x with i:=.mov (.c (.ptr n 0))},l)::iG (n+1) os
def zC(os:List (aQ×lN)):Option ae->List ae
 |none=>dP os
 |some b=>b::dP os
theorem aaX:iG n []=[]:=rfl
def aaY{x:aQ}{l:lN}{os:List (aQ×lN)}:iG n ((x,l)::os)=jv n x l os x.gd:=by
 simp only[iG,lR];cases x.gd<;>rfl
theorem aaZ{x:aQ}{l:lN}{os:List (aQ×lN)}:jv n x l os none=(x,l)::iG n os:=rfl
theorem aa0{d:Nat}{i:I}{l:lN}{os:List (aQ×lN)}{b:ae}:jv n (o d i) l os (some b)=(o d (.mov (.c (.ptr n 0))),l)::iG (n+1) os:=rfl
theorem aa1{i:I}{l:lN}{os:List (aQ×lN)}{b:ae}:jv n (gt t d i) l os (some b)=(gt t d (.mov (.c (.ptr n 0))),l)::iG (n+1) os:=rfl
theorem aa2{i:I}{l:lN}{os:List (aQ×lN)}{b:ae}:jv n (gf t d i) l os (some b)=(gf t d (.mov (.c (.ptr n 0))),l)::iG (n+1) os:=rfl
theorem aa3:dP []=[]:=rfl
def aa4{x:aQ}{l:lN}{os:List (aQ×lN)}:dP ((x,l)::os)=zC os x.gd:=by
 simp only[dP];cases x.gd<;>rfl
theorem aa5{os:List (aQ×lN)}:zC os none=dP os:=rfl
theorem aa6{os:List (aQ×lN)}{b:ae}:zC os (some b)=b::dP os:=rfl
theorem aa7:dx (.alloc z tg)=some (.box z tg):=rfl
theorem aa8{a:_}:dx (.mov a)=none:=rfl
theorem aa9{h:_}{g:_}{a:_}:dx (.pick h g a)=none:=rfl
theorem aba{g:_}{a:_}:dx (.box g a)=none:=rfl
theorem abb{g:_}{a:_}:dx (.build g a)=none:=rfl
theorem abc{h:_}{g:_}{a:_}:dx (.bslice h g a)=none:=rfl
theorem abd{j:_}{h:_}{g:_}{a:_}:dx (.rQ j h g a)=none:=rfl
theorem abe{h:_}{g:_}{a:_}:dx (.load h g a)=none:=rfl
theorem abf{h:_}{g:_}{a:_}:dx (.store h g a)=none:=rfl
theorem abg{a:_}:dx (.nilck a)=none:=rfl
theorem abh{h:_}{g:_}{a:_}:dx (.bin h g a)=none:=rfl
theorem abi{h:_}{g:_}{a:_}:dx (.shf h g a)=none:=rfl
theorem abj{h:_}{g:_}{a:_}:dx (.eq h g a)=none:=rfl
theorem abk{h:_}{g:_}{a:_}:dx (.ne h g a)=none:=rfl
theorem abl{g:_}{a:_}:dx (.un g a)=none:=rfl
theorem abm{g:_}{a:_}:dx (.conv g a)=none:=rfl
theorem abn{a:_}:dx (.s2b a)=none:=rfl
theorem abo{g:_}{a:_}:dx (.mki g a)=none:=rfl
theorem abp{h:_}{g:_}{a:_}:dx (.mkf h g a)=none:=rfl
theorem abq:dx .nT=none:=rfl
theorem abr{h:_}{g:_}{a:_}:dx (.slstr h g a)=none:=rfl
theorem abt{k:_}{j:_}{h:_}{g:_}{a:_}:dx (.slsl k j h g a)=none:=rfl
theorem abu{k:_}{j:_}{h:_}{g:_}{a:_}:dx (.slarr k j h g a)=none:=rfl
theorem abv{g:_}{a:_}:dx (.faddr g a)=none:=rfl
theorem abw{j:_}{h:_}{g:_}{a:_}:dx (.fld j h g a)=none:=rfl
theorem abx{j:_}{h:_}{g:_}{a:_}:dx (.iaddra j h g a)=none:=rfl
theorem aby{h:_}{g:_}{a:_}:dx (.iaddrs h g a)=none:=rfl
theorem abz{k:_}{j:_}{h:_}{g:_}{a:_}:dx (.idxa k j h g a)=none:=rfl
theorem abA{g:_}{a:_}:dx (.idxs g a)=none:=rfl
theorem abB{k:_}{j:_}{h:_}{g:_}{a:_}:dx (.lookup k j h g a)=none:=rfl
theorem abC{j:_}{h:_}{g:_}{a:_}:dx (.oO j h g a)=none:=rfl
theorem abD{j:_}{h:_}{g:_}{a:_}:dx (.ta j h g a)=none:=rfl
theorem abE{g:_}{a:_}:dx (.ext g a)=none:=rfl
theorem abF{g:_}{a:_}:dx (.len g a)=none:=rfl
theorem abG{k:_}{j:_}{h:_}{g:_}{a:_}:dx (.append k j h g a)=none:=rfl
theorem abH{h:_}{g:_}{a:_}:dx (.copy h g a)=none:=rfl
theorem abI{g:_}{a:_}:dx (.clear g a)=none:=rfl
theorem abJ{a:_}:dx (.max a)=none:=rfl
theorem abK{a:_}:dx (.min a)=none:=rfl
theorem abL{g:_}{a:_}:dx (.call g a)=none:=rfl
theorem abM{a:_}:dx (.panic a)=none:=rfl
def N1:=gG @aaT<|gG @aaU<|gG @aaV<|gG @aaW<|gG @aaX<|gG @aaY<|gG @aaZ<|gG @aa0<|gG @aa1<|gG @aa2<|gG @aa3<|gG @aa4<|gG @aa5<|gG @aa6<|gG @aa7<|gG @aa8<|gG @aa9<|gG @aba<|gG @abb<|gG @abc<|gG @abd<|gG @abe<|gG @abf<|gG @abg<|gG @abh<|gG @abi<|gG @abj<|gG @abk<|gG @abl<|gG @abm<|gG @abn<|gG @abo<|gG @abp<|gG @abq<|gG @abr<|gG @abt<|gG @abu<|gG @abv<|gG @abw<|gG @abx<|gG @aby<|gG @abz<|gG @abA<|gG @abB<|gG @abC<|gG @abD<|gG @abE<|gG @abF<|gG @abG<|gG @abH<|gG @abI<|gG @abJ<|gG @abK<|gG @abL @abM
def P1:=gG @aaR<|gG @aaK<|gG @aaL<|gG @aaM<|gG @aaN<|gG @aaO<|gG @aaP<|gG @aaQ<|gG @aaS<|gG @aaz<|gG @aaA<|gG @aaB<|gG @aaC<|gG @aaD<|gG @aaE<|gG @aaF<|gG @aaG<|gG @Ho<|gG @Hp<|gG @Hq<|gG @Hr<|gG @Hs<|gG @Ht<|gG @aaH<|gG @aaI<|gG @Hu<|gG @Hv<|gG @Hw<|gG @Hx<|gG @ZX<|gG @ZY<|gG @ZZ<|gG @Z0<|gG @Z1<|gG @Z2<|gG @Z3<|gG @Z4<|gG @Z5<|gG @Z6<|gG @Z7<|gG @Z8<|gG @Z9<|gG @aaa<|gG @aab<|gG @aac<|gG @aad<|gG @aae<|gG @aaf<|gG @aag<|gG @aah<|gG @aai<|gG @aaj<|gG @aak<|gG @aal<|gG @aam<|gG @aan<|gG @aao<|gG @aap<|gG @aaq<|gG @aar<|gG @aas<|gG @aat<|gG @aau<|gG @aav<|gG @aaw<|gG @aax @aay
def aoP{X:Ctx}(pf:PF){args cap:lA}{H:List ae}{a:aU}(g:X.cg f=none)(l:X.code f=some pf)(k:Nat.ble (args++cap).length pf.ntmps=true)
  (h: ∀n,H.length=n->wp X f false pf.body ⟨dv (args++cap),[]⟩ ⟨H,none⟩ (dX X n lo pf.results (· =a))):D X (.fn (.func f) [] cap) args ⟨H,lo⟩=some a:=by
 have j:=ao6 k;refine WC g l (by grind) ?_
 grind
def aoQ{X:Ctx}{rd:Bool}{E:AS}{Q:bY}(m:Nat)(I:Nat->Env->List ae->Prop){H:List ae}(k:Nat)(g:k<=m)(n:I k e H)
  (l: ∀k,k<=m-> ∀e H,I k e H->wp X f rd b ⟨e,[]⟩ ⟨H,none⟩ (λex a E'=>match ex with|.normal=>k<m/\ ∃h H',a=⟨h,[]⟩/\E'=⟨H',none⟩/\I (k+1) h H'|ex=>Q ex a E')):wp X f rd (.loop b) ⟨e,[]⟩ ⟨H,none⟩ Q:=by
 refine wp_loop (S:=Nat) (λk fr E=>k<=m/\ ∃e H,fr=⟨e,[]⟩/\E=⟨H,none⟩/\I k e H) (λk=>m-k) k ⟨g,e,H,rfl,rfl,n⟩ ?_;rintro k fr E ⟨g,e,H,rfl,rfl,j⟩;refine wp_mono (l k g e H j) ?_
 grind
def AD(k m:Nat)(I:Nat->Env->List ae->Prop)(Q:bY):bY:=λex a E'=>match ex with|.normal=>k<m/\ ∃g H',a=⟨g,[]⟩/\E'=⟨H',none⟩/\I (k+1) g H'|ex=>Q ex a E'
def abN{I:Nat->Env->List ae->Prop}{Q:bY}{H:List ae}:AD k m I Q .normal ⟨e,[]⟩ ⟨H,none⟩=(k<m/\I (k+1) e H):=by
 simp only[AD]
 grind
theorem abO{I:Nat->Env->List ae->Prop}{Q:bY}{fr:Fr}{E:AS}:AD k m I Q (.exit i) fr E=Q (.exit i) fr E:=rfl
theorem abP{I:Nat->Env->List ae->Prop}{Q:bY}{fr:Fr}{E:AS}:AD k m I Q .ret fr E=Q .ret fr E:=rfl
theorem abQ{I:Nat->Env->List ae->Prop}{Q:bY}{fr:Fr}{E:AS}:AD k m I Q (.panic v) fr E=Q (.panic v) fr E:=rfl
def fE{X:Ctx}{rd:Bool}{Q:bY}(m:Nat)(I:Nat->Env->List ae->Prop){H:List ae}(k:Nat)(a:k<=m)(j:I k e H)
  (h: ∀k,k<=m-> ∀e H,I k e H-> ∀n,H.length=n->wp X f rd b ⟨e,[]⟩ ⟨H,none⟩ (AD k m I Q)):wp X f rd (.loop b) ⟨e,[]⟩ ⟨H,none⟩ Q:=
 aoQ (E:=⟨H,none⟩) m I k a j λk a e H g=>h k a e H g _ rfl
def AE(k m:Nat)(I:Nat->Env->List ae->oN->Prop)(Q:bY):bY:=λex a E'=>match ex with|.normal=>k<m/\a.marks=[]/\I (k+1) a.env E'.heap E'.lo|ex=>Q ex a E'
def abR{I:Nat->Env->List ae->oN->Prop}{Q:bY}{H:List ae}:AE k m I Q .normal ⟨e,[]⟩ ⟨H,lo⟩=(k<m/\I (k+1) e H lo):=by
 simp[AE]
theorem abS{I:Nat->Env->List ae->oN->Prop}{Q:bY}{fr:Fr}{E:AS}:AE k m I Q (.exit i) fr E=Q (.exit i) fr E:=rfl
theorem abT{I:Nat->Env->List ae->oN->Prop}{Q:bY}{fr:Fr}{E:AS}:AE k m I Q .ret fr E=Q .ret fr E:=rfl
def gZ{X:Ctx}{rd:Bool}{Q:bY}(m:Nat)(I:Nat->Env->List ae->oN->Prop){H:List ae}(k:Nat)(g:k<=m)(o:I k e H lo)
  (l: ∀k,k<=m-> ∀e H lo,I k e H lo-> ∀n,H.length=n->wp X f rd b ⟨e,[]⟩ ⟨H,lo⟩ (AE k m I Q)):wp X f rd (.loop b) ⟨e,[]⟩ ⟨H,lo⟩ Q:=by
 refine wp_loop (S:=Nat) (λk fr E=>k<=m/\fr.marks=[]/\I k fr.env E.heap E.lo) (λk=>m-k) k ⟨g,rfl,o⟩ ?_;rintro k ⟨e,ms⟩ ⟨H,lo⟩ ⟨g,a,j⟩;subst a;refine wp_mono (l k g e H lo j _ rfl) ?_;intro ex fr E h;cases ex with
 |normal=>
  obtain⟨r,q,p⟩:=h
  grind
 |_=>exact h
section
variable{S:Type}{I:S->Env->List ae->Prop}{μ:S->Nat}{s:S}{Q:bY}
end
def Hy(X:Ctx)(f:FuncId)(rd:Bool)(b:PC)(Q:bY):bY
 |.normal,fr,E=>wp X f rd (.loop b) fr E Q
 |ex,fr,E=>Q ex fr E
section
variable{X:Ctx}{f:FuncId}{rd:Bool}{b:PC}{fr:Fr}{E:AS}{Q:bY}{i:Nat}{v:AV}
theorem abU:Hy X f rd b Q .normal fr E=wp X f rd (.loop b) fr E Q:=rfl
theorem abV:Hy X f rd b Q (.exit i) fr E=Q (.exit i) fr E:=rfl
theorem abW:Hy X f rd b Q .ret fr E=Q .ret fr E:=rfl
theorem abX:Hy X f rd b Q (.panic v) fr E=Q (.panic v) fr E:=rfl
end
theorem abY{a:Env}:wi e [] a=a:=rfl
theorem abZ{g:Env}{a:lN}:wi e (t::a) g=(wi e a g).set t (e t):=rfl
def ab0{p:Prop}[Decidable p]: (!decide p)=decide (¬p):=by simp
theorem ab1:ig []=[]:=rfl
theorem ab2{i:I}{os:List aQ}:ig (o a i::os)=a::ig os:=rfl
theorem ab3{i:I}{os:List aQ}:ig (u i::os)=ig os:=rfl
theorem ab4{i:I}{os:List aQ}:ig (gt t (some a) i::os)=a::ig os:=rfl
theorem ab5{i:I}{os:List aQ}:ig (gf t (some a) i::os)=a::ig os:=rfl
theorem ab6{i:I}{os:List aQ}:ig (gt t none i::os)=ig os:=rfl
theorem ab7{i:I}{os:List aQ}:ig (gf t none i::os)=ig os:=rfl
theorem ab8{i:I}{os:List aQ}:ig (⟨none,some a,i⟩::os)=a::ig os:=rfl
theorem ab9{i:I}{os:List aQ}:ig (⟨none,none,i⟩::os)=ig os:=rfl
theorem aca:se [] t=false:=rfl
theorem acb{as:lN}:se (a::as) t=(a==t||se as t):=rfl
def ff: (false=true)=False:=by simp
def tt: (true=true)=True:=by simp
def C1:=gG @ZV<|gG @abR<|gG @abS<|gG @abT<|gG @abU<|gG @abV<|gG @abW<|gG @abX<|gG @abN<|gG @abO<|gG @abP<|gG @abQ<|gG @ZR<|gG @ZS<|gG @avd<|gG @avU<|gG @avV<|gG @amH<|gG @abY<|gG @abZ<|gG @ab0<|gG @ab1<|gG @ab2<|gG @ab3<|gG @ab4<|gG @ab5<|gG @ab6<|gG @ab7<|gG @ab8<|gG @ab9<|gG @aca<|gG @acb<|gG @ff @ZT
def aK{X:Ctx}(pf:PF){args:lA}{H:List ae}{a:aU}
 (h: ∀n,H.length=n->wp X f false pf.body ⟨dv args,[]⟩ ⟨H,none⟩ (dX X n lo pf.results (· =a))) (g:X.cg f=none:=by exact rfl) (k:X.code f=some pf:=by exact rfl) (j:Nat.ble args.length pf.ntmps=true:=by exact rfl):D X (.fn (.func f) [] []) args ⟨H,lo⟩=some a:=Nu pf g k j h
def cI{X:Ctx}(pf:PF){args:lA}{H:List ae}{R:aU->Prop}
 (h: ∀n,H.length=n->wp X f false pf.body ⟨dv args,[]⟩ ⟨H,none⟩ (dX X n lo pf.results R)) (g:X.cg f=none:=by exact rfl) (k:X.code f=some pf:=by exact rfl) (j:Nat.ble args.length pf.ntmps=true:=by exact rfl): ∃a,D X (.fn (.func f) [] []) args ⟨H,lo⟩=some a/\R a:=aoI pf g k j h
def fi{X:Ctx}(pf:PF){args cap:lA}{H:List ae}{a:aU}
 (h: ∀n,H.length=n->wp X f false pf.body ⟨dv (args++cap),[]⟩ ⟨H,none⟩ (dX X n lo pf.results (· =a))) (g:X.cg f=none:=by exact rfl) (k:X.code f=some pf:=by exact rfl) (j:Nat.ble (args++cap).length pf.ntmps=true:=by exact rfl):D X (.fn (.func f) [] cap) args ⟨H,lo⟩=some a:=aoP pf g k j h
section
variable{P:Program}{X:Ctx}{B:Nat}{ax:World}{di:List Deferred}
section
variable{C:bJ}(hC:fR P B ax C)(hg:fP X B ax){r:oN}{n nt:Nat}{rows:Bool}
include hC hg
theorem NO{c:Array Oper}(k:lN): ∀ (os:List Oper) (is:lN) (l:List aQ),is.map (c[·]?)=os.map some->kX P rows c os=some l->(∀x∈l,∀d,x.dst=some d->d<nt)->
  ∀ (G:Gh) (E:AS) (w:World) (fr:Fr) (a:Act) (res:Ex×Fr×AS) (Q:Exit->Act->World->Prop),aX P B ax G E w->cP G nt fr.env a.tmps->gW di G fr.marks a.defers->fg X C l fr E=some res->
  (∀a w,res.1= .normal->mB P B ax di G E nt res .normal a w->wpOpsIn (W r) n P c Q k a w)->(∀e a w,res.1≠ .normal->mB P B ax di G E nt res e a w->Q e a w)->wpOpsIn (W r) n P c Q (is++k) a w
 | [],is,l,q,p,s,G,E,w,fr,a,res,Q,hw,he,hm,j,A,z=>by
   have:is=[]:=by simp_all
   subst this;simp only[kX,ac1]at p;subst p;simp only[fg,ac1]at j;subst j;exact A _ _ rfl ⟨G,G.le_refl,hw,he,hm,.refl E,trivial⟩
 |o::os,is,l,q,p,s,G,E,w,fr,a,res,Q,hw,he,hm,j,A,z=>by
  cases is with
  |nil=>grind
  |cons i is=>
   simp only[aj9,aA3]at q;obtain⟨H,q⟩:=q;simp only[kX]at p;split at p
   ·rename_i x xs g t;cases p;simp only[ah6,wpOpsIn,H];have I:guardOf c o=some x.g:=by
     unfold jb at g;split at g
     ·rename_i J;cases g;exact J
     ·cases g
    have u:x.dst=o.dst:=by
     unfold jb at g;split at g
     ·cases g;rfl
     ·cases g
    have F:=x0 he I;simp only[fg]at j;rw[F];split at j
    ·rename_i m;rw[ac6 m];split at j
     ·rename_i v E' hex;refine x5 hC hg g (s x (by simp)) hw he hm hex (λb f e V a' w' M J K T S=>?_) (λb f e=>by cases e);cases e;exact NO k os is xs q t (λy D=>s y (by simp[D])) V E' w' _ a' res Q J T S j (λa w e h=>A a w e (h.trans M K)) (λe a w U h=>z e a w U (h.trans M K))
     ·rename_i v E' hex;cases j;exact x5 hC hg g (s x (by simp)) hw he hm hex (λb f e=>by cases e) (λb f e Y a' w' h=>by cases e;exact z _ _ _ (by simp) h)
     ·cases j
    ·rename_i m;rw[ac0 m];refine⟨λ_ _=>trivial,?_⟩;obtain⟨R,O,N⟩:=qB (a:=a) he (s x (by simp)) (v:=.undef) (v':=undef) xZ;rw[<-u];exact NO k os is xs q t (λy D=>s y (by simp[D])) G E w _ _ res Q hw R (by rw[O,N];exact hm) j A z
   grind
end
structure wk where
 dst:Nat
 pf:PF
 deriving Inhabited
def acd(o:Oper):Bool:=match o.op with
 |.call c=>match c.callee,c.args.toList,o.guard with
  |.builtin .recover,[],none=>true
  |_,_,_=>false
 |_=>false
def NP(o:Oper):Bool:=match o.op,o.guard with
 |.move _,none=>true
 |.assign _,none=>true
 |_,_=>false
def ace(P:Program)(rows:Bool)(nt:Nat):Code->Option (Nat×PC)
 |.seq (.region _ ops false) b=>match ops.toList with
  |o::os=>match o.dst,kX P rows ops os,fh P rows nt b with
   |some d,some xs,some a=>if acd o=true/\os.all NP=true/\d<nt/\xs.all (λx=>match x.dst with|some d=>d<nt|none=>true)then some (d,.seq (.aJ xs) a)else none
   |_,_,_=>none
  | []=>none
 |_=>none
def AF(P:Program)(rows:Bool)(fn:Func):Option wk:=
 match fn.body with
 |some c=>match ace P rows fn.ntmps c,oR P fn.results.toList with
  |some (d,b),some rs=>if(fn.name != "runtime.NumGoroutine")then some ⟨d,{ntmps:=fn.ntmps,results:=rs,body:=b}⟩else none
  |_,_=>none
 |none=>none
noncomputable def Hz(X:Ctx)(C:bJ)(L:eJ)(g:FuncId)(pr:wk)(args:lA)(rv:AV)(E:AS):Option AS:=
 if args.length<=pr.pf.ntmps then
  match bf X C L g false pr.pf.body {env:=(dv args).set pr.dst rv,marks:=[]} {E with lo:=none}with
  |some (.normal,⟨e,[]⟩,E')=>(gg X E' e pr.pf.results).map λv=>(finish E.heap.length E.lo v E').2
  |some (.ret,⟨e,[]⟩,E')=>(gg X E' e pr.pf.results).map λv=>(finish E.heap.length E.lo v E').2
  |_=>none
 else none
def acf(G:Gh)(u:FrameMode)(rv:AV):Prop:=
 (u= .returning/\rv= .eV)\/ ∃v',u= .panicking [{v:=v',recovered:=false}]/\an G rv v'
section
variable{C:bJ}(hC:fR P B ax C)(hg:fP X B ax)(hX:oU P X)(ic:Am P X B ax){L:eJ}(hL:x6 L)
include hC hg hX ic hL
omit hC hg hX ic hL in
theorem acg{n nt:Nat}{rows:Bool}{b:Array Oper}{cs:List Frame}: ∀ (os:List Oper) (is:lN) (l:List aQ),is.map (b[·]?)=os.map some->kX P rows b os=some l->os.all NP=true->(∀x∈l,∀d,x.dst=some d->d<nt)->
  ∀ (G:Gh) (E:AS) (w:World) (fr:Fr) (a:Act) (Q:Exit->Act->List Frame->World->Prop) (res:Ex×Fr×AS),aX P B ax G E w->cP G nt fr.env a.tmps->gW [] G fr.marks a.defers->fg X C l fr E=some res->
  (∀a' m,res=(.normal,m,E)->cP G nt m.env a'.tmps->gW [] G m.marks a'.defers->Q .normal a' cs w)->wpOpsSIn (W none) n P b Q is a cs w
 | [],is,l,k,h,_,J,G,E,w,fr,a,Q,res,hw,he,hm,q,K=>by
   have:is=[]:=by simpa using k
   subst this;simp only[kX,ac1]at h;subst h;simp only[fg,ac1]at q;exact K a fr q.symm he hm
 |o::os,is,l,k,h,e,J,G,E,w,fr,a,Q,res,hw,he,hm,q,K=>by
  cases is with
  |nil=>simp at k
  |cons i is=>
   simp only[aj9,aA3]at k;obtain⟨I,k⟩:=k;simp only[awC,aeW]at e;obtain⟨j,e⟩:=e;simp only[kX]at h;split at h
   ·rename_i x xs c D;cases h;have s: (∃z,(o.op= .move z\/o.op= .assign z))/\o.guard=none:=by
     unfold NP at j;split at j
     ·rename_i z v u;exact⟨⟨_,.inl v⟩,u⟩
     ·rename_i z v u;exact⟨⟨_,.inr v⟩,u⟩
     ·cases j
    obtain⟨⟨z,f⟩,t⟩:=s;have F: ∃y,bQ z=some y/\x={g:=none,dst:=o.dst,i:=.mov y}:=by
     unfold jb at c;have v:guardOf b o=some none:=by unfold guardOf;rw[t]
     rw[v]at c;have u:kW P rows o=(bQ z).map .mov:=by
      rcases f with f|f<;>simp only[kW,f]
     rw[u]at c;cases A:bQ z with
     |none=>rw[A]at c;cases c
     |some y=>rw[A]at c;cases c;exact⟨y,rfl,rfl⟩
    obtain⟨y,A,rfl⟩:=F;have p: (execOp a.eval o).run P w= .ok (.value (a.eval z)) w:=by
     rcases f with f|f<;>(unfold execOp;simp only[f];rfl)
    simp only[wpOpsSIn,I];have H:Region.wanted o (yielded b a.tmps)=true:=by simp[Region.wanted,t]
    rw[ac6 H,p];refine⟨λ_ _=>trivial,?_⟩;simp only[fg,gH,ae4,exec]at q;obtain⟨O,N,M⟩:=qB (a:=a) (dst:=o.dst) he (J {g:=none,dst:=o.dst,i:=.mov y} (by simp)) (cH he A);exact acg os is xs k D e (λx c=>J x (by simp[c])) G E w _ _ Q res hw O (by rw[N,M];exact hm) q K
   ·cases h
theorem aoR{g:FuncId}{fn:Func}{pr:wk}{rows:Bool}(hfn:P.funcs[g]?=some fn)(q:AF P rows fn=some pr){args:lA}{E f:AS}{rv:AV}
  (h:Hz X C L g pr args rv E=some f) {G:Gh}  {a:Array Value} (hw:aX P B ax G E w) (hl:aG G args a.toList) {u:FrameMode} (hu:acf G u rv):
  CallsDIn (W none) n P g a u w (λe A w'=>settle A= .returning/\ ∃v K,e= .returned v/\G.le K/\aX P B ax K f w'/\E.Ext f):=by
 unfold AF at q;split at q
 case h_2=>grind
 rename_i c hb;split at q
 case h_2=>grind
 rename_i d b rs p NQ;split at q
 case isFalse=>grind
 cases q;unfold ace at p;split at p
 case h_2=>cases p
 rename_i id ops b';split at p
 case h_2=>cases p
 rename_i o os y;split at p
 case h_2=>cases p
 rename_i d' xs pb NR wm hpb;split at p
 case isFalse=>cases p
 rename_i U;cases p;obtain⟨I,hmv,hdn,yg⟩:=U;unfold Hz at h;split at h
 case isFalse=>cases h
 rename_i z;simp only at z h;cases H:bf X C L g false (.seq (.aJ xs) pb) {env:=(dv args).set d rv,marks:=[]} {E with lo:=none}with
 |none=>rw[H]at h;cases h
 |some res=>
 have k:=H;simp only[bf]at k;cases s:fg X C xs {env:=(dv args).set d rv,marks:=[]} {E with lo:=none}with
 |none=>rw[s]at k;cases k
 |some Y=>
 rw[s]at k;refine callsDIn_of_wpSIn hfn hb trivial λl cs T=>?_
 refine wpSIn_seq (wpSIn_region ?_);have aA1:0<ops.size:=by rw[<-amD,y];simp
 have M:List.range ops.size=0:: (List.range' 1 (ops.size-1)):=by
  rw[aA5,show ops.size=(ops.size-1)+1 by omega,List.range'_succ];simp
 have h0:ops[0]?=some o:=by rw[<-apE,y];rfl
 rw[M];simp only[wpOpsSIn,h0];have aoW: (∃c,o.op= .call c/\c.callee= .builtin .recover/\c.args.toList=[])/\o.guard=none:=by
  unfold acd at I;split at I
  ·rename_i c R;split at I
   ·rename_i h1 h2 h3;exact⟨⟨c,R,h1,h2⟩,h3⟩
   ·cases I
  ·cases I
 obtain⟨⟨cc,R,NS,aA2⟩,jd⟩:=aoW;have NT: ∀t:Array Value,Region.wanted o (yielded ops t)=true:=λt=>by simp[Region.wanted,jd]
 have S: ∀ρ,(execOp ρ o).run P w= .ok .recover w:=by
  intro ρ;unfold execOp;simp only[R,resolve,NS];simp[invoke,builtin]
 rw[ac6 (NT _),S];refine⟨λ_ _=>trivial,?_⟩;have he0:cP G fn.ntmps (dv args) (a++Array.replicate (fn.ntmps-a.size) undef):=GF hl z;have NU: (List.range' 1 (ops.size-1)).map (ops[·]?)=os.map some:=by
  apply an2;intro j;have hos:os.length=ops.size-1:=by
   have:ops.toList.length=os.length+1:=by rw[y];rfl
   rw[amD]at this;omega
  by_cases hj:j<os.length
  ·have e1: (List.range' 1 (ops.size-1))[j]?=some (1+j):=by
     rw[List.getElem?_range' (by omega)];simp
   simp only[agp,e1,aeM,ac7 hj];rw[<-apE,y,Nat.add_comm,azw,ac7 hj]
  ·rw[akh (by simp;omega),akh (by simp;omega)]
 have aoY: ∀x∈xs,∀d,x.dst=some d->d<fn.ntmps:=by
  intro x hx d Z;have:=aeT.1 yg x hx;rw[Z]at this;simpa using this
 have key: ∀ (v':Value) (N:List Frame) (A:FrameMode),an G rv v'->settle A= .returning->N={l with mode:=A}::cs->
   wpOpsSIn (W none) n P ops (Exit.thenS (b'.wpSIn (W none) n P (bodyPostS P fn l cs (λe A w'=>settle A= .returning/\ ∃v K,e= .returned v/\G.le K/\aX P B ax K f w'/\E.Ext f))) (bodyPostS P fn l cs (λe A w'=>settle A= .returning/\ ∃v K,e= .returned v/\G.le K/\aX P B ax K f w'/\E.Ext f)))
    (List.range' 1 (ops.size-1)) (Act.put {tmps:=a++Array.replicate (fn.ntmps-a.size) undef,defers:=[]} o.dst v') N w:=by
  intro v' N A hv O Gy;rw[NR];have he1:cP G fn.ntmps ((dv args).set d rv) (Act.put {tmps:=a++Array.replicate (fn.ntmps-a.size) undef,defers:=[]} (some d) v').tmps:=he0.set hdn hv;refine acg os _ xs NU wm hmv aoY G {E with lo:=none} w {env:=(dv args).set d rv,marks:=[]} _ _ Y (hw.lo none) he1 rfl s (λa1 HA Q he2 hm2=>?_);subst Q;simp only at k;simp only[Exit.thenS];refine wpSIn_of_wpIn rfl (wa hC hg hX ic hL (r:=none) rfl b' pb hpb G {E with lo:=none} w HA a1 res _ (hw.lo none) he2 hm2 k (λe a2 w2 ao2=>?_));obtain⟨G2,q1,q2,q3,q4,q5,q6⟩:=ao2;obtain⟨ex,⟨e2,ms⟩,V⟩:=res;rw[H]at h;have fin:ms=[]->(∃v,gg X V e2 rs=some v/\ (finish E.heap.length E.lo v V).2=f)->(e= .normal\/e= .ret)->bodyPostS P fn l cs (λe A w'=>settle A= .returning/\ ∃v K,e= .returned v/\G.le K/\aX P B ax K f w'/\E.Ext f) e a2 N w2:=by
   intro hms ⟨v,F,D⟩ hee;subst hms;obtain⟨v2,r1,r2⟩:=CN hg q2 q3 NQ F;obtain⟨G3,p1,p2,p3,p4⟩:=xY hw q1 q2 q5 r2;rw[D]at p2 p4;have hd2:a2.defers=[]:=q4;rcases hee with rfl|rfl
   ·exact⟨hd2,A,Gy,v2,r1,O,v2,G3,rfl,p1,p2,p4⟩
   ·exact⟨hd2,A,Gy,v2,r1,O,v2,G3,rfl,p1,p2,p4⟩
  cases ex with
  |normal=>
   cases ms with
   |cons m ms=>cases h
   |nil=>
    obtain⟨v,F,D⟩:=aeL.1 h;cases e<;>simp[gw]at q6;exact fin rfl ⟨v,F,D⟩ (.inl rfl)
  |ret=>
   cases ms with
   |cons m ms=>cases h
   |nil=>
    obtain⟨v,F,D⟩:=aeL.1 h;cases e<;>simp[gw]at q6;exact fin rfl ⟨v,F,D⟩ (.inr rfl)
  |exit i=>cases h
  |panic v=>cases h
 rcases hu with⟨rfl,rfl⟩| ⟨v',rfl,hv⟩
 ·have J:recoverD (l::cs)=none:=by simp[recoverD,T]
  simp only[J];refine key .nilIface (l::cs) .returning (by simp[an]) rfl ?_;rw[<-T]
 ·have J:recoverD (l::cs)=some (v',{l with mode:=.panicking [{v:=v',recovered:=true}]}::cs):=by simp[recoverD,T]
  simp only[J];exact key v' _ _ hv rfl rfl
end
end
section
variable{P:Program}{X:Ctx}{B:Nat}{ax:World}{di:List Deferred}
inductive Dd where
 |here(ops:List aQ)(k6:ao)(fS:List ao)(rest:PC)
 |later(pre:PC)(d:Dd)
 deriving Inhabited
structure uH where
 ntmps:Nat
 results:List RV
 body:Dd
 deriving Inhabited
def aci(P:Program)(rows:Bool)(nt:Nat):Code->Option (List aQ×ao×List ao)
 |.region _ ops false=>match ops.toList.getLast? with
  |some o=>match o.op,o.guard,o.dst with
   |.defer c,none,none=>match c.callee with
    |.value f=>match kX P rows ops ops.toList.dropLast,bQ f,nU c.args.toList with
     |some xs,some a,some as=>if xs.all (λx=>match x.dst with|some d=>d<nt|none=>true)then some (xs,a,as)else none
     |_,_,_=>none
    |_=>none
   |_,_,_=>none
  |none=>none
 |_=>none
def De(P:Program)(rows:Bool)(nt:Nat):Code->Option Dd
 |.seq a b=>match aci P rows nt a with
  |some (xs,f,as)=>(fh P rows nt b).map (.here xs f as)
  |none=>match fh P rows nt a,De P rows nt b with
   |some d,some c=>some (.later d c)
   |_,_=>none
 |_=>none
def AG(P:Program)(rows:Bool)(fn:Func):Option uH:=
 match fn.body with
 |some c=>match De P rows fn.ntmps c,oR P fn.results.toList with
  |some b,some rs=>if(fn.name != "runtime.NumGoroutine")then some {ntmps:=fn.ntmps,results:=rs,body:=b}else none
  |_,_=>none
 |none=>none
def AV.HB:AV->Bool
 |.fn .. =>true
 |_=>false
noncomputable def wo(X:Ctx)(C:bJ)(L:eJ)(bU:FuncId):Dd->Fr->AS->Option (Option (AV×lA)×(Ex×Fr×AS))
 |.here ops a c rest,fr,E=>match fg X C ops fr E with
  |some (.normal,⟨e,[]⟩,E')=>if(a.get e).HB then(bf X C L bU false rest ⟨e,[]⟩ E').map λr=>(some (a.get e,c.map (·.get e)),r)else none
  |some (.normal,_,_)=>none
  |some r=>some (none,r)
  |none=>none
 |.later pre d,fr,E=>match bf X C L bU false pre fr E with
  |some (.normal,b,E')=>wo X C L bU d b E'
  |some r=>some (none,r)
  |none=>none
abbrev oX:=FuncId->Option wk
noncomputable def AH(X:Ctx)(C:bJ)(L:eJ)(R:oX)(b:AV)(a:lA)(rv:AV)(E:AS):Option AS:=
 match b with
 |.fn (.func g) first cap=>(R g).bind λpr=>Hz X C L g pr (first++a++cap) rv E
 |_=>none
def Ex.NV:Ex->Option AV
 |.normal=>some .eV
 |.ret=>some .eV
 |.panic v=>some v
 |.exit _=>none
noncomputable def NW(X:Ctx)(C:bJ)(L:eJ)(R:oX)(n:Nat)(dU:oN)(c:uH):Option (Option (AV×lA)×(Ex×Fr×AS))->Option aU
 |some (none,r)=>leave X n dU {ntmps:=c.ntmps,results:=c.results,body:=.skip} (some r)
 |some (some (tv,d),(ex,fr,E))=>match ex.NV,dV E fr.marks with
  |some rv,some b=>(AH X C L R tv d rv b).bind λa=>(gg X a fr.env c.results).map λv=>.ret (finish n dU v a).1 (finish n dU v a).2
  |_,_=>none
 |none=>none
noncomputable def wq(X:Ctx)(C:bJ)(L:eJ)(R:oX)(f:FuncId)(a:uH)(args:lA)(E:AS):Option aU:=
 if args.length<=a.ntmps then NW X C L R E.heap.length E.lo a (wo X C L f a.body {env:=dv args,marks:=[]} {E with lo:=none})else none
def NX(P:Program)(R:oX):Prop:= ∀g pr,R g=some pr-> ∃rows fn,P.funcs[g]?=some fn/\AF P rows fn=some pr
section
variable{C:bJ}(hC:fR P B ax C)(hg:fP X B ax)(hX:oU P X)(ic:Am P X B ax){L:eJ}(hL:x6 L)
include hC hg hX ic hL
theorem ao5{rows:Bool}{nt:Nat}{bU:FuncId}: ∀ (c:Code) (pd:Dd),De P rows nt c=some pd->
  ∀ (G:Gh) (E:AS) (w:World) (fr:Fr) (a:Act) (O:Option (AV×lA)) (r:Ex×Fr×AS) (Q:Exit->Act->World->Prop),aX P B ax G E w->cP G nt fr.env a.tmps->gW [] G fr.marks a.defers->wo X C L bU pd fr E=some (O,r)->
  (O=none-> ∀e a w,mB P B ax [] G E nt r e a w->Q e a w)->
  (∀tv J,O=some (tv,J)-> ∀A s G1,G.le G1->an G1 tv A->aG G1 J s.toList-> ∀d,(∀w:World,(Deferred.ofValue A s).run P w= .ok d w)-> ∀e a w,mB P B ax [d] G1 E nt r e a w->Q e a w)->c.wpIn (W none) n P Q a w:=by
 intro c
 induction c with
 |seq x y ihx ihy=>
  intro pd h G E w fr a O r Q hw he hm i hN hD;rw[De]at h;split at h
  ·rename_i xs f' as g;obtain⟨rest,M,rfl⟩:=aeL.1 h;unfold aci at g;split at g
   case h_2=>cases g
   rename_i id ops;split at g
   case h_2=>cases g
   rename_i o v;split at g
   case h_2=>cases g
   rename_i cc oW jd NR;split at g
   case h_2=>cases g
   rename_i fop NS;split at g
   case h_2=>cases g
   rename_i xs' f'' GD wm hfo has;split at g
   case isFalse=>cases g
   rename_i uD;cases g;have hd: ∀x∈xs,∀d,x.dst=some d->d<nt:=by
    intro x hx d yg;have:=aeT.1 uD x hx;rw[yg]at this;simpa using this
   have q:ops.toList=ops.toList.dropLast++[o]:=by
    rw[List.getLast?_eq_some_iff]at v;obtain⟨ys,NY⟩:=v;rw[NY];simp
   have r0:ops.size=ops.toList.dropLast.length+1:=by
    rw[<-amD];conv=>lhs;rw[q]
    simp
   have D:List.range ops.size=List.range (ops.size-1)++[ops.size-1]:=by
    conv=>lhs;rw[show ops.size=(ops.size-1)+1 by omega,aoZ]
   have NU: (List.range (ops.size-1)).map (ops[·]?)=ops.toList.dropLast.map some:=by
    apply an2;intro j;by_cases hj:j<ops.toList.dropLast.length
    ·have e1: (List.range (ops.size-1))[j]?=some j:=by rw[apl (by omega)]
     simp only[agp,e1,aeM,ac7 hj];rw[<-apE]
     conv=>lhs;rw[q]
     rw[acj hj,ac7 hj]
    ·rw[akh (by simp;simp at hj;omega),akh (by simpa using hj)]
   have H:ops[ops.size-1]?=some o:=by
    rw[<-apE]
    conv=>lhs;rw[q]
    rw[aeY (by omega)];rw[show ops.size-1-ops.toList.dropLast.length=0 by omega];rfl
   refine aBd (wpIn_region ?_);rw[D];simp only[wo]at i;cases b:fg X C xs fr E with
   |none=>rw[b]at i;cases i
   |some k=>
   refine NO hC hg [ops.size-1] _ _ xs NU wm hd G E w fr a k _ hw he hm b (λl w1 F f=>?_) (λe l w1 F f=>?_)
   ·obtain⟨ex,⟨e1,ms⟩,t⟩:=k;simp only at F;subst F;obtain⟨G1,q1,q2,S,q4,q5,q6⟩:=f;rw[b]at i;cases ms with
    |cons m ms=>cases i
    |nil=>
    simp only at i;split at i
    case isFalse=>cases i
    rename_i z;obtain⟨r',NZ,AI⟩:=aeL.1 i;cases AI;have N0:l.defers=[]:=q4;have ao8:=xS S has;have I:=cH S hfo;simp only[wpOpsIn,H];have NT:Region.wanted o (yielded ops l.tmps)=true:=by simp[Region.wanted,jd]
    rw[ac6 NT];refine⟨λ_ _=>trivial,?_⟩;have CV:o.semAt (W none).round l.eval=execOp l.eval o:=Oper.semAt_none _ _;rw[CV];have ao9: ∀d,(∀w:World,(Deferred.ofValue (l.eval fop) (cc.args.map l.eval)).run P w= .ok d w)->(execOp l.eval o).run P w1= .ok (.defer d) w1:=by
     intro d u;unfold execOp;simp only[oW,resolve,NS];rw[Sem.run_bind,u w1];rfl
    have apa: ∃d,∀w:World,(Deferred.ofValue (l.eval fop) (cc.args.map l.eval)).run P w= .ok d w:=by
     cases htv:f'.get e1<;>rw[htv]at z<;>simp only[AV.HB,aeJ]at z;rw[htv]at I;simp only[an]at I;obtain⟨f0,fs0,N2,hfe,_⟩:=I;rw[hfe];exact⟨_,λw=>rfl⟩
    obtain⟨d,u⟩:=apa;rw[ao9 d u];simp only[Oper.uponIn,NR,Act.put,N0];refine wa hC hg hX ic hL (r:=none) (di:=[d]) rfl y rest M G1 t w1 ⟨e1,[]⟩ {l with defers:=[d]} r _ q2 S rfl NZ (λe a2 R p=>?_);refine hD _ _ rfl _ _ G1 q1 I (by simpa using ao8) d u e a2 R ?_;obtain⟨G2,Z,Y,V,U,T,K⟩:=p;exact⟨G2,Z,Y,V,U,q5.trans T,K⟩
   ·rw[b]at i;obtain⟨ex,⟨e1,ms⟩,t⟩:=k;have N:some (none,(ex,⟨e1,ms⟩,t))=some (O,r):=by
     cases ex with
     |normal=>exact absurd rfl F
     |_=>exact i
    cases N;have N:=hN rfl e l w1 f;obtain⟨G2,Z,Y,V,U,T,K⟩:=f;cases e<;>first|exact N| (exfalso;cases ex<;>simp[gw]at K;exact F rfl)
  ·split at h
   ·rename_i px pd' hx hy;cases h;simp only[wo]at i;cases b:bf X C L bU false px fr E with
    |none=>rw[b]at i;cases i
    |some k=>
    rw[b]at i;obtain⟨ex,HA,t⟩:=k;by_cases F:ex= .normal
    ·subst F;simp only at i;refine aBd (wa hC hg hX ic hL (r:=none) rfl x px hx G E w fr a _ _ hw he hm b (λe l w1 f=>?_));obtain⟨G1,q1,q2,S,q4,q5,q6⟩:=f;cases e<;>simp[gw]at q6;refine ihy pd' hy G1 t w1 HA l O r Q q2 S q4 i (λapd e a2 R hh=>hN apd e a2 R (hh.trans q1 q5)) (λtv J u A s G2 hG2 hv hl d hd e a2 R p=>?_);refine hD tv J u A s G2 (Gh.le_trans q1 hG2) hv hl d hd e a2 R ?_;obtain⟨G3,Z,Y,V,U,T,K⟩:=p;exact⟨G3,Z,Y,V,U,q5.trans T,K⟩
    ·have N:some (none,(ex,HA,t))=some (O,r):=by
       cases ex with
       |normal=>exact absurd rfl F
       |_=>exact i
     cases N;refine aBd (wa hC hg hX ic hL (r:=none) rfl x px hx G E w fr a _ _ hw he hm b (λe l w1 f=>?_));have N:=hN rfl e l w1 f;obtain⟨G2,Z,Y,V,U,T,K⟩:=f;cases e<;>first|exact N| (exfalso;cases ex<;>simp[gw]at K;exact F rfl)
   ·cases h
 |_=>intro pd h;simp[De]at h
omit hC hX ic hL in
theorem apf{fn:Func}{G:Gh}{E:AS}{w':World}{r:Ex×Fr×AS}{k:aU}{e:Exit}{a:Act}(g:oR P fn.results.toList=some pf.results)(x:aX P B ax G E w)
  (h:leave X E.heap.length E.lo pf (some r)=some k) (D:mB P B ax [] G {heap:=E.heap,lo:=none} fn.ntmps r e a w'):bodyPostM (W none) 0 P fn (Ends P B ax G E k) e a w':=by
 obtain⟨F,u,t,z,s,q,j⟩:=D;obtain⟨ex,fr,E'⟩:=r;have f:qx X E.heap.length E.lo pf fr E'=some k->LeavesInM (W none) 0 P fn a.tmps (Ends P B ax G E k) a.defers .returning w':=by
  intro h;unfold qx at h;split at h
  ·rename_i d i;split at h
   ·rename_i v A;cases h;refine x8 (by simp) fr.marks a.defers E' d w' s t i (λl b=>?_);obtain⟨v',e1,y⟩:=CN hg b z g A;refine⟨v',e1,?_⟩;obtain⟨c,p,o,n,m⟩:=xY x u b (q.trans (x7 _ _ _ i)) y;exact⟨c,p,o,n,m⟩
   ·cases h
  ·cases h
 cases ex with
 |normal=>cases e<;>simp[gw]at j;exact f h
 |ret=>cases e<;>simp[gw]at j;exact f h
 |exit id=>simp[leave]at h
 |panic v=>
  cases e<;>simp[gw]at j;rename_i chain;obtain⟨v',rfl,rv⟩:=j;simp only[leave]at h;split at h
  ·rename_i d i;cases h;refine x8 (by simp) fr.marks a.defers E' d w' s t i (λl b=>?_);obtain⟨c,p,o,n,m⟩:=xY x u b (q.trans (x7 _ _ _ i)) rv;exact⟨c,v',rfl,p,o,n,m⟩
  ·cases h
theorem apg{R:oX}(hR:NX P R){fn:Func}{pd:uH}{rows:Bool}(N:P.funcs[f]?=some fn)(n:AG P rows fn=some pd):gX P B ax f (wq X C L R f pd):=by
 intro args E cr h G w l hw hl;unfold AG at n;split at n
 case h_2=>grind
 rename_i c hb;split at n
 case h_2=>grind
 rename_i bd rs D y;split at n
 case isFalse=>grind
 rename_i aA8;cases n;unfold wq at h;split at h
 case isFalse=>cases h
 rename_i q;simp only at q h;have x: ¬fn.name= "runtime.NumGoroutine" :=by grind
 have O: (callFunc f l).run P w= .ok (.enter f l) w:=by
  simp[callFunc,arH,N,x,hb]
 rw[O];show CallsIn (W none) 0 P f l w _;have he:cP G fn.ntmps (dv args) (l++Array.replicate (fn.ntmps-l.size) undef):=GF hl q;cases t:wo X C L f bd {env:=dv args,marks:=[]} {E with lo:=none}with
 |none=>rw[t]at h;cases h
 |some res=>
 obtain⟨dr,r⟩:=res;rw[t]at h;refine aAI N hb trivial (ao5 hC hg hX ic hL c bd D G {E with lo:=none} w {env:=dv args,marks:=[]} _ dr r _ (hw.lo none) he rfl t ?_ ?_) rfl
 ·rintro rfl e a w' hr;exact apf hg (pf:={ntmps:=fn.ntmps,results:=rs,body:=.skip}) y hw h hr
 ·rintro tv S rfl tv' m G1 hG1 hv hld d hd e a w' ⟨G',V,q2,q3,q4,q5,U⟩;obtain⟨ex,fr,E'⟩:=r;simp only[NW]at h;have av: ∀ (rv:AV) (j:AS) (u:FrameMode),dV E' fr.marks=some j->acf G' u rv->u≠ .run->
    ((AH X C L R tv S rv j).bind λs=>(gg X s fr.env rs).map λv=>aU.ret (finish E.heap.length E.lo v s).1 (finish E.heap.length E.lo v s).2)=some cr->
    LeavesInM (W none) 0 P fn a.tmps (Ends P B ax G E cr) a.defers u w':=by
   intro rv j u o A hu N3;refine x8 hu fr.marks a.defers E' j w' q4 q2 o (λZ I=>?_);obtain⟨s,p,M⟩:=an1.1 N3;obtain⟨v,hv1,rfl⟩:=aeL.1 M;unfold AH at p;split at p
   case h_2=>cases p
   rename_i g first cap
   obtain⟨pr,hpr,AI⟩:=an1.1 p;obtain⟨am8,Q,z,b⟩:=hR g pr hpr;have hgb: ∃Y,Q.body=some Y/\ ¬Q.name= "runtime.NumGoroutine" :=by
    unfold AF at b;split at b
    case h_2=>cases b
    rename_i Y F;split at b
    case h_2=>cases b
    split at b
    case isFalse=>cases b
    rename_i hn;exact⟨Y,F,by simpa using hn⟩
   obtain⟨Y,F,hgn⟩:=hgb;have J:=hv;simp only[an,m6]at J;obtain⟨f',i,k,rfl,rfl,hf,hc⟩:=J;have ye:d={target:=.fn (.func g) k,args:=i++m}:=by
    have h1:=hd w;have h2: (Deferred.ofValue (.func (.func g) i k) m).run P w= .ok {target:=.fn (.func g) k,args:=i++m} w:=rfl;rw[h2]at h1;simpa using h1.symm
   subst ye;have H:aG G' (first++S++cap) (i++m++k).toList:=by
    simp only[Array.toList_append];exact((hf.mono V).append (hld.mono V)).append (hc.mono V)
   refine⟨hu,.inr ⟨λh=>by simp[W]at h,.func g,k,g,i++m++k,rfl,?_,λ_ _=>trivial,?_⟩⟩
   ·show(callFunc g (i++m++k)).run P Z=_;simp[callFunc,arH,z,hgn,F]
   ·refine(aoR hC hg hX ic hL z b AI I H A).mono ?_;rintro e2 u2 w3 ⟨K,v3,G3,rfl,g1,g2,g3⟩;show LeavesInM (W none) 0 P fn a.tmps _ [] (settle u2) w3;rw[K];obtain⟨v',e1,r1⟩:=CN hg g2 (q3.mono g1) y hv1;refine⟨v',e1,?_⟩;obtain⟨T,p1,p2,p3,p4⟩:=xY hw (Gh.le_trans hG1 (Gh.le_trans V g1)) g2 ((q5.trans (x7 _ _ _ o)).trans g3) r1;exact⟨T,p1,p2,p3,p4⟩
  cases ex with
  |normal=>
   cases e<;>simp[gw]at U;cases o:dV E' fr.marks with
   |none=>rw[o]at h;cases h
   |some j=>rw[o]at h;exact av .eV j .returning o (.inl ⟨rfl,rfl⟩) (by simp) h
  |ret=>
   cases e<;>simp[gw]at U;cases o:dV E' fr.marks with
   |none=>rw[o]at h;cases h
   |some j=>rw[o]at h;exact av .eV j .returning o (.inl ⟨rfl,rfl⟩) (by simp) h
  |exit id=>
   cases o:dV E' fr.marks<;>rw[o]at h<;>cases h
  |panic v=>
   cases e<;>simp[gw]at U;obtain⟨v',rfl,rv⟩:=U;cases o:dV E' fr.marks with
   |none=>rw[o]at h;cases h
   |some j=>rw[o]at h;exact av v j (.panicking [{v:=v',recovered:=false}]) o (.inr ⟨v',rfl,rv⟩) (by simp) h
end
def acm:x6 Lw:=λ_ _ _ _ h=>C7 h
def N4(hg:fP X B ax)(hX:oU P X)(e: ∀f p,X.cg f=some p->gX P B ax f p){R:oX}(d:NX P R){fn:Func}{c:uH}{rows:Bool}(b:P.funcs[f]?=some fn)(a:AG P rows fn=some c):
 gX P B ax f (wq X (D X) Lw R f c):=apg (Nn hg hX e) hg hX (M6 hg) acm d b a
end
def aP(N:Nat)(H:List ae)(v:AV)(sz:Nat)(ty:TypeId)(af:List lA):Prop:=
 (∀el∈af,el.length=sz)/\ ((v= .au/\af=[])\/ ∃id ak,N<=id/\v= .ref id ak sz 0 af.length false/\H[id]?=some (.row ak sz ty af))
def bG(v:AV)(af:List lA):AV:=match v with
 |.au=>.au
 |_=>.sl af false
section
variable{N:Nat}{H H':List ae}{v:AV}{sz bytes:Nat}{ty:TypeId}{af ys:List lA}{lo:oN}
theorem aP.au:aP N H .au sz ty []:=⟨by simp,.inl ⟨rfl,rfl⟩⟩
def aP.mono(h:aP N H v sz ty af)(b:H<+:H'):aP N H' v sz ty af:=by
 obtain⟨c,a⟩:=h;refine⟨c,?_⟩;rcases a with a| ⟨id,ak,f,d,e⟩
 ·grind
 ·obtain⟨L,rfl⟩:=b
  grind
def aP.ext{L:List ae}(h:aP N H v sz ty af):aP N (H++L) v sz ty af:=h.mono (aj8 _ _)
def aP.rd(h:aP N H v sz ty af):Rd ⟨H,lo⟩ v sz af:=by
 obtain⟨c,b⟩:=h;rcases b with⟨rfl,rfl⟩| ⟨id,ak,d,rfl,a⟩
 ·exact .au
 ·refine⟨trivial,?_,c⟩;simp only[elems,a,aA4]
  grind
def apn{id:Nat}{o:ae}(a:H0<+:H)(b:H0.length<=id):H0<+:H.set id o:=by
 obtain⟨L,rfl⟩:=a
 grind
def aP.append(h:aP N H v sz ty af)(b:H0<+:H)(o:H0.length=N)(i:0<sz)(k: ∀el∈ys,el.length=sz)(l:b9 ys=0)(f: (af.length+ys.length)*bytes<=room):
  ∃v' H',dO ⟨H,lo⟩ ty sz bytes v ys=some (v',⟨H',lo⟩)/\aP N H' v' sz ty (af++ys)/\H0<+:H'/\H.length<=H'.length/\ (∀id,id<N->H'[id]?=H[id]?):=by
 have e:0<sz/\ys.all (λel=>el.length==sz)=true:=⟨i,by grind⟩;obtain⟨q,g⟩:=h;have p: ∀el∈af++ys,el.length=sz:=by grind
 by_cases he:ys.length=0
 ·have d:ys=[]:=ajx.1 he;subst d;refine⟨v,H,?_,by simpa using⟨q,g⟩,b,adA _,λ_ _=>rfl⟩;unfold dO
  grind
 rcases g with⟨rfl,rfl⟩| ⟨id,ak,m,rfl,a⟩
 ·refine⟨.ref H.length 0 sz 0 ys.length false,H++[.row 0 sz ty ys],?_,⟨by simpa using k,.inr ⟨H.length,0,?_,by simp,by simp⟩⟩,b.trans (aj8 _ _),by simp,λid n=>?_⟩
  ·unfold dO;rw[ac6 e];simp only[ac0 he];rw[ac6 (by simpa using f)];rfl
  ·rw[<-o];exact b.length_le
  ·rw[acj (by have:=b.length_le;omega)]
 ·have c:=(ack.1 a).1;refine⟨.ref id (ak+1) sz 0 (af.length+ys.length) false,H.set id (.row (ak+1) sz ty (af++ys)),?_,⟨p,.inr ⟨id,ak+1,m,by simp,by simp[c]⟩⟩,apn b (by omega),by simp,λj r=>?_⟩
  ·unfold dO;rw[ac6 e];simp only[a];rw[ac6 ⟨trivial,trivial,trivial,trivial,by omega,f⟩,ac0 he];simp[AS.set,l]
  ·rw[ach (by omega)]
def qL{K:AV->AS->Prop}(h:aP N H v sz ty af)(d:H0<+:H)(f:H0.length=N)(a:0<sz)(b: ∀el∈ys,el.length=sz)(c:b9 ys=0)(e: (af.length+ys.length)*bytes<=room)
  (g: ∀v' H',aP N H' v' sz ty (af++ys)->H0<+:H'->K v' ⟨H',lo⟩):qJ (dO ⟨H,lo⟩ ty sz bytes v ys) K:=by
 obtain⟨v',H',k,j,i,_⟩:=h.append d f a b c e;rw[k];exact g v' H' j i
def aP.N5(h:aP N H v sz ty af)(w:N<=H.length)(k:0<sz)(l: ∀el∈ys,el.length=sz)(m:b9 ys=0)(q: (af.length+ys.length)*bytes<=room):
  ∃v' H',dO ⟨H,lo⟩ ty sz bytes v ys=some (v',⟨H',lo⟩)/\aP N H' v' sz ty (af++ys)/\H.length<=H'.length/\ (∀id,id<N->H'[id]?=H[id]?)/\ (∀ (id:Nat) o,(∀a d,o≠ .row a sz ty d)->H[id]?=some o->H'[id]?=some o):=by
 have n:H.take N<+:H:=List.take_prefix _ _;obtain⟨v',H',b,t,x,s,r⟩:=h.append n (by grind) k l m q;refine⟨v',H',b,t,s,r,λid o f e=>?_⟩;have p:=(ack.1 e).1;unfold dO at b;have i:0<sz/\ys.all (λel=>el.length==sz)=true:=⟨k,by grind⟩;rw[ac6 i]at b;rcases h.2 with⟨rfl,rfl⟩| ⟨j,ak,u,rfl,c⟩
 ·simp only at b;split at b
  ·grind
  ·split at b
   ·simp only[AS.push,ac1,apA,AS.mk.injEq]at b
    grind
   grind
 ·simp only[c]at b;split at b
  ·split at b
   ·simp only[ac1,apA,AS.mk.injEq]at b;rw[<-b.2.1];exact e
   ·simp only[aeJ,ags,AS.set,ac1,apA,AS.mk.injEq]at b;rw[<-b.2.1];have g:j≠id:=by rintro rfl;rw[c]at e;cases e;exact f _ _ rfl
    rw[ach g];exact e
  ·cases b
def N6{K:AV->AS->Prop}(h:aP N H v sz ty af)(i:H0<+:H)(j:H0.length=N)(b:0<sz)(c: ∀el∈ys,el.length=sz)(e:b9 ys=0)(f: (af.length+ys.length)*bytes<=room)
  (k: ∀v' H',aP N H' v' sz ty (af++ys)->H0<+:H'->H.length<=H'.length->(∀ (id:Nat) o,(∀a d,o≠ .row a sz ty d)->H[id]?=some o->H'[id]?=some o)->K v' ⟨H',lo⟩):qJ (dO ⟨H,lo⟩ ty sz bytes v ys) K:=by
 obtain⟨v',H',g,n,m,q,l⟩:=h.N5 (by grind) b c e f;obtain⟨v2,r,g1,_,p,_⟩:=h.append i j b c e f;rw[g]at g1;cases g1;rw[g];exact k v' H' n p m l
def HC{E:AS}:freeze E n (k+1) (.aA vs)=if(AV.aA vs).refs<=n then some (.aA vs)else match iY E n k vs with|some a=>some (.aA a)|none=>none:=by
 rw[freeze]
 grind
theorem N7{E:AS}{n k:Nat}: ∀l:lA,aL l<=n->iY E n (k+2) l=some l
 | [],_=>by rw[iY]
 |b::bs,a=>by
  simp only[aL]at a;rw[iY,yo (by omega)];rw[N7 bs (by omega)]
theorem N8{E:AS}{n k:Nat}: ∀af:List lA,b9 af<=n->rV E n (k+3) af=some af
 | [],_=>by rw[rV]
 |a::as,h=>by
  simp only[b9]at h;rw[rV,N7 a (by omega)];rw[N8 as (by omega)]
theorem aP.freeze(h:aP N H v sz ty af)(c:b9 af<=N):Den.freeze ⟨H,lo⟩ N (k+4) v=some (bG v af):=by
 obtain⟨f,d⟩:=h;rcases d with⟨rfl,rfl⟩| ⟨id,ak,e,rfl,a⟩
 ·exact yo (adC _)
 ·have b: ¬(AV.ref id ak sz 0 af.length false).refs<=N:=by simp only[AV.refs];omega
  rw[Den.freeze,ac0 b];simp only[a];rw[ac6 ⟨trivial,trivial,by omega⟩];simp only[aoT,aeQ];rw[N8 af c];rfl
theorem aP.AJ(h:aP N H v sz ty af)(a:b9 af<=N):finish N lo v ⟨H,none⟩=(bG v af,⟨H.take N,lo⟩):=
 Hg rfl (h.freeze a)
def aP.acn{b:AV}(h:aP N H v sz ty af)(d:b9 af<=N)(e:b.refs<=N):finish N lo (.aA [v,b]) ⟨H,none⟩=(.aA [bG v af,b],⟨H.take N,lo⟩):=by
 refine Hg rfl ?_;rw[HC];have e1:iY ⟨H,none⟩ N 11 [v,b]=some [bG v af,b]:=by
  rw[iY,h.freeze d];rw[iY,yo e];rw[iY]
 rw[e1];split
 ·rename_i hle;have a:bG v af=v:=by
   obtain⟨i,f⟩:=h;rcases f with⟨rfl,rfl⟩| ⟨id,ak,g,rfl,c⟩
   ·rfl
   ·simp only[AV.refs,aL]at hle;omega
  rw[a]
 ·rfl
def aP.qM(h:aP N H v sz ty af):Rv (bG v af) sz af:=by
 obtain⟨c,b⟩:=h;rcases b with⟨rfl,rfl⟩| ⟨id,ak,d,rfl,a⟩
 ·exact .au
 ·exact .sl c
theorem bL{α:Type}{g:α->lA}(a: ∀x,aL (g x)=0): ∀l:List α,b9 (l.map g)=0
 | []=>rfl
 |x::xs=>by simp only[aj9,b9,a,bL a xs];rfl
def apo{E:AS}(h:af.all (λel=>el.length==sz)=true):Den.elems E sz (.sl af c)=some af:=by
 simp only[Den.elems];grind
end
def HD{k:IntKind}{a b:Int}{c:List EK}{as bs:lA}:iX (.int::c) (.int k a::as) (.int k b::bs)=if a=b then iX c as bs else some false:=by
 simp only[iX,qo,ae4]
 grind
def aco{a b:Bool}{c:List EK}{as bs:lA}:iX (.bool::c) (.bool a::as) (.bool b::bs)=if a=b then iX c as bs else some false:=by
 simp only[iX,qo]
 grind
theorem N9:iX [] [] []=some true:=rfl
def acp{N:Nat}{H:List ae}(b: ¬v.refs<=N)(a:freeze ⟨H,none⟩ N 12 v=none):finish N lo v ⟨H,none⟩=(v,⟨H,lo⟩):=by
 rw[uG,ac0 b,a];rfl
def Oa{N id o:Nat}{E:AS}(h:N<=id):freeze E N k (.ptr id o)=none:=by
 cases k with
 |zero=>rw[freeze]
 |succ k=>
  have a: ¬(AV.ptr id o).refs<=N:=by simp only[AV.refs];omega
  simp[freeze,a]
def Df{X:Ctx}{p:lA->AS->Option aU}{args:lA}{E:AS}{a:aU}(b:X.cg f=some p)(h:p args E=some a):D X (.fn (.func f) [] []) args E=some a:=by
 refine G7 ?_;simp only[step,b,agt,agc];exact h
theorem acq{cs:lA}:eH cs []=some cs:=rfl
theorem acr{cs:lA}{off:Nat}{r:List (Nat×Nat×AV)}:eH cs ((off,n,v)::r)=if v.cx=false/\v.cells.length=n/\off+n<=cs.length then eH (aN cs off v.cells) r else none:=rfl
theorem acs{len:Nat}{a:List (Nat×Nat×AV)}:Nw z len a=(eH (List.replicate len z).flatten a).map λcs=>.sl (chunks z.length len cs) true:=rfl
theorem acu{E:AS}{ty:TypeId}{len:Nat}{a:List (Nat×Nat×AV)}:Nx E ty z len a=(eH (List.replicate len z).flatten a).map λcs=>(.ref E.heap.length 0 z.length 0 len false,E.push (.row 0 z.length ty (chunks z.length len cs))):=rfl
theorem acv{a:List (Nat×Nat×AV)}:Nv z a=(eH z a).map .agg:=rfl
theorem acw{cs:lA}:chunks sz 0 cs=[]:=rfl
theorem acx{cs:lA}:chunks sz (k+1) cs=cs.take sz::chunks sz k (cs.drop sz):=rfl
theorem acy{E:AS}:Den.elems E sz (.sl af c)=if af.all (λel=>el.length==sz)then some af else none:=rfl
def acz{k:IntKind}{a:Int}:jL sz (.sl af c) (.int k a)=if 0<=a/\a<af.length/\ (af.getD a.toNat []).length=sz then some (.fe (af.getD a.toNat []) 0)else none:=by
 simp only[jL,qq]
 grind
theorem acA{X:Ctx}{id off:Nat}{k:IntKind}{a:Int}:uv X n sz (.ptr id off) (.int k a)=if 0<=a/\a<n then some (.ptr id (off+a.toNat*sz))else none:=rfl
theorem acB{X:Ctx}{id off:Nat}{k:IntKind}{a:Int}:uv X n sz (.dA id ak j off) (.int k a)=if 0<=a/\a<n then some (.dA id ak j (off+a.toNat*sz))else none:=rfl
theorem acC{X:Ctx}{off:Nat}{cs:lA}{k:IntKind}{a:Int}:uv X n sz (.fe cs off) (.int k a)=if 0<=a/\a<n then some (.fe cs (off+a.toNat*sz))else none:=rfl
theorem acD{X:Ctx}{g:Nat}{k:IntKind}{a:Int}:uv X n sz (.dS g) (.int k a)=if 0<=a/\a<n then(match X.dS g with|some cs=>some (.fe cs (a.toNat*sz))|none=>none)else none:=rfl
theorem acE{off:Nat}{cs:lA}:WO ag n off (.agg cs)=Den.part ag n cs off:=rfl
theorem acF:C9 (.aA vs) i=vs[i]?:=rfl
theorem acG{E:AS}:gF E .sl (.sl af c)=some (.int .i64 af.length):=rfl
theorem acH{E:AS}:gF E .sl .au=some (.int .i64 0):=rfl
theorem acI{E:AS}{id v z o:Nat}:gF E .sl (.ref id v z o n c)=some (.int .i64 n):=rfl
theorem acJ{E:AS}{id off:Nat}:gF E .sl (.fC id sz off n)=some (.int .i64 n):=rfl
theorem Ob{id off:Nat}{k:IntKind}{a:Int}:jL m (.fC id sz off n) (.int k a)=if 0<=a/\a<n/\sz=m then some (.ptr id (off+a.toNat*m))else none:=rfl
def acK{X:Ctx}{id off:Nat}{b:Int}:qs X n sz (.ptr id off) none (some (.int k' b))=if 0<=b/\b<=n then some (.fC id sz off b.toNat)else none:=by
 simp only[qs,gT,lO]
 grind
theorem acL{H:List ae}{lo:oN}{id sz m off n:Nat}:Den.elems ⟨H,lo⟩ m (.fC id sz off n)=match H[id]? with
 |some (.box cs _)=>if sz=m/\off+n*m<=cs.length then some (chunks m n (cs.drop off))else none
 |_=>none:=rfl
theorem acM:vZ []=some []:=rfl
theorem acN{n:Int}{r:List lA}:vZ ([.int .u8 n]::r)=(vZ r).map (UInt8.ofNat n.toNat:: ·):=rfl
def acO{H:List ae}{x:ae}(h:H.length=n)(a:m=n+1): (H++[x]).take m=H++[x]:=by grind
def dT{h:Decidable True}: @decide True h=true:=by simp
def dF{h:Decidable False}: @decide False h=false:=by simp
def O1:=gG @acq<|gG @acr<|gG @acs<|gG @acu<|gG @acv<|gG @acw<|gG @acx<|gG @acy<|gG @acE<|gG @acJ<|gG @acG<|gG @acH<|gG @acI<|gG @Ob<|gG @acK<|gG @acL<|gG @acM<|gG @acN<|gG @dT<|gG @dF<|gG @List.getD_cons_zero.{0}<|gG @List.getD_cons_succ.{0}<|gG @acz<|gG @acA<|gG @acB<|gG @acC<|gG @acD<|gG @Nat.mul_one<|gG @acF<|gG @ast.{0}<|gG @List.replicate_zero.{0}<|gG @ao3.{0}<|gG @List.flatten_nil.{0}<|gG @awC.{0} @List.all_nil.{0}
section
variable{X:Ctx}{n:Nat}{lo:oN}{e:Env}{E:AS}{R:aU->Prop}{a b c d m k:Nat}{ag ah:Bool}
def og(n:Nat)(lo:oN)(R:aU->Prop):AV->AS->Prop:=λv E=>R (.ret (finish n lo v E).1 (finish n lo v E).2)
theorem acP:og n lo R v E=R (.ret (finish n lo v E).1 (finish n lo v E).2):=rfl
def AK:dX X n lo [.cell a ag m] R .ret ⟨e,[]⟩ E=okV (cp X E ag m (e a)) (og n lo R) E:=by
 simp only[yn,yp,gg,kr,oQ];cases h:cp X E ag m (e a)with
 |none=>simp[okV,h]
 |some v=>simp[okV,og,h]
def oY:dX X n lo [.cell a ag m,.t b] R .ret ⟨e,[]⟩ E=okV (cp X E ag m (e a)) (λv E=>og n lo R (.aA [v,e b]) E) E:=by
 simp only[yn,yp,gg,kr,oQ];cases h:cp X E ag m (e a)with
 |none=>simp[okV,h]
 |some v=>simp[okV,og,h]
def acQ:dX X n lo [.cell a ag m,.t b,.t c] R .ret ⟨e,[]⟩ E=okV (cp X E ag m (e a)) (λv E=>og n lo R (.aA [v,e b,e c]) E) E:=by
 simp only[yn,yp,gg,kr,oQ];cases h:cp X E ag m (e a)with
 |none=>simp[okV,h]
 |some v=>simp[okV,og,h]
def acR:dX X n lo [.cell a ag m,.cell b ah k] R .ret ⟨e,[]⟩ E=okV (cp X E ag m (e a)) (λv E=>okV (cp X E ah k (e b)) (λu E=>og n lo R (.aA [v,u]) E) E) E:=by
 simp only[yn,yp,gg,kr,oQ];cases h:cp X E ag m (e a)with
 |none=>simp[okV,h]
 |some v=>
  cases f:cp X E ah k (e b)with
  |none=>simp[okV,h,f]
  |some u=>simp[okV,og,h,f]
def Q1:=gG @acP<|gG @AK<|gG @oY<|gG @acQ @acR
end
section
variable{X:Ctx}{R:oX}
def qN(X:Ctx)(R:oX)(tv:AV)(fS:lA)(rv:AV)(E:AS)(K:AS->Prop):Prop:= ∃a,AH X (D X) Lw R tv fS rv E=some a/\K a
def dK(X:Ctx)(R:oX)(n:Nat)(lo:oN)(res:List RV)(P:aU->Prop)(tv:AV)(fS:lA):bY
 |.normal,fr,E=> ∃a,dV E fr.marks=some a/\qN X R tv fS .eV a λb=>dX X n lo res P .ret ⟨fr.env,[]⟩ b
 |.ret,fr,E=> ∃a,dV E fr.marks=some a/\qN X R tv fS .eV a λb=>dX X n lo res P .ret ⟨fr.env,[]⟩ b
 |.panic v,fr,E=> ∃a,dV E fr.marks=some a/\qN X R tv fS v a λb=>dX X n lo res P .ret ⟨fr.env,[]⟩ b
 |.exit _,_,_=>False
section
variable{n:Nat}{lo:oN}{res:List RV}{P:aU->Prop}{tv:AV}{fS:lA}{e:Env}{E:AS}{v:AV}
def Dg:dK X R n lo res P tv fS .ret ⟨e,[]⟩ E=qN X R tv fS .eV E λa=>dX X n lo res P .ret ⟨e,[]⟩ a:=by
 simp[dK,dV]
def oh:dK X R n lo res P tv fS (.panic v) ⟨e,[]⟩ E=qN X R tv fS v E λa=>dX X n lo res P .ret ⟨e,[]⟩ a:=by
 simp[dK,dV]
end
def HE(X:Ctx)(R:oX)(f:FuncId)(n:Nat)(lo:oN)(res:List RV)(P:aU->Prop)(k6:ao)(fS:List ao)(rest:PC):bY:=λex fr E=>
 ex= .normal/\fr.marks=[]/\ (k6.get fr.env).HB=true/\wp X f false rest ⟨fr.env,[]⟩ E (dK X R n lo res P (k6.get fr.env) (fS.map (·.get fr.env)))
def Oc(X:Ctx)(R:oX)(f:FuncId)(n:Nat)(lo:oN)(res:List RV)(P:aU->Prop)(ops:List aQ)(k6:ao)(fS:List ao)(rest:PC):bY:=λex fr E=>
 ex= .normal/\wp X f false (.aJ ops) fr E (HE X R f n lo res P k6 fS rest)
section
variable{f:FuncId}{n:Nat}{lo:oN}{res:List RV}{P:aU->Prop}{ops:List aQ}{k6:ao}{fS:List ao}{rest:PC}{e:Env}{fr:Fr}{E:AS}
def ku:HE X R f n lo res P k6 fS rest .normal ⟨e,[]⟩ E=((k6.get e).HB=true/\wp X f false rest ⟨e,[]⟩ E (dK X R n lo res P (k6.get e) (fS.map (·.get e)))):=by simp[HE]
def kx:Oc X R f n lo res P ops k6 fS rest .normal fr E=wp X f false (.aJ ops) fr E (HE X R f n lo res P k6 fS rest):=by simp[Oc]
end
def Od(i:uH){k:PC}{ops:List aQ}{k6:ao}{fS:List ao}{rest:PC}(y:i.body= .later k (.here ops k6 fS rest)){args:lA}{H:List ae}{P:aU->Prop}(w:Nat.ble args.length i.ntmps=true)
  (h: ∀n,H.length=n->wp X f false k ⟨dv args,[]⟩ ⟨H,none⟩ (Oc X R f n lo i.results P ops k6 fS rest)): ∃m,wq X (D X) Lw R f i args ⟨H,lo⟩=some m/\P m:=by
 obtain⟨ex,fr,E,u,rfl,hw⟩:=h _ rfl;rw[Nq]at hw;obtain⟨B,⟨j,t⟩,s,p,rfl,hm,x,d,c,g,o,q⟩:=hw;subst hm;have l:wo X (D X) Lw f i.body ⟨dv args,[]⟩ ⟨H,none⟩=some (some (k6.get j,fS.map (·.get j)),(d,c,g)):=by
  rw[y];simp only[wo,u,p,x,ae4,o,aeM]
 unfold wq;rw[ac6 (ao6 w)];simp only[l,NW];have key: ∀rv,d.NV=some rv->(∃b,dV g c.marks=some b/\qN X R (k6.get j) (fS.map (·.get j)) rv b λa=>dX X H.length lo i.results P .ret ⟨c.env,[]⟩ a)->
   ∃m,(match d.NV,dV g c.marks with
    |some rv,some b=>(AH X (D X) Lw R (k6.get j) (fS.map (·.get j)) rv b).bind λa=>(gg X a c.env i.results).map λv=>aU.ret (finish H.length lo v a).1 (finish H.length lo v a).2
    |_,_=>none)=some m/\P m:=by
  rintro rv C ⟨b,J,a,I,A⟩;obtain⟨r,v,z,G,F⟩:=A;simp only[dV,ac1]at z
  grind
 cases d with
 |normal=>exact key _ rfl q
 |ret=>exact key _ rfl q
 |panic v=>exact key _ rfl q
 |exit _=>trivial
def HF{g:FuncId}{pr:wk}(c:R g=some pr){cap fS:lA}{rv:AV}{H:List ae}{K:AS->Prop}(b:Nat.ble (fS++cap).length pr.pf.ntmps=true)
  (h: ∀n,H.length=n->wp X g false pr.pf.body ⟨(dv (fS++cap)).set pr.dst rv,[]⟩ ⟨H,none⟩ (λex fr E=>fr.marks=[]/\ (ex= .normal\/ex= .ret)/\ ∃v,gg X E fr.env pr.pf.results=some v/\K (finish n lo v E).2)):
  qN X R (.fn (.func g) [] cap) fS rv ⟨H,lo⟩ K:=by
 obtain⟨ex,⟨e,ms⟩,E,i,hm,hex,v,j,d⟩:=h _ rfl;have a:=ao6 b;refine⟨_,?_,d⟩;simp only[AH,c,apb,Hz,agt]
 grind
end
section
structure Ext(X X':Ctx):Prop where
 dS:X'.dS=X.dS
 gu:X'.gu=X.gu
 code:X'.code=X.code
 cg: ∀f,X'.cg f=X.cg f\/ (X.cg f=none/\X.code f=none)
variable{X X':Ctx}
def apq(h:Ext X X'):cp X'=cp X:=by
 unfold cp;rw[h.dS]
def acS(h:Ext X X'){C:bJ}(i:I)(e:Env)(E:AS):exec X' C i e E=exec X C i e E:=by
 obtain⟨g,j,c,m'⟩:=X';obtain⟨b,a,f,d⟩:=h;subst b a;cases i<;>rfl
theorem acT(h:Ext X X'){C:bJ}: ∀ (os:List aQ),fg X' C os=fg X C os
 | []=>by rfl
 |o::os=>by
  simp only[fg,acS h,acT h os]
theorem acU(h:Ext X X'){C:bJ}: ∀ (os:List (aQ×lN)) (a:List FP),gV X' C a os=gV X C a os
 | [],a=>by rfl
 |o::os,a=>by
  simp only[gV,acS h,acU h os]
def apr(h:Ext X X')(a:qw X v=true):qw X' v=true:=by
 unfold qw at a⊢;split at a
 ·rename_i f _ _;rw[h.code];rcases h.cg f with b| ⟨_,c⟩
  ·grind
  grind
 omega
theorem sf(h:Ext X X'){C:bJ}{L:eJ}(e:eJ.le L L)(bU:FuncId)(rd:Bool): ∀pc,qF (bf X C L bU rd pc) (bf X' C L bU rd pc)
 |.skip,_,_,_,d=>by trivial
 |.seq a b,fr,E,r,d=>by
  simp only[bf]at d⊢;split at d
  ·rename_i k;rw[sf h e bU rd a _ _ _ k];exact sf h e bU rd b _ _ _ d
  ·cases f:bf X C L bU rd a fr E with
   |none=>grind
   |some q=>
    rw[sf h e bU rd a _ _ _ f]
    grind
 |.cond c a b,fr,E,r,d=>by
  simp only[bf]at d⊢;split at d
  ·rename_i t m;split at d
   ·rename_i i;rw[ac6 i];exact sf h e bU rd a _ _ _ d
   ·rename_i i;rw[ac0 i];exact sf h e bU rd b _ _ _ d
  omega
 |.block id body,fr,E,r,d=>by
  simp only[bf]at d⊢;cases f:bf X C L bU rd body fr E with
  |none=>rw[f]at d;cases d
  |some q=>rw[sf h e bU rd body _ _ _ f];rw[f]at d;exact d
 |.loop body,fr,E,r,d=>by
  simp only[bf]at d⊢;exact e _ _ (sf h e bU rd body) _ _ _ d
 |.exit id,_,_,_,d=>by simpa only[bf]using d
 |.ret,_,_,_,d=>by simpa only[bf]using d
 |.aJ ops,fr,E,r,d=>by
  simp only[bf]at d⊢;rw[acT h];exact d
 |.ur ops,fr,E,r,d=>by
  simp only[bf]at d⊢;rw[acU h];exact d
 |.iW g ps as bd,fr,E,r,d=>by
  simp only[bf]at d⊢;split at d
  ·cases d
  ·rename_i j;rw[ac0 j];split at d
   ·rename_i l;rw[ac6 (apr h l)];exact d
   ·cases d
def aps(h:Ext X X'){C:bJ}{L:eJ}(m:eJ.le L L)(l:Nat)(args:lA)(E:AS)(r:aU)(c:lS X C L l args E=some r):lS X' C L l args E=some r:=by
 simp only[lS]at c⊢;split at c
 ·rename_i st j f env ps as bd s;split at c
  ·rename_i a;simp only[a,ae4];split at c
   ·rename_i fr e n;rw[sf h m _ _ _ _ _ _ n];simp only;split at c
    ·rename_i b p d g i ju o;cases k:bf X C L f true bd fr (e.set l (.loop .busy b p d g i ju) 0)with
     |none=>rw[k]at c;cases c
     |some q=>rw[sf h m _ _ _ _ _ _ k];grind
    omega
   grind
  grind
 omega
theorem acV(h:Ext X X')(E:AS)(e:Env): ∀rs,kr X' E e rs=kr X E e rs
 | []=>rfl
 |r::rs=>by
  have:oQ X' E e r=oQ X E e r:=by
   cases r with
   |t i=>rfl
   |cell a ag n=>simp only[oQ,apq h]
  simp only[kr,this,acV h E e rs]
def apt(h:Ext X X')(n:Nat)(lo:oN)(pf:PF)(r:jM):leave X' n lo pf r=leave X n lo pf r:=by
 have e1: ∀fr E,qx X' n lo pf fr E=qx X n lo pf fr E:=λfr E=>by
  simp only[qx,gg,acV h]
 rcases r with _| ⟨ex,fr,E⟩
 ·rfl
 ·cases ex<;>simp only[leave,e1]
def apu(h:Ext X X'){C:bJ}{L:eJ}(d:eJ.le L L):bJ.le (step X C L) (step X' C L):=by
 intro v args E r b;unfold step at b⊢;split at b
 ·rename_i f first cap
  split at b
  ·rename_i p g;have:X'.cg f=some p:=by
    rcases h.cg f with q| ⟨q,_⟩
    ·grind
    grind
   grind
  ·split at b
   ·rename_i pf e;split at b
    ·rename_i a;have:X'.cg f=none:=by
      rcases h.cg f with q| ⟨_,q⟩
      ·grind
      grind
     rw[this,h.code,e];simp only;rw[ac6 a,apt h];cases c:bf X C L f false pf.body {env:=dv (first++args++cap),marks:=[]} {E with lo:=none}with
     |none=>rw[c]at b;cases b
     |some q=>rw[sf h d _ _ _ _ _ _ c];grind
    grind
   grind
 ·exact aps h d _ _ _ _ b
 omega
theorem acW(h:Ext X X'): ∀n,bJ.le (ja X n) (ja X' n)
 |0=>λf args E r h=>by trivial
 |n+1=>by
  exact bJ.le_trans (apu h (G5 n)) (Wg (acW h n) (G5 n))
def acX(h:Ext X X'):bJ.le (D X) (D X'):=λf a s r b=>by
 obtain⟨n,c⟩:=yj b;exact Nj (n:=n) _ _ _ _ (acW h n _ _ _ _ c)
end
def sg(a:List (Nat×lB×Nat)):List (AV×AV):=a.map λx=>(.int .u8 x.1,.fn (.func x.2.2) [] [])
theorem Oe{n:Int}: ∀l:List (AV×AV),(∀p∈l,∃m:Int,p.1= .int .u8 m)->ew (.int .u8 n) l=some ((l.find? λp=>match p.1 with|.int _ m=>n==m|_=>false).map (·.2))
 | [],_=>rfl
 | (k,v)::l,h=>by
   obtain⟨m,hm⟩:=h (k,v) (by simp);have a:=Oe (n:=n) l (λp b=>h p (by grind));simp only[ew,oP,List.find?_cons]
   grind
theorem acY: ∀ {l:List (AV×AV)} {p q:AV×AV},(l.Pairwise λp q=>p.1≠q.1)->p∈l->q∈l->p≠q->p.1≠q.1
 |a::l,p,q,h,f,e,b=>by
  rw[amI]at h;rcases aeZ.1 f with d|d
  ·grind
  ·rcases aeZ.1 e with c|c
   ·grind
   ·exact acY h.2 d c b
def apv{α β:Type}{F:α->β}{l g:List β}(h:l.Perm g): ∀m:List α,m.map F=l-> ∃m':List α,m'.Perm m/\m'.map F=g:=by
 induction h with
 |nil=>simp
 |cons x _ j=>
  intro m hm;cases m with
  |nil=>grind
  |cons a m=>
   simp only[aj9,aA3]at hm;obtain⟨m',f,i⟩:=j m hm.2;exact⟨a::m',f.cons a,by grind⟩
 |swap x y l=>
  intro m hm
  match m,hm with
  |a::b::m,hm=>
   exact⟨b::a::m,.swap a b m,by grind⟩
 |trans _ _ e d=>
  intro m hm;obtain⟨m',f,i⟩:=e m hm;obtain⟨c,n,k⟩:=d m' i;exact⟨c,n.trans f,k⟩
def apw{l e:List (AV×AV)}(h: ∀p∈l,∃m:Int,p.1= .int .u8 m)(o:l.Perm e)(u:l.Pairwise λp q=>p.1≠q.1){k:AV}{v:Option AV}(f:ew k l=some v):ew k e=some v:=by
 have w: ∀p∈e,∃m:Int,p.1= .int .u8 m:=λp j=>h p (o.mem_iff.2 j)
 cases l with
 |nil=>simp_all
 |cons a l=>
  obtain⟨m,hm⟩:=h a (by simp);obtain⟨z,r⟩:=a;simp only at hm;subst hm;cases k with
  |int q n=>
   by_cases t:q= .u8
   ·subst t;rw[Oe _ h]at f;rw[Oe _ w];rw[<-f]
    congr 2
    have hu: ∀p q:AV×AV,p∈((AV.int .u8 m,r)::l)->q∈((AV.int .u8 m,r)::l)->(match p.1 with|.int _ m=>n==m|_=>false)=true->(match q.1 with|.int _ m=>n==m|_=>false)=true->p=q:=by
     intro p q c b e1 d;obtain⟨g,y⟩:=h p c;obtain⟨s,x⟩:=h q b;have e3:p.1=q.1:=by grind
     by_cases i:p=q
     ·omega
     ·exact absurd e3 (acY u c b i)
    cases e1: ((AV.int .u8 m,r)::l).find? (λp=>match p.1 with|.int _ m=>n==m|_=>false)with
    |none=>grind
    |some p=>
     have g:=apH e1;have t1:=List.find?_some e1;cases d:e.find? (λp=>match p.1 with|.int _ m=>n==m|_=>false)with
     |none=>
      rw[awO]at d;exact absurd t1 (d p (o.mem_iff.1 g))
     |some q=>
      have s:=o.mem_iff.2 (apH d);have t2:=List.find?_some d;rw[hu q p s g t2 t1]
   ·exfalso;simp[ew,oP,t]at f
  |_=>exfalso;simp[ew,oP]at f
section
variable{P:Program}{W:World}
theorem acZ{α β:Type}{f:α->Option β}: ∀ {l:List α} {r:List β},l.mapM f=some r->l.length=r.length/\ ∀ (i:Nat) a b,l[i]?=some a->r[i]?=some b->f a=some b
 | [],r,h=>by grind
 |x::l,r,h=>by
  rw[aA7]at h;simp only[bind,an1,pure,ac1]at h;obtain⟨y,e,d,c,rfl⟩:=h;obtain⟨j,g⟩:=acZ c
  grind
def apx{n:String}{d:DataW Unit}{g e:Nat}{ps rs:Array TypeId}{va:Bool}{a:List (Nat×lB×Nat)}(hfa:funcsAt P W n d)(hd:d.funcsOut= .map (a.map λx=>(.int .u8 x.1,.held x.2.1)))
  (hg:P.globalNamed n=some g) (ht: (P.globals[g]?).map (·.type)=some t) (hu:P.underlying t=some (.map k e)) (hk:P.underlying k=some (.int .u8)) (he:P.underlying e=some (.func ps rs va))
  (S: ∀x∈a,((List.range P.funcs.size).filter λf=>(P.funcs[f]?).any (·.name.toUTF8.data.toList==x.2.1))=[x.2.2]) (sb: ∀x∈a,x.2.1≠[]) (D:a.Pairwise λx y=>x.1≠y.1):
  g<W.heap.size/\ ∃es' r ms clock,r<W.heap.size/\W.cell? ⟨g,0,none⟩=some (.map (some r))/\W.heap[r]?=some (.map ms clock)/\gh (G0 W.heap.size W) es' ms.toList/\ ∀k v,ew k (sg a)=some v->ew k es'=some v:=by
 obtain⟨g',t',cs,fuel,p,h1,h2,h3,u⟩:=hfa;obtain rfl:g'=g:=ah8 (h1.symm.trans hg);obtain rfl:t'=t:=ah8 (h2.symm.trans ht);rw[hd]at u;cases fuel with
 |zero=>simp[DataW.trod]at u
 |succ fuel=>
 unfold DataW.trod at u;rw[hu]at u;obtain⟨b,K⟩: ∃b,cs.toList=[.map (some b)]:=by
  split at u<;>simp_all
 rw[K]at u;simp only at u;split at u
 case h_2=>cases u
 rename_i es clock hb;split at u
 case isFalse=>cases u
 obtain⟨entries,hm,hs⟩:=an1.1 u;split at hs
 case isFalse=>cases hs
 rename_i aBa;simp only[ac1,apA,DataW.map.injEq]at hs;obtain⟨G,_⟩:=hs;obtain⟨E,apz⟩:=acZ hm;have z: (entries.map (·.1)).Perm (a.map λx=>(Lit.int .u8 x.1,DataW.held x.2.1)):=by
  rw[<-G];exact(WideShapes.sorted_perm _).symm
 have B: ∀ (i:Nat) (m:MapEntry),es.toList[i]?=some m-> ∃x∈a,(entries.map (·.1))[i]?=some (Lit.int .u8 x.1,DataW.held x.2.1)/\m.key= .int .u8 x.1/\m.val= .func (.func x.2.2) #[] #[]:=by
  intro i m J;have I:i<entries.length:=by rw[<-E];exact(ack.1 J).1
  have B:=apz i m entries[i] J (ac7 I);obtain⟨key,l,s⟩:=an1.1 B;have U:entries[i].1∈a.map λx=>(Lit.int .u8 x.1,DataW.held x.2.1):=z.mem_iff.1 (aeO.2 ⟨entries[i],ass I,rfl⟩)
  obtain⟨x,C,q⟩:=aeO.1 U;refine⟨x,C,by rw[agp,ac7 I,aeM,<-q],?_⟩;split at s
  case isFalse=>cases s
  rename_i A;obtain⟨y,F,N⟩:=aeL.1 s;have hk1:key= .int .u8 x.1:=by rw[<-N]at q;simp only[apA]at q;exact q.1.symm
  have V:y.1= .held x.2.1:=by rw[<-N]at q;simp only[apA]at q;exact q.2.symm
  constructor
  ·subst hk1;unfold keyOf at l;rw[hk]at l;simp only at l;unfold mapKey at l;rw[hk]at l;split at l<;>simp_all
  ·have L:m.val.cells.toList=[m.val]:=by
     cases hv:m.val<;>first|rfl| (rw[hv]at A;simp[Value.formed,he]at A)
   rw[L]at F;obtain⟨y1,y2⟩:=y;simp only at V;subst V;cases H:x.2.1 with
   |nil=>exact absurd H (sb x C)
   |cons c r=>
    rw[H]at F;have ho:=S x C;rw[H]at ho;exact func_of_trod he ho F
 obtain⟨w,R,Q⟩:=apv z.symm a rfl;have O:g'<W.heap.size:=by
  have hc:W.cell? ⟨g',0,none⟩=some (.map (some b)):=by rw[World.var?_cell hg h3,<-apE,K];rfl
  unfold World.cell? at hc;cases hh:W.heap[g']? with
  |none=>rw[hh]at hc;cases hc
  |some o=>exact(amV.1 hh).1
 have Z: ∀x∈a,∀y∈a,x.1=y.1->x=y:=by
  intro x C y F e;obtain⟨i,J⟩:=awA C;obtain⟨j,Y⟩:=awA F;rw[awP]at D;have hi1:=(ack.1 J).1;have X:=(ack.1 Y).1;rcases aBk i j with h|h|h
  ·have:=D i j hi1 X h;rw[(ack.1 J).2,(ack.1 Y).2]at this;exact absurd e this
  ·subst h;rw[J]at Y;cases Y;rfl
  ·have:=D j i X hi1 h;rw[(ack.1 J).2,(ack.1 Y).2]at this;exact absurd e.symm this
 refine⟨O,sg w,b,es,clock,(amV.1 hb).1,?_,hb,?_,?_⟩
 ·rw[World.var?_cell hg h3,<-apE,K];rfl
 ·have hl':w.length=es.toList.length:=by
    have:=ahR List.length Q;simp only[aeK]at this;omega
  have key: ∀ (T:List (Nat×lB×Nat)) (M:List MapEntry),T.length=M.length->(∀ (i:Nat) x m,T[i]?=some x->M[i]?=some m->m.key= .int .u8 x.1/\m.val= .func (.func x.2.2) #[] #[])->gh (G0 W.heap.size W) (sg T) M:=by
   intro T
   induction T with
   |nil=>
    intro M hM _;cases M with
    |nil=>rfl
    |cons m M=>simp at hM
   |cons x T ih=>
    intro M hM hh;cases M with
    |nil=>simp at hM
    |cons m M=>
     obtain⟨e1,e2⟩:=hh 0 x m rfl rfl;refine⟨m,M,rfl,rfl,by rw[e1];rfl,by rw[e2];exact⟨.func x.2.2,#[],#[],rfl,rfl,rfl,rfl⟩,ih M (by simpa using hM) λi x' m' C hm=>hh (i+1) x' m' (by simpa using C) (by simpa using hm)⟩
  refine key w es.toList hl' λi x m C hm=>?_
  obtain⟨y,F,hy1,hy2,hy3⟩:=B i m hm;have e1: (entries.map (·.1))[i]?=some (Lit.int .u8 x.1,DataW.held x.2.1):=by
   rw[<-Q,agp,C];rfl
  rw[hy1]at e1;simp only[ac1,apA,Lit.int.injEq,aA4]at e1;have e2:y.1=x.1:=by have:=e1.1;omega
  have:y=x:=Z y F x (R.mem_iff.1 (amF C)) e2;subst this;exact⟨hy2,hy3⟩
 ·intro k v hf;refine apw (λp hp=>?_) (R.symm.map _) ?_ hf
  ·obtain⟨x,_,rfl⟩:=aeO.1 hp;exact⟨x.1,rfl⟩
  ·rw[aBn];refine D.imp λhab=>?_
   simp only[ne_eq,AV.int.injEq,aA4];omega
end
section
variable{X:Ctx}
def apF{args:lA}{E:AS}{r:aU}(h:lS X (D X) Lw l args E=some r):D X (.fn (.yield l) [] []) args E=some r:=
 G7 (by trivial)
def Ex.code:Ex->PC
 |.ret=>.ret
 |.exit id=>.exit id
 |_=>.skip
end
section
structure YV(S:Type)where
 P:S->List ae->Prop
 row:S->oN
 dM:Nat->Prop
 c:Nat
structure YV.Ok{S:Type}(V:YV S):Prop where
 st: ∀s W W',V.P s W->(∀i,V.dM i\/V.row s=some i->W'[i]?=W[i]?)->V.P s W'
 lt: ∀s W r,V.P s W->V.row s=some r-> ∃v z t af,W[r]?=some (.row v z t af)
def YV.Fr{S:Type}(V:YV S)(s:S)(W a:List ae):Prop:=W.length<=a.length/\ ∀i,i<W.length-> ¬V.dM i->V.row s≠some i->a[i]?=W[i]?
def k7(c b:Nat)(lo aj:oN)(r a:oN):Prop:=(aj=lo/\a=r)\/ ∃j,c<=j/\j<b/\aj=cO lo j
variable{X:Ctx}
def Of(X:Ctx){S:Type}(V:YV S)(b:Nat)(y:AV)(x:lA)(s:S)(Q:Bool->S->Prop):Prop:=
 ∀W,V.P s W->b<=W.length-> ∀lo,∃c s' a aj,D X y x ⟨W,lo⟩=some (.ret (.bool c) ⟨a,aj⟩)/\V.P s' a/\V.Fr s W a/\ (V.row s'=V.row s\/ ∃r,V.row s'=some r/\W.length<=r)/\k7 V.c b lo aj (V.row s) (V.row s')/\Q c s'
def uI(X:Ctx)(g:AV)(a:Nat)(G:List ae)(xs:List lA):Prop:=
 ∀ (S:Type) (V:YV S) (y:AV) (I:Nat->S->Prop) (J:S->Prop) (b:Nat),V.Ok->(∀i,V.dM i->i<b/\ ¬(a<=i/\i<a+G.length))->
   (∀j x s,xs[j]?=some x->I j s->Of X V b y x s (λc s'=>if c=true then I (j+1) s' else J s'))->
   ∀W s,V.P s W->I 0 s->W.length=b->V.row s=none->(∀i,i<G.length->W[a+i]?=G[i]?)-> ∀lo,∃s' d aj,
    D X g [y] ⟨W,lo⟩=some (.ret (.aA []) ⟨d,aj⟩)/\V.P s' d/\ (I xs.length s'\/J s')/\b<=d.length/\
    (∀i,i<b-> ¬V.dM i-> ¬(a<=i/\i<a+G.length)->d[i]?=W[i]?)/\k7 V.c b lo aj none (V.row s')
def ac2(X:Ctx){S:Type}(V:YV S)(b:Nat)(g:AV)(a:Nat)(G:List ae)(xs:List lA):Prop:=
 ∀ (y:Nat) (I:Nat->S->Prop) (J:S->Prop),(∀i,V.dM i->i<b/\ ¬(a<=i/\i<a+G.length))->
   (∀j x s,xs[j]?=some x->I j s->Of X V b (.fn (.yield y) [] []) x s (λc s'=>if c=true then I (j+1) s' else J s'))->
   ∀W s,V.P s W->I 0 s->W.length=b->V.row s=none->(∀i,i<G.length->W[a+i]?=G[i]?)-> ∀lo,∃s' d aj,
    D X g [.fn (.yield y) [] []] ⟨W,lo⟩=some (.ret (.aA []) ⟨d,aj⟩)/\V.P s' d/\ (I xs.length s'\/J s')/\b<=d.length/\
    (∀i,i<b-> ¬V.dM i-> ¬(a<=i/\i<a+G.length)->d[i]?=W[i]?)/\k7 V.c b lo aj none (V.row s')
theorem Dh:cO none j=some j:=rfl
def ac3: ∃q,cO (some i) j=some q/\ (q=i\/q=j):=by
 refine⟨Nat.min j i,rfl,?_⟩
 grind
def Og{S:Type}(V:YV S)(b:Nat)(s:S)(W:List ae)(I:S->Prop)(J:Ex->S->Prop):bY:=λex _ E=>
 ∃s',V.P s' E.heap/\V.Fr s W E.heap/\ ((E.lo=none/\V.row s'=V.row s)\/ ∃j,V.c<=j/\j<b/\E.lo=some j/\ (V.row s'=V.row s\/ ∃r,V.row s'=some r/\W.length<=r))/\
  (match ex with|.normal=>I s'|.panic _=>False|ex=>J ex s')
def Oh{H:List ae}(a:v.refs=0): (finish n lo v ⟨H,aj⟩).2=(match aj with|none=>⟨H.take n,lo⟩|some j=>if n<=j then⟨H.take n,lo⟩else⟨H,cO lo j⟩):=by
 have c: ∀k E,freeze E n (k+1) v=some v:=λk E=>yo (by omega)
 unfold finish;cases aj with
 |none=>grind
 |some j=>
  simp only[ae1];split
  ·grind
  ·rfl
def qO{W:List ae}{o:ae}(h:i≠l): (W.set l o)[i]?=W[i]?:=by grind
def ac4{W:List ae}{o:ae}(h:l<W.length): (W.set l o)[l]?=some o:=by grind
def yV{S:Type}(V:YV S)(m:Nat)(f:FuncId)(e:Env)(a:lN)(as d:PC):YV (S×Option Ex)where
 P:=λs W=>V.P s.1 W/\W[m]?=some .fO/\W[m+1]?=some (match s.2 with|none=>.loop .ready none f e a as d|some ex=>.loop .done (some ex.code) f e a as d)
 row:=λs=>V.row s.1
 dM:=λi=>V.dM i\/i=m\/i=m+1
 c:=V.c
def Oi{S:Type}{V:YV S}(c:V.Ok){d:lN}{as n:PC}: (yV V m f e d as n).Ok where
 st:=λs W o ⟨l,k,j⟩ h=>by
  refine⟨c.st _ _ _ l λi a=>h i ?_,?_,?_⟩
  ·rcases a with a|a
   ·exact .inl (.inl a)
   ·exact .inr a
  ·rw[h m (.inl (.inr (.inl rfl)))];exact k
  ·rw[h (m+1) (.inl (.inr (.inr rfl)))];exact j
 lt:=λs W r h g=>c.lt _ _ r h.1 g
def ac5{S:Type}(V:YV S)(O:V.Ok){g:ao}{n:lN}{as q:PC}{Q:bY}(xs:List lA)(a:Nat)(G W0:List ae)(s0:S)
  (hg:qw X (g.get e)=true) (hit:ac2 X (yV V W0.length f e n as q) (W0.length+2) (g.get e) a G xs) (hG: ∀i,i<G.length->W0[a+i]?=G[i]?) (hGl:a+G.length<=W0.length)
  (p: ∀i,V.dM i->i<W0.length/\ ¬(a<=i/\i<a+G.length)) (hP:V.P s0 W0) (T:V.row s0=none)
  (I:Nat->S->Prop) (J:Ex->S->Prop) (h0:I 0 s0) (hJ: ∀ex s,J ex s-> ∃t,qy ex=some (some t)/\xM t=some ex/\ex.code=t)
  (hb: ∀j x s,xs[j]?=some x->I j s->x.length=n.length/\ ∀W,V.P s W->W0.length+2<=W.length->
    wp X f true as ⟨iZ e n x,[]⟩ ⟨W,none⟩ (λex fr Oj=>ex= .normal/\ ∃R1,Oj=⟨W++R1,none⟩/\
     ∀H,H.length=W.length->V.P s H->wp X f true q fr ⟨H++R1,none⟩ (Og V (W0.length+2) s H (I (j+1)) J)))
  (h1: ∀s' k aj,I xs.length s'->V.P s' k->W0.length+2<=k.length->k[W0.length]?=some .fO->(∀i,i<W0.length-> ¬V.dM i-> ¬(a<=i/\i<a+G.length)->k[i]?=W0[i]?)->k7 V.c (W0.length+2) none aj none (V.row s')->Q .normal ⟨e,[W0.length]⟩ ⟨k,aj⟩)
  (h2: ∀ex s' k aj,J ex s'->V.P s' k->W0.length+2<=k.length->k[W0.length]?=some .fO->(∀i,i<W0.length-> ¬V.dM i-> ¬(a<=i/\i<a+G.length)->k[i]?=W0[i]?)->k7 V.c (W0.length+2) none aj none (V.row s')->Q ex ⟨e,[W0.length]⟩ ⟨k,aj⟩):
  wp X f false (.iW g n as q) ⟨e,[]⟩ ⟨W0,none⟩ Q:=by
 obtain⟨m,hm⟩: ∃m,m=W0.length:=⟨_,rfl⟩;rw[<-hm]at hit
 let A:=yV V m f e n as q
 have hV':A.Ok:=Oi O
 let I':Nat->S×Option Ex->Prop:=λj s=>s.2=none/\I j s.1
 let J':S×Option Ex->Prop:=λs=> ∃ex,s.2=some ex/\J ex s.1
 have uJ: ∀s W r,V.P s W->V.row s=some r->r<W.length:=λs W r h1 h2=>by
  obtain⟨_,_,_,_,h⟩:=O.lt s W r h1 h2;exact(ack.1 h).1
 have apG: ∀j x s,xs[j]?=some x->I' j s->Of X A (m+2) (.fn (.yield (m+1)) [] []) x s (λc s'=>if c=true then I' (j+1) s' else J' s'):=by
  rintro j x ⟨s,so⟩ hx ⟨y,hI⟩ W ⟨L,hd,hl⟩ hW lo;simp only at y hI L hl;subst y;simp only at hl;obtain⟨qE,hw⟩:=hb j x s hx hI;obtain⟨ex,fr,Oj,Ol,rfl,R1,rfl,hbd⟩:=hw W L (by omega);have hnp: ∀i,V.dM i\/V.row s=some i->i≠m/\i≠m+1:=by
   rintro i (d|d)
   ·have:=(p i d).1;omega
   ·obtain⟨_,_,_,_,h⟩:=O.lt s W i L d;refine⟨?_,?_⟩
    ·rintro rfl;rw[hd]at h;cases h
    ·rintro rfl;rw[hl]at h;cases h
  obtain⟨H,E⟩: ∃H,H=W.set (m+1) (.loop .busy none f e n as q):=⟨_,rfl⟩;have Aw:H.length=W.length:=by rw[E,aeU]
  have Om:V.P s H:=O.st _ _ _ L λi d=>by rw[E,qO (hnp i d).2]
  obtain⟨HG,fr2,l,hr2,s',F,P,N,hex⟩:=hbd H Aw Om;have HH: (W++R1)[m+1]?=some (.loop .ready none f e n as q):=by rw[acj (by omega)];exact hl
  have apK:AS.set ⟨W++R1,none⟩ (m+1) (.loop .busy none f e n as q) 0=⟨H++R1,none⟩:=by
   simp only[AS.set,adC,ae4,E];rw[asq _ _ (by omega)]
  have apL:H[m+1]?=some (.loop .busy none f e n as q):=by rw[E];exact ac4 (by omega)
  have M: ∀i,i=m\/i=m+1-> ¬V.dM i/\V.row s≠some i:=λi d=>⟨λh=>by have:=(p i h).1;omega,λh=>by have:=hnp i (.inr h);omega⟩
  have K:l.heap[m+1]?=some (.loop .busy none f e n as q):=by
   rw[P.2 (m+1) (by omega) (M _ (.inr rfl)).1 (M _ (.inr rfl)).2];exact apL
  have R:l.heap[m]?=some .fO:=by
   rw[P.2 m (by omega) (M _ (.inl rfl)).1 (M _ (.inl rfl)).2,E,qO (by omega)];exact hd
  have Y: ∀i,V.dM i\/V.row s'=some i->i≠m/\i≠m+1:=by
   rintro i (d|d)
   ·have:=(p i d).1;omega
   ·obtain⟨_,_,_,_,h⟩:=O.lt s' _ i F d;refine⟨?_,?_⟩
    ·rintro rfl;rw[R]at h;cases h
    ·rintro rfl;rw[K]at h;cases h
  have aBe:W.length<=l.heap.length:=by have:=P.1;omega
  have CW: ∀ (t:Option PC),qy HG=some t->lS X (D X) Lw (m+1) x ⟨W,lo⟩=some (.ret (.bool t.isNone)
    (finish W.length lo (.bool t.isNone) ⟨l.heap.set (m+1) (.loop (if t.isNone then .ready else .done) t f e n as q),l.lo⟩).2):=by
   intro t On;unfold lS;simp only[hl];rw[ac6 qE,Ol];simp only[HH,apK,hr2];simp only[endRound,On,K,AS.set,adC,ae4]
  have key: ∀ (t:Option PC) (u:Option Ex),qy HG=some t->(match u with|none=>ae.loop .ready none f e n as q|some ex=>.loop .done (some ex.code) f e n as q)= .loop (if t.isNone then .ready else .done) t f e n as q->
    ∃k aj,D X (.fn (.yield (m+1)) [] []) x ⟨W,lo⟩=some (.ret (.bool t.isNone) ⟨k,aj⟩)/\A.P (s',u) k/\A.Fr (s,none) W k/\ (A.row (s',u)=A.row (s,none)\/ ∃r,A.row (s',u)=some r/\W.length<=r)/\k7 A.c (m+2) lo aj (A.row (s,none)) (A.row (s',u)):=by
   intro t u On U;obtain⟨o,ho⟩: ∃o,o=ae.loop (if t.isNone then .ready else .done) t f e n as q:=⟨_,rfl⟩;rw[<-ho]at U;have hD:=apF (CW t On);rw[<-ho]at hD;have Z: ∀k,(∀i,i<W.length->k[i]?=(l.heap.set (m+1) o)[i]?)->(∀i,V.row s'=some i->k[i]?=(l.heap.set (m+1) o)[i]?)->W.length<=k.length->A.P (s',u) k/\A.Fr (s,none) W k:=by
    intro k z hrw w;refine⟨⟨O.st _ _ _ F λi d=>?_,?_,?_⟩,w,λi d hp B=>?_⟩
    ·rcases d with d|d
     ·rw[z i (by have:=(p i d).1;omega),qO (Y i (.inl d)).2]
     ·rw[hrw i d,qO (Y i (.inr d)).2]
    ·rw[z m (by omega),qO (by omega)];exact R
    ·rw[z (m+1) (by omega),ac4 (by omega)];exact ahR some U.symm
    ·have hp1: ¬V.dM i:=λh=>hp (.inl h)
     have Di:i≠m/\i≠m+1:=⟨λh=>hp (.inr (.inl h)),λh=>hp (.inr (.inr h))⟩;rw[z i d,qO Di.2,P.2 i (by omega) hp1 B,E,qO Di.2]
   rcases N with⟨hn,B⟩| ⟨jj,hc,hj,hn,B⟩
   ·have e1: (finish W.length lo (.bool t.isNone) ⟨l.heap.set (m+1) o,l.lo⟩).2=⟨(l.heap.set (m+1) o).take W.length,lo⟩:=by rw[Oh rfl,hn]
    rw[e1]at hD;refine⟨_,_,hD,?_⟩;obtain⟨g1,g2⟩:=Z ((l.heap.set (m+1) o).take W.length) (λi d=>by rw[ago d])
     (λi d=>by rw[ago (uJ s W i L (by rw[<-B];exact d))]) (by rw[af9,aeU];omega)
    exact⟨g1,g2,.inl B,.inl ⟨rfl,B⟩⟩
   ·have e1: (finish W.length lo (.bool t.isNone) ⟨l.heap.set (m+1) o,l.lo⟩).2=⟨l.heap.set (m+1) o,cO lo jj⟩:=by
      rw[Oh rfl,hn];simp only;rw[ac0 (by omega)]
    rw[e1]at hD;refine⟨_,_,hD,?_⟩;obtain⟨g1,g2⟩:=Z (l.heap.set (m+1) o) (λi _=>rfl) (λi _=>rfl) (by rw[aeU];omega);refine⟨g1,g2,?_,.inr ⟨jj,hc,by omega,rfl⟩⟩;rcases B with B| ⟨r,B,aBf⟩
    ·exact .inl B
    ·exact .inr ⟨r,B,by omega⟩
  cases HG with
  |normal=>
   obtain⟨k,aj,g1,g2,g3,g4,g5⟩:=key none none rfl rfl;exact⟨true,(s',none),k,aj,g1,g2,g3,g4,g5,by simp only[ae4];exact⟨rfl,hex⟩⟩
  |panic v=>exact hex.elim
  |ret=>
   obtain⟨k,aj,g1,g2,g3,g4,g5⟩:=key (some .ret) (some .ret) rfl rfl;exact⟨false,(s',some .ret),k,aj,g1,g2,g3,g4,g5,by simp only[aeJ,ags];exact⟨.ret,rfl,hex⟩⟩
  |exit id=>
   obtain⟨k,aj,g1,g2,g3,g4,g5⟩:=key (some (.exit id)) (some (.exit id)) rfl rfl;exact⟨false,(s',some (.exit id)),k,aj,g1,g2,g3,g4,g5,by simp only[aeJ,ags];exact⟨.exit id,rfl,hex⟩⟩
 have apO: ∀i,A.dM i->i<m+2/\ ¬(a<=i/\i<a+G.length):=by
  rintro i (d|rfl|rfl)
  ·have:=p i d;exact⟨by omega,this.2⟩
  ·exact⟨by omega,by omega⟩
  ·exact⟨by omega,by omega⟩
 have apP: ∀i,V.dM i\/V.row s0=some i->i<W0.length:=by
  rintro i (d|d)
  ·exact(p i d).1
  ·rw[T]at d;cases d
 have Oo:A.P (s0,none) (W0++[.fO,.loop .ready none f e n as q]):=by
  refine⟨O.st _ _ _ hP λi d=>by rw[acj (apP i d)],?_,?_⟩
  ·rw[hm,dB rfl];rfl
  ·rw[hm,bM rfl];rfl
 obtain⟨⟨s',u⟩,k,aj,hD,⟨F,Ar,C⟩,hor,w,oZ,N⟩:=hit (m+1) I' J' apO apG (W0++[.fO,.loop .ready none f e n as q]) (s0,none) Oo ⟨rfl,h0⟩ (by simp[hm]) T
  (λi d=>by rw[acj (by omega)];exact hG i d) none
 simp only at F C;have apQ: ∀i,V.dM i\/V.row s'=some i->i≠m/\i≠m+1:=by
  rintro i (d|d)
  ·have:=(p i d).1;omega
  ·obtain⟨_,_,_,_,h⟩:=O.lt s' _ i F d;refine⟨?_,?_⟩
   ·rintro rfl;rw[Ar]at h;cases h
   ·rintro rfl;rw[C]at h;cases u<;>cases h
 have ac9: ∀o,V.P s' (k.set (m+1) o)/\m+2<=(k.set (m+1) o).length/\ (k.set (m+1) o)[m]?=some .fO/\ (∀i,i<m-> ¬V.dM i-> ¬(a<=i/\i<a+G.length)->(k.set (m+1) o)[i]?=W0[i]?):=by
  intro o;refine⟨O.st _ _ _ F λi d=>by rw[qO (apQ i d).2],by rw[aeU];exact w,by rw[qO (by omega)];exact Ar,λi d hp hg'=>?_⟩;rw[qO (by omega),oZ i (by omega) (λh=>by rcases h with h|h|h;exact hp h;omega;omega) hg',acj (by omega)]
 have apS: ((AS.push ⟨W0,none⟩ .fO).push (.loop .ready none f e n as q))=(⟨W0++[.fO,.loop .ready none f e n as q],none⟩:AS):=by simp[AS.push]
 have hrc: ∀r,endLoop (m+1) ⟨e,[m]⟩ ⟨k,aj⟩=some r->bf X (D X) Lw f false (.iW g n as q) ⟨e,[]⟩ ⟨W0,none⟩=some r:=by
  intro r B;simp only[bf,aeJ,ags];rw[ac6 hg,<-hm,apS,hD];exact B
 rcases hor with⟨y,hI⟩| ⟨ex,y,hJx⟩
 ·simp only at y;subst y;simp only at C;obtain⟨q1,q2,q3,q4⟩:=ac9 (.loop .exhausted none f e n as q);refine⟨.normal,⟨e,[m]⟩,⟨k.set (m+1) (.loop .exhausted none f e n as q),aj⟩,hrc _ ?_,?_⟩
  ·unfold endLoop;simp only[C,AS.set,adC,ae4];rfl
  ·rw[hm]at q2 q3 q4⊢;exact h1 s' _ aj hI (hm ▸ q1) q2 q3 q4 (hm ▸ N)
 ·simp only at y;subst y;simp only at C;obtain⟨t,j1,j2,j3⟩:=hJ ex s' hJx;obtain⟨q1,q2,q3,q4⟩:=ac9 (.loop .exhausted (some ex.code) f e n as q);refine⟨ex,⟨e,[m]⟩,⟨k.set (m+1) (.loop .exhausted (some ex.code) f e n as q),aj⟩,hrc _ ?_,?_⟩
  ·unfold endLoop;simp only[C,j3,j2,AS.set,adC,ae4];rfl
  ·rw[hm]at q2 q3 q4⊢;exact h2 ex s' _ aj hJx (hm ▸ q1) q2 q3 q4 (hm ▸ N)
structure ky{S:Type}(V:YV S)(b:Nat)(W0:List ae)(own:Nat->Prop)(s:S)(W:List ae)(lo:oN):Prop where
 P:V.P s W
 len:b<=W.length
 fr: ∀i,i<b-> ¬V.dM i-> ¬own i->W[i]?=W0[i]?
 lo: (lo=none/\V.row s=none)\/ ∃j,V.c<=j/\j<b/\lo=some j
 row: ∀r,V.row s=some r->b<=r
def Oq{S:Type}(V:YV S)(r:V.Ok){g:ao}{n:lN}{as t:PC}{Q:bY}(xs:List lA)(a:Nat)(G W0:List ae)(k:S)
  (w:qw X (g.get e)=true) (p:uI X (g.get e) a G xs) (C: ∀i,i<G.length->W0[a+i]?=G[i]?) (q:a+G.length<=W0.length)
  (h: ∀i,V.dM i->i<W0.length/\ ¬(a<=i/\i<a+G.length)) (A:V.P k W0) (d:V.row k=none)
  (I:Nat->S->Prop) (J:Ex->S->Prop) (F:I 0 k) (B: ∀ex s,J ex s-> ∃o,qy ex=some (some o)/\xM o=some ex/\ex.code=o)
  (z: ∀j x s,xs[j]?=some x->I j s->x.length=n.length/\ ∀W,V.P s W->W0.length+2<=W.length->
    wp X f true as ⟨iZ e n x,[]⟩ ⟨W,none⟩ (λex fr m=>ex= .normal/\ ∃R1,m=⟨W++R1,none⟩/\
     ∀l,l.length=W.length->V.P s l->wp X f true t fr ⟨l++R1,none⟩ (Og V (W0.length+2) s l (I (j+1)) J)))
  (E: ∀s' c aj,I xs.length s'->V.P s' c->W0.length+2<=c.length->c[W0.length]?=some .fO->(∀i,i<W0.length-> ¬V.dM i-> ¬(a<=i/\i<a+G.length)->c[i]?=W0[i]?)->k7 V.c (W0.length+2) none aj none (V.row s')->Q .normal ⟨e,[W0.length]⟩ ⟨c,aj⟩)
  (D: ∀ex s' c aj,J ex s'->V.P s' c->W0.length+2<=c.length->c[W0.length]?=some .fO->(∀i,i<W0.length-> ¬V.dM i-> ¬(a<=i/\i<a+G.length)->c[i]?=W0[i]?)->k7 V.c (W0.length+2) none aj none (V.row s')->Q ex ⟨e,[W0.length]⟩ ⟨c,aj⟩):
  wp X f false (.iW g n as t) ⟨e,[]⟩ ⟨W0,none⟩ Q:=
 ac5 V r xs a G W0 k w (λy I J v u=>p _ _ _ I J _ (Oi r) v u) C q h A d I J F B z E D
section
variable{S:Type}{V:YV S}{b:Nat}{W0 W:List ae}{own:Nat->Prop}{s:S}{lo:oN}
def YV.Ok.HI(a:V.Ok)(d:V.P s W)(c:V.row s=some r):r<W.length:=by
 obtain⟨_,_,_,_,h⟩:=a.lt s W r d c
 grind
def ky.push(c:V.Ok)(d: ∀i,V.dM i->i<b)(h:ky V b W0 own s W lo)(L:List ae):ky V b W0 own s (W++L) lo where
 P:=c.st _ _ _ h.P λi a=>by
  have:i<W.length:=by
   rcases a with a|a
   ·have:=d i a;have:=h.len;omega
   ·exact c.HI h.P a
  grind
 len:=by have:=h.len;grind
 fr:=λi a f e=>by rw[acj (by have:=h.len;omega)];exact h.fr i a f e
 lo:=h.lo
 row:=h.row
theorem ky.set(c:V.Ok)(h:ky V b W0 own s W lo){o:ae}(g: ¬V.dM k)(f:V.row s≠some k)(ho:own k\/b<=k):ky V b W0 own s (W.set k o) lo where
 P:=c.st _ _ _ h.P λi a=>by grind
 len:=by rw[aeU];exact h.len
 fr:=λi a e d=>by
  rw[qO]
  ·exact h.fr i a e d
  grind
 lo:=h.lo
 row:=h.row
def ky.step(h:ky V b W0 own s W lo){s':S}{c:List ae}(t:V.P s' c)(g:V.Fr s W c)(p:V.row s'=V.row s\/ ∃r,V.row s'=some r/\W.length<=r)(o:k7 V.c b lo aj (V.row s) (V.row s')):ky V b W0 own s' c aj where
 P:=t
 len:=aga h.len g.1
 fr:=λi f a d=>by
  have w:=h.len;rw[g.2 i (by omega) a (λe=>by have:=h.row i e;omega)];exact h.fr i f a d
 lo:=by
  rcases o with⟨rfl,e⟩| ⟨j,n,l,rfl⟩
  ·rcases h.lo with⟨a,d⟩|q
   ·grind
   grind
  ·rcases h.lo with⟨rfl,_⟩| ⟨i,m,f,rfl⟩
   ·exact .inr ⟨j,n,l,rfl⟩
   ·obtain⟨q,e,v⟩:=ac3 (i:=i) (j:=j)
    grind
 row:=λr e=>by
  rcases p with q| ⟨u,q,k⟩
  ·exact h.row r (by grind)
  ·rw[q]at e;cases e;exact aga h.len k
def ky.fin(m:V.Ok)(p: ∀i,V.dM i->i<b)(h:ky V b W0 own s W lo){dU:oN}: ∃a aj,(finish b dU (.aA []) ⟨W,lo⟩)=(.aA [],⟨a,aj⟩)/\V.P s a/\b<=a.length/\
  (∀i,i<b-> ¬V.dM i-> ¬own i->a[i]?=W0[i]?)/\k7 V.c b dU aj none (V.row s):=by
 have e: (finish b dU (.aA []) ⟨W,lo⟩).1= .aA []:=by
  have r:freeze ⟨W,lo⟩ b 12 (.aA [])=some (.aA []):=yo (adC _);have key: ∀c:Bool,(if c=true then(match freeze ⟨W,lo⟩ b 12 (.aA [])with|some v'=>(v',(⟨W.take b,dU⟩:AS))|none=>(.aA [],⟨W,gS dU lo⟩))else(.aA [],⟨W,gS dU lo⟩)).1= .aA []:=by grind
  cases lo with
  |none=>exact key true
  |some j=>exact key (decide (b<=j))
 have o:=Oh (n:=b) (lo:=dU) (aj:=lo) (v:=.aA []) (H:=W) rfl;rcases h.lo with⟨rfl,q⟩| ⟨j,l,k,rfl⟩
 ·refine⟨W.take b,dU,Prod.ext e o,?_,?_,?_,.inl ⟨rfl,q⟩⟩
  ·refine m.st _ _ _ h.P λi d=>?_
   grind
  ·rw[af9];have:=h.len;omega
  ·intro i d g f;rw[ago d];exact h.fr i d g f
 ·refine⟨W,cO dU j,Prod.ext e ?_,h.P,h.len,h.fr,.inr ⟨j,l,k,rfl⟩⟩
  grind
end
def SV(p sz:Nat)(ty:TypeId)(W:List ae)(r:oN)(af:List lA):Prop:=
 (r=none/\af=[]/\W[p]?=some (.box [.au] none))\/ ∃id ak,r=some id/\af≠[]/\p<id/\W[p]?=some (.box [.ref id ak sz 0 af.length false] none)/\W[id]?=some (.row ak sz ty af)
def SV.st{ty:TypeId}{W f:List ae}{r:oN}(h:SV p sz ty W r af)(j:f[p]?=W[p]?)(g: ∀i,r=some i->f[i]?=W[i]?):SV p sz ty f r af:=by
 rcases h with⟨a,b,c⟩| ⟨id,ak,a,e,b,c,d⟩
 ·exact .inl ⟨a,b,by grind⟩
 ·exact .inr ⟨id,ak,a,e,b,by grind,by grind⟩
theorem SV.row{ty:TypeId}{W:List ae}{r:oN}(h:SV p sz ty W r af)(e:r=some i): ∃v z t es,W[i]?=some (.row v z t es):=by
 rcases h with⟨a,b,c⟩| ⟨id,ak,a,f,b,c,d⟩
 ·grind
 grind
def ade{H:List ae}{v0:AV}(h:H[p]?=some (.box [v0] tg))(c:v.cx=false)(a:v.cells=[v])(d:p+1<v.refs):kp ⟨H,lo⟩ 1 (.ptr p 0) v=some ⟨H.set p (.box [v] tg),cO lo p⟩:=by
 unfold kp;simp only[h,a];rw[ac6 ⟨c,rfl,adA _⟩];simp only[AS.set];rw[ac0 (by omega)];rfl
def SV.append{bytes:Nat}{ty:TypeId}{W:List ae}{r:oN}{el:lA}(h:SV p sz ty W r af)(l:p<W.length)(t:0<sz)(w:el.length=sz)(u:aL el=0)(n: (af.length+1)*bytes<=room)(lo:oN):
  ∃v v' o a f,W[p]?=some (.box [v] none)/\dO ⟨W,lo⟩ ty sz bytes v [el]=some (v',⟨o,lo⟩)/\kp ⟨o,lo⟩ 1 (.ptr p 0) v'=some ⟨a,cO lo p⟩/\SV p sz ty a f (af++[el])/\
   W.length<=a.length/\ (∀i,i<W.length->i≠p->r≠some i->a[i]?=W[i]?)/\ (f=r\/ ∃q,f=some q/\W.length<=q):=by
 have m:0<sz/\ [el].all (λx=>x.length==sz)=true:=⟨t,by grind⟩;rcases h with⟨rfl,rfl,c⟩| ⟨id,ak,rfl,_,g,c,d⟩
 ·have e1:dO ⟨W,lo⟩ ty sz bytes .au [el]=some (.ref W.length 0 sz 0 1 false,⟨W++[.row 0 sz ty [el]],lo⟩):=by
    unfold dO;rw[ac6 m];simp only[aeV,anu,aka,Nat.one_ne_zero,ags];rw[ac6 (by simpa using n)];rfl
  have k: (W++[ae.row 0 sz ty [el]])[p]?=some (.box [.au] none):=by rw[acj l];exact c
  refine⟨.au,_,_,(W++[ae.row 0 sz ty [el]]).set p (.box [.ref W.length 0 sz 0 1 false] none),some W.length,c,e1,?_,.inr ⟨W.length,0,rfl,by simp,l,?_,?_⟩,?_,?_,.inr ⟨_,rfl,adA _⟩⟩
  ·exact ade k rfl rfl (by simp only[AV.refs];omega)
  ·exact aeI (by rw[aeG];omega)
  ·rw[ach (by omega)];simp
  ·simp
  grind
 ·have j:=(ack.1 d).1;have e1:dO ⟨W,lo⟩ ty sz bytes (.ref id ak sz 0 af.length false) [el]=some (.ref id (ak+1) sz 0 (af.length+1) false,⟨W.set id (.row (ak+1) sz ty (af++[el])),lo⟩):=by
   unfold dO;rw[ac6 m];simp only[d];rw[ac6 ⟨trivial,trivial,trivial,trivial,by omega,by simpa using n⟩];simp[AS.set,b9,u]
  have k: (W.set id (ae.row (ak+1) sz ty (af++[el])))[p]?=some (.box [.ref id ak sz 0 af.length false] none):=by rw[ach (by omega)];exact c
  refine⟨_,_,_,(W.set id (.row (ak+1) sz ty (af++[el]))).set p (.box [.ref id (ak+1) sz 0 (af.length+1) false] none),some id,c,e1,?_,.inr ⟨id,ak+1,rfl,by simp,g,?_,?_⟩,?_,?_,.inl rfl⟩
  ·exact ade k rfl rfl (by simp only[AV.refs];omega)
  ·rw[aeI (by rw[aeU];omega)];simp
  ·rw[ach (by omega),aeI j]
  ·simp
  ·intro i A z y;rw[ach (λe=>z e.symm),ach (λe=>y (by rw[e]))]
end
section
variable{X:Ctx}{f:FuncId}{rd:Bool}{E:AS}{Q:bY}{e:Env}{ms:lN}{bO:List FP}{js:lN}{os:List (aQ×lN)}{i:I}{d:oN}{dd t:Nat}{v:AV}
def AL(bO:List FP)(o:aQ)(js:lN)(os:List (aQ×lN))(e:Env)(ms:lN)(Q:bY):AV->AS->Prop:=λv E=>Cv bO (o,js) os=true/\Q (.panic v) ⟨e,ms⟩ E
def gD(X:Ctx)(t:Nat)(b:Bool)(d:oN)(i:I)(js:lN)(os:List (aQ×lN))(bO:List FP)(e:Env)(ms:lN)(E:AS)(Q:bY)(c:AV):Prop:=match c with
 |.bool x=>if x=b then aO X i e E (kD X i E bO js os d e ms Q) (AL bO ⟨some (t,b),d,i⟩ js os e ms Q)else ie X (bO++[.no]) os (Fr.put ⟨e,ms⟩ d .undef) E Q
 |_=>ie X (bO++[.no]) os (Fr.put ⟨e,ms⟩ d .undef) E Q
def adf{b:Bool}:ie X bO ((⟨some (t,b),d,i⟩,js)::os) ⟨e,ms⟩ E Q=gD X t b d i js os bO e ms E Q (e t):=by
 unfold gD;split
 ·rename_i x a;by_cases h:x=b
  ·subst h;apply propext;simp only[ie,aO,gV,gH,a,beq_self_eq_true,ae4];cases a:exec X (D X) i e E with
   |none=>simp[qI]
   |some o=>
    cases o with
    |ok v E'=>
     simp only[qI,NN];by_cases c:qK bO (aW i e E E') js=true
     ·rw[ac6 c];exact⟨λh=>⟨c,h⟩,λh=>h.2⟩
     ·simp[kD,c]
    |panic v E'=>
     simp only[qI,AL]
     grind
  ·rw[ac0 h];have: (x==b)=false:=by grind
   simp only[ie,gV,gH,a,this,aeJ,ags]
 ·have:gH e (some (t,b))=false:=by
    unfold gH;simp only
  simp only[ie,gV,this,aeJ,ags]
def adg:ie X bO ((gt t d i,js)::os) ⟨e,ms⟩ E Q=gD X t true d i js os bO e ms E Q (e t):=adf
def adh:ie X bO ((gf t d i,js)::os) ⟨e,ms⟩ E Q=gD X t false d i js os bO e ms E Q (e t):=adf
theorem adi:gD X t true (some dd) i js os bO e ms E Q (.bool true)=aO X i e E (kD X i E bO js os (some dd) e ms Q) (AL bO ⟨some (t,true),(some dd),i⟩ js os e ms Q):=rfl
theorem adj:gD X t true none i js os bO e ms E Q (.bool true)=aO X i e E (kD X i E bO js os none e ms Q) (AL bO ⟨some (t,true),none,i⟩ js os e ms Q):=rfl
theorem adk:gD X t false (some dd) i js os bO e ms E Q (.bool false)=aO X i e E (kD X i E bO js os (some dd) e ms Q) (AL bO ⟨some (t,false),(some dd),i⟩ js os e ms Q):=rfl
theorem adl:gD X t false none i js os bO e ms E Q (.bool false)=aO X i e E (kD X i E bO js os none e ms Q) (AL bO ⟨some (t,false),none,i⟩ js os e ms Q):=rfl
theorem adm:gD X t true (some dd) i js os bO e ms E Q (.bool false)=ie X (bO++[.no]) os ⟨e.set dd .undef,ms⟩ E Q:=rfl
theorem adn:gD X t true none i js os bO e ms E Q (.bool false)=ie X (bO++[.no]) os ⟨e,ms⟩ E Q:=rfl
theorem ado:gD X t false (some dd) i js os bO e ms E Q (.bool true)=ie X (bO++[.no]) os ⟨e.set dd .undef,ms⟩ E Q:=rfl
theorem adp:gD X t false none i js os bO e ms E Q (.bool true)=ie X (bO++[.no]) os ⟨e,ms⟩ E Q:=rfl
theorem adq{b:Bool}{c:lA}:gD X t b (some dd) i js os bO e ms E Q (.aA c)=ie X (bO++[.no]) os ⟨e.set dd .undef,ms⟩ E Q:=rfl
theorem adr{b:Bool}{c:lA}:gD X t b none i js os bO e ms E Q (.aA c)=ie X (bO++[.no]) os ⟨e,ms⟩ E Q:=rfl
def G1:=gG @adg<|gG @adh<|gG @adi<|gG @adj<|gG @adk<|gG @adl<|gG @adm<|gG @adn<|gG @ado<|gG @adp<|gG @adq @adr
end
def Fz(E:AS)(N d:Nat)(v v':AV):Prop:= ∀k,freeze E N (k+d) v=some v'
def iI(E:AS)(N d:Nat)(cs sh:lA):Prop:= ∀k,iY E N (k+d) cs=some sh
section
variable{E:AS}{N d:Nat}{a a' v v':AV}{cs sh:lA}
def Fz.low(h:v.refs<=N):Fz E N (d+1) v v:=λk=>yo h
def iI.nil:iI E N d [] []:=λk=>by cases h:k+d<;>rw[iY]
def iI.cons(h:Fz E N d a a')(b:iI E N (d+1) cs sh):iI E N (d+1) (a::cs) (a'::sh):=λk=>by
 have e1:=h k;have c:=b k;rw[<-amW]at c⊢;rw[iY,e1]
 grind
def iI.eq(h:iI E N d cs sh)(b:aL cs<=N):sh=cs:=by
 have e1:=h 2;rw[Nat.add_comm 2 d,N7 cs b]at e1
 grind
theorem Fz.agg(h:iI E N d cs sh):Fz E N (d+1) (.agg cs) (.agg sh):=λk=>by
 have e1:=h k;rw[<-amW,freeze];split
 ·rename_i b;rw[h.eq b]
 grind
theorem Fz.aA(h:iI E N d cs sh):Fz E N (d+1) (.aA cs) (.aA sh):=λk=>by
 have e1:=h k;rw[<-amW,freeze];split
 ·rename_i b;rw[h.eq b]
 grind
def Fz.own{H:List ae}{ty:TypeId}(h:aP N H v sz ty af)(b:b9 af<=N):Fz ⟨H,lo⟩ N (d+4) v (bG v af):=λk=>by
 exact h.freeze b
def Fz.mono(h:Fz E N d v v')(b:d<=m):Fz E N m v v':=λk=>by
 have:=h (k+(m-d))
 grind
def uK{H:List ae}(b:aj=none\/ ∃j,N<=j/\aj=some j)(h:Fz ⟨H,aj⟩ N 12 v v'):finish N lo v ⟨H,aj⟩=(v',⟨H.take N,lo⟩):=by
 refine Hg ?_ (by simpa using h 0)
 grind
def SV.own{ty:TypeId}{W:List ae}{r:oN}(h:SV p sz ty W r af)(f:N<=p)(b: ∀el∈af,el.length=sz): ∃v,W[p]?=some (.box [v] none)/\aP N W v sz ty af/\v.cx=false/\v.cells=[v]/\ (v= .au\/p+1<v.refs):=by
 rcases h with⟨_,rfl,c⟩| ⟨id,ak,_,_,q,c,e⟩
 ·exact⟨.au,c,aP.au,rfl,rfl,.inl rfl⟩
 ·exact⟨_,c,⟨b,.inr ⟨id,ak,by omega,rfl,e⟩⟩,rfl,rfl,.inr (by simp only[AV.refs];omega)⟩
end
def eB(N:Nat)(lo:oN):Prop:=lo=none\/ ∃j,N<=j/\lo=some j
def eB.min{N:Nat}(h:eB N lo)(b:N<=p)(c:aj=lo\/aj=cO lo p):eB N aj:=by
 rcases c with rfl|rfl
 ·exact h
 ·rcases h with rfl| ⟨j,g,rfl⟩
  ·exact .inr ⟨p,b,rfl⟩
  ·obtain⟨q,e,f⟩:=ac3 (i:=j) (j:=p);exact .inr ⟨q,by omega,e⟩
section
variable{P:Program}{X:Ctx}{B:Nat}{ax:World}
noncomputable def AM(X:Ctx)(dU:oN)(pf:PF):jM->Option aU
 |some (.normal,fr,E)=>(dV E fr.marks).bind λa=>(gg X a fr.env pf.results).map λv=>.ret v {heap:=a.heap,lo:=gS dU a.lo}
 |some (.ret,fr,E)=>(dV E fr.marks).bind λa=>(gg X a fr.env pf.results).map λv=>.ret v {heap:=a.heap,lo:=gS dU a.lo}
 |_=>none
noncomputable def oi(X:Ctx)(C:bJ)(L:eJ)(f:FuncId)(pf:PF)(args:lA)(E:AS):Option aU:=
 if args.length<=pf.ntmps then AM X E.lo pf (bf X C L f false pf.body {env:=dv args,marks:=[]} {heap:=E.heap,lo:=none})else none
def apT{cy:AS}{G:Gh}{E:AS}(c:gI.le G)(d:aX P B ax G E w)(b:AS.Ext {heap:=cy.heap,lo:=none} E){v:AV}{v':Value}(f:an G v v'):
  ∃a,gI.le a/\aX P B ax a {heap:=E.heap,lo:=gS cy.lo E.lo} w/\an a v v'/\cy.Ext {heap:=E.heap,lo:=gS cy.lo E.lo}:=by
 refine⟨G,c,d.lo _,f,b.len,λj h=>?_,λj o h=>?_⟩
 ·cases E.lo with
  |none=>exact h
  |some l=>exact Ae (.inl h)
 ·obtain⟨o',k,i⟩:=b.obj j o h;refine⟨o',k,i.imp id λ ⟨l,e,g⟩=>?_⟩;simp only[gS,e];exact Ae (.inr g)
section
variable{C:bJ}(hC:fR P B ax C)(hg:fP X B ax)(hX:oU P X)(ic:Am P X B ax){L:eJ}(hL:x6 L)
include hC hg hX ic hL
theorem apU(U:lY P f pf):gX P B ax f (oi X C L f pf):=by
 intro args E t h G w b hw T;unfold oi at h;split at h
 ·rename_i V;obtain⟨rows,fn,o,n⟩:=U;obtain⟨c,y,l,m,S,q⟩:=GB n;have k: (callFunc f b).run P w= .ok (.enter f b) w:=by
   have s: ¬fn.name= "runtime.NumGoroutine" :=by grind
   simp[callFunc,arH,o,s,y]
  rw[k];show CallsIn (W none) 0 P f b w (Ends P B ax G E t);cases g:bf X C L f false pf.body {env:=dv args,marks:=[]} {heap:=E.heap,lo:=none}with
  |none=>rw[g]at h;simp[AM]at h
  |some res=>
   rw[g]at h;have he:cP G fn.ntmps (dv args) (b++Array.replicate (fn.ntmps-b.size) undef):=GF T (by omega);refine aAI o y trivial (wa hC hg hX ic hL (r:=none) rfl c pf.body l G {heap:=E.heap,lo:=none} w {env:=dv args,marks:=[]} _ res _ (hw.lo none) he rfl g (λe a w' R=>?_)) rfl;obtain⟨Y,J,I,H,F,D,u⟩:=R;obtain⟨ex,fr,E'⟩:=res;have j: ((dV E' fr.marks).bind λd=>(gg X d fr.env pf.results).map λv=>aU.ret v {heap:=d.heap,lo:=gS E.lo d.lo})=some t->LeavesInM (W none) 0 P fn a.tmps (Ends P B ax G E t) a.defers .returning w':=by
    intro h;rw[an1]at h;obtain⟨d,x,h⟩:=h;rw[aeL]at h;obtain⟨v,Q,rfl⟩:=h;refine x8 (by simp) fr.marks a.defers E' d w' F I x (λz i=>?_);obtain⟨v',e1,A⟩:=CN hg i H m Q;refine⟨v',e1,?_⟩;obtain⟨p,O,N,M,K⟩:=apT J i (D.trans (x7 _ _ _ x)) A;exact⟨p,O,N,M,K⟩
   cases ex with
   |normal=>cases e<;>simp[gw]at u;exact j h
   |ret=>cases e<;>simp[gw]at u;exact j h
   |exit id=>simp[AM]at h
   |panic v=>simp[AM]at h
 grind
end
def wu(hg:fP X B ax)(hX:oU P X)(b: ∀f p,X.cg f=some p->gX P B ax f p)(a:lY P f pf):gX P B ax f (oi X (D X) Lw f pf):=
 apU (Nn hg hX b) hg hX (M6 hg) acm a
def AN(X:Ctx)(lo:oN)(b:List RV)(R:aU->Prop):bY
 |.normal,fr,E=> ∃a v,dV E fr.marks=some a/\gg X a fr.env b=some v/\R (.ret v {heap:=a.heap,lo:=gS lo a.lo})
 |.ret,fr,E=> ∃a v,dV E fr.marks=some a/\gg X a fr.env b=some v/\R (.ret v {heap:=a.heap,lo:=gS lo a.lo})
 |_,_,_=>False
def wv(pf:PF){args:lA}{H:List ae}{R:aU->Prop}(j:Nat.ble args.length pf.ntmps=true)
  (h: ∀n,H.length=n->wp X f false pf.body ⟨dv args,[]⟩ ⟨H,none⟩ (AN X lo pf.results R)): ∃g,oi X (D X) Lw f pf args ⟨H,lo⟩=some g/\R g:=by
 obtain⟨ex,fr,E,i,e⟩:=h _ rfl;unfold oi;rw[ac6 (ao6 j),i];cases ex with
 |normal=>
  obtain⟨a,v,d,c,b⟩:=e;exact⟨_,by simp only[AM,d,apb,c,aeM],b⟩
 |ret=>
  obtain⟨a,v,d,c,b⟩:=e;exact⟨_,by simp only[AM,d,apb,c,aeM],b⟩
 |exit _=>trivial
 |panic _=>trivial
def si{R:aU->Prop}{E:AS}:AN X lo [.t a] R .ret ⟨e,[]⟩ E=R (.ret (e a) {heap:=E.heap,lo:=gS lo E.lo}):=by
 simp only[AN,yp,WN]
 grind
end
def iJ(W:List ae)(N:Nat):Nat->List ae->Prop
 |_,[]=>True
 |k,b::bs=>W[N+k]?=some b/\iJ W N (k+1) bs
theorem gi{W:List ae}{N:Nat}:iJ W N k []=True:=rfl
theorem gj{W:List ae}{N:Nat}{b:ae}{bs:List ae}:iJ W N k (b::bs)=(W[N+k]?=some b/\iJ W N (k+1) bs):=rfl
theorem ads{W:List ae}{N:Nat}: ∀ {k:Nat} {bs:List ae},iJ W N k bs-> ∀i,i<bs.length->W[N+k+i]?=bs[i]?
 |_,[],_,i,h=>by grind
 |k,b::bs,⟨c,a⟩,i,h=>by
  cases i with
  |zero=>grind
  |succ i=>
   have:=ads a i (by grind)
   grind
theorem Ot{W:List ae}{N:Nat}: ∀ {k:Nat} {bs:List ae},(∀i,i<bs.length->W[N+k+i]?=bs[i]?)->iJ W N k bs
 |_,[],_=>trivial
 |k,b::bs,h=>by
  refine⟨by have:=h 0 (by simp);grind,Ot λi a=>?_⟩;have:=h (i+1) (by grind)
  grind
def iK(N:Nat)(H W:List ae):Prop:= ∀i,i<N->W[i]?=H[i]?
theorem iK.take{N:Nat}{H W:List ae}(h:iK N H W)(b:H.length=N):W.take N=H:=by
 apply an2;intro i;by_cases a:i<N
 ·rw[ago a];exact h i a
 grind
theorem iK.set{N:Nat}{H W:List ae}{o:ae}(h:iK N H W)(b:N<=p):iK N H (W.set p o):=λi a=>by
 rw[ach (by omega)];exact h i a
def iK.app{N:Nat}{H L:List ae}(b:H.length=N):iK N H (H++L):=λi a=>acj (by omega)
def bV{S:Type}(N nB c:Nat)(H:List ae)(B:S->List ae):YV S:=⟨λs W=>iK N H W/\iJ W N 0 (B s),λ_=>none,λi=>i<N+nB,c⟩
def adt{S:Type}{N c:Nat}{H:List ae}{B:S->List ae}(g: ∀s,(B s).length=nB): (bV N nB c H B).Ok where
 st:=λs W j ⟨f,e⟩ h=>by
  refine⟨λi a=>?_,Ot λi a=>?_⟩
  ·have:i<N+nB:=by omega
   rw[h i (.inl this)];exact f i a
  ·have d:N+0+i<N+nB:=by grind
   rw[h _ (.inl d)];exact ads e i a
 lt:=λs W r _ b=>by cases b
def AO{S:Type}(N nB:Nat)(B:S->List ae)(W:List ae)(I:S->Prop)(J:Ex->S->Prop):bY:=λex _ E=>
 E.lo=none/\ ∃s',iJ E.heap N 0 (B s')/\W.length<=E.heap.length/\ (∀i,i<W.length-> ¬(N<=i/\i<N+nB)->E.heap[i]?=W[i]?)/\ (match ex with|.normal=>I s'|.panic _=>False|ex=>J ex s')
section
variable{S:Type}{N nB:Nat}{B:S->List ae}{W H:List ae}{I:S->Prop}{J:Ex->S->Prop}{fr:Fr}{i:Nat}
def o5:AO N nB B W I J .normal fr ⟨H,none⟩= ∃s',iJ H N 0 (B s')/\W.length<=H.length/\ (∀i,i<W.length-> ¬(N<=i/\i<N+nB)->H[i]?=W[i]?)/\I s':=by simp[AO]
def adu:AO N nB B W I J .ret fr ⟨H,none⟩= ∃s',iJ H N 0 (B s')/\W.length<=H.length/\ (∀i,i<W.length-> ¬(N<=i/\i<N+nB)->H[i]?=W[i]?)/\J .ret s':=by simp[AO]
end
def apV{X:Ctx}{S:Type}{g:ao}{u:lN}{as P:PC}{Q:bY}(K:Env->Prop)(F:K e)(xs:List lA){N:Nat}{H c:List ae}(E:H.length=N)(G:List ae)(B:S->List ae)(O: ∀s,(B s).length=nB)
  (v:S) (I:Nat->S->Prop) (J:Ex->S->Prop) (hg:qw X (g.get e)=true) (y:ac2 X (yV (bV N nB (c.length+2) H B) c.length f e u as P) (c.length+2) (g.get e) (N+nB) G xs) (l:c=H++(B v++G)) (h0:I 0 v) (hJ: ∀ex s,J ex s-> ∃w,qy ex=some (some w)/\xM w=some ex/\ex.code=w)
  (hb: ∀e,K e-> ∀j x s,xs[j]?=some x->I j s->x.length=u.length/\ ∀W n,W.length=n->N+nB+G.length+2<=n->iJ W N 0 (B s)->
    wp X f true as ⟨iZ e u x,[]⟩ ⟨W,none⟩ (λex fr q=>ex= .normal/\ ∃R1,q=⟨W++R1,none⟩/\
     ∀o,o.length=n->iJ o N 0 (B s)->wp X f true P fr ⟨o++R1,none⟩ (AO N nB B o (I (j+1)) J)))
  (h1: ∀e,K e-> ∀s' a p,N+nB<=p->I xs.length s'->iK N H a->iJ a N 0 (B s')->a[p]?=some .fO->Q .normal ⟨e,[p]⟩ ⟨a,none⟩)
  (h2: ∀e,K e-> ∀ex s' a p,N+nB<=p->J ex s'->iK N H a->iJ a N 0 (B s')->a[p]?=some .fO->Q ex ⟨e,[p]⟩ ⟨a,none⟩):
  wp X f false (.iW g u as P) ⟨e,[]⟩ ⟨c,none⟩ Q:=by
 have yq:c.length=N+nB+G.length:=by grind
 have r: ∀ {aj} {b:Nat},b=c.length+2->k7 (c.length+2) b none aj none none->aj=none:=by
  rintro aj b rfl (⟨h,_⟩| ⟨j,T,R,_⟩)
  ·exact h
  ·omega
 refine ac5 (bV N nB (c.length+2) H B) (adt O) xs (N+nB) G c v hg y (λi d=>?_) (by omega) (λi d=>?_) ⟨?_,?_⟩ rfl I J h0 hJ ?_ ?_ ?_
 ·rw[l,<-ac8,aeY (by simp only[aeG,E,O];omega)]
  congr 1;simp only[aeG,E,O];omega
 ·have:i<N+nB:=d;exact⟨by omega,by omega⟩
 ·rw[l];exact iK.app E
 ·refine Ot λi d=>?_
  rw[l,aeY (by omega),show N+0+i-H.length=i by omega,acj d]
 ·intro j x s Z M;obtain⟨T,R⟩:=hb e F j x s Z M;refine⟨T,λW m U=>?_⟩;refine wp_mono (R W _ rfl (by omega) m.2) ?_;rintro ex fr q ⟨rfl,R1,rfl,C⟩;refine⟨rfl,R1,rfl,λo D t=>?_⟩;refine wp_mono (C o D t.2) ?_;rintro HG fr2 ⟨H2,Y⟩ ⟨rfl,s',c1,c2,V,c4⟩;refine⟨s',⟨λi d=>?_,c1⟩,⟨c2,λi d hp _=>?_⟩,.inl ⟨rfl,rfl⟩,c4⟩
  ·rw[V i (by omega) (by omega)];exact t.1 i d
  ·have nZ: ¬i<N+nB:=hp;exact V i d (by omega)
 ·intro s' a aj M m hl A z k;obtain rfl:=r rfl k;exact h1 e F s' a _ (by omega) M m.1 m.2 A
 ·intro ex s' a aj L m hl A z k;obtain rfl:=r rfl k;exact h2 e F ex s' a _ (by omega) L m.1 m.2 A
def wx{X:Ctx}{S:Type}{g:ao}{h:lN}{as q:PC}{Q:bY}(K:Env->Prop)(A:K e)(xs:List lA){N:Nat}{H r:List ae}(z:H.length=N)(G:List ae)(B:S->List ae)(o: ∀s,(B s).length=nB)
  (d:S) (I:Nat->S->Prop) (J:Ex->S->Prop) (v:qw X (g.get e)=true) (l:uI X (g.get e) (N+nB) G xs) (m:r=H++(B d++G)) (F:I 0 d) (C: ∀ex s,J ex s-> ∃k,qy ex=some (some k)/\xM k=some ex/\ex.code=k)
  (w: ∀e,K e-> ∀j x s,xs[j]?=some x->I j s->x.length=h.length/\ ∀W n,W.length=n->N+nB+G.length+2<=n->iJ W N 0 (B s)->
    wp X f true as ⟨iZ e h x,[]⟩ ⟨W,none⟩ (λex fr c=>ex= .normal/\ ∃R1,c=⟨W++R1,none⟩/\
     ∀b,b.length=n->iJ b N 0 (B s)->wp X f true q fr ⟨b++R1,none⟩ (AO N nB B b (I (j+1)) J)))
  (E: ∀e,K e-> ∀s' a p,N+nB<=p->I xs.length s'->iK N H a->iJ a N 0 (B s')->a[p]?=some .fO->Q .normal ⟨e,[p]⟩ ⟨a,none⟩)
  (D: ∀e,K e-> ∀ex s' a p,N+nB<=p->J ex s'->iK N H a->iJ a N 0 (B s')->a[p]?=some .fO->Q ex ⟨e,[p]⟩ ⟨a,none⟩):
  wp X f false (.iW g h as q) ⟨e,[]⟩ ⟨r,none⟩ Q:=
 apV K A xs z G B o d I J v (λy I J u t=>l _ _ _ I J _ (Oi (adt o)) u t) m F C w E D
section
variable{H:Type}{enc:TypeId×Value->H}{P:Program}{w:World}{sp:Nat->Bool}{held:Bool}
def AP(P:Program):Nat->TypeId->Bool
 |0,_=>false
 |f+1,t=>match P.underlying t with
  |some .bool=>true
  |some (.int _)=>true
  |some .string=>true
  |some (.slice e)=>Az P false f e
  |some (.struct fs)=>Ay P (AP P f) fs.toList 0 (P.cellsOf t)
  |some (.array n e)=>AP P f e&&P.cellsOf t==n*P.cellsOf e
  |_=>false
theorem Ou: ∀ (f:Nat) (t:TypeId) (n:Nat) (cs:List Value) (d:DataW H) (ps:List MemPlace),AP P f t=true->(∀v∈cs,G8 v)->
  DataW.trod enc P w 0 sp held n t cs=some (d,ps)-> ∃xs,iH P f t d xs/\aG (Gh.start w) xs cs/\Leaves cs/\xs.length=cs.length
 |0,_,_,_,_,_,r,_,_=>by simp[AP]at r
 |f+1,t,n,cs,d,ps,r,B,h=>by
  unfold AP at r;unfold iH;cases u:P.underlying t with
  |none=>rw[u]at r;cases r
  |some td=>
   rw[u]at r;cases td with
   |bool=>
    obtain⟨b,rfl,l⟩:=DataW.trod_bool u h;cases l;exact⟨[.bool b],⟨b,rfl,rfl⟩,aG.single.2 rfl,λv g=>by simp at g;subst g;rfl,rfl⟩
   |int k=>
    obtain⟨b,rfl,l,O⟩:=DataW.trod_int u h;cases l;exact⟨[.int k b],⟨b,rfl,rfl,O⟩,aG.single.2 rfl,λv g=>by simp at g;subst g;rfl,rfl⟩
   |string=>
    obtain⟨s,rfl,l,E⟩:=DataW.trod_string u h;cases l;exact⟨[.str s],⟨s,rfl,rfl,E⟩,aG.single.2 rfl,λv g=>by simp at g;subst g;rfl,rfl⟩
   |slice e=>
    rcases DataW.trod_slice u h with⟨rfl,l⟩| ⟨a,len,cap,es,rest,m,rfl,rfl,l,_,hlc,Vr,T,S,_,_⟩
    ·cases l;exact⟨[.au],.inl ⟨rfl,rfl⟩,aG.single.2 rfl,λv g=>by simp at g;subst g;rfl,rfl⟩
    ·cases l;have E:a.spot=none:=B _ (List.mem_singleton_self _);obtain⟨af,vs,M,L,K,J,Y,h6⟩:=Wl (R:=iH P f e) E (λc G p C q=>G9 (nest:=false) (λe=>by cases e) f e m c G p r (λe=>by cases e) q) len (by omega) S;refine⟨[.sl af false],.inr ⟨es.map (·.1),rest.map (·.1),af,rfl,rfl,by simp[T,M],by omega,λi x b l V=>?_⟩,aG.single.2 ?_,λv g=>by simp at g;subst g;rfl,rfl⟩
     ·rw[agp,aeL]at l;obtain⟨y,N,rfl⟩:=l;exact L i y b N V
     ·refine⟨a.block,a.off,cap,P.cellsOf e,vs,?_,by omega,(λC=>absurd C (by decide)),λel F=>?_,h6,J,bF.iff.2 K⟩
      ·rw[M];obtain⟨b,o,s⟩:=a;simp at E;subst E;rfl
      ·obtain⟨j,W⟩:=avW.1 F;have hjl:=(ack.1 W).1;exact(L j es[j] el (ac7 (by omega)) W).1
   |struct fs=>
    obtain⟨ys,m,rfl,l,I,A,z⟩:=DataW.trod_struct u h;cases l;obtain⟨xs,x1,x2,x3,Z⟩:=Np (R:=iH P f) (cs:=cs) (λt' c G p hg C q=>Ou f t' m c G p hg (λv g=>B v (C v g)) q) _ I fs.toList ys 0 r (by simpa using A) (λi fl hi=>z i fl (by simpa using hi));exact⟨xs,⟨_,rfl,x1⟩,by simpa using x2,by simpa using x3,by simpa using Z⟩
   |array k e=>
    simp only[aeW,awJ]at r;obtain⟨Q,C⟩:=r;obtain⟨ys,m,rfl,l,I,A,z⟩:=DataW.trod_array u h;cases l;obtain⟨af,M,L,K,J,Y⟩:=Wm (R:=iH P f e) (cs:=cs) (λc G p U q=>Ou f e m c G p Q (λv g=>B v (U v g)) q) k (by rw[I,C];exact adA _) (by omega) z;have D:k*P.cellsOf e=cs.length:=by rw[I,C]
    rw[D,aeQ]at K J;exact⟨af.flatten,⟨_,af,rfl,rfl,by simpa using A,M,λi a b X V=>by
     rw[agp,aeL]at X;obtain⟨y,N,rfl⟩:=X;exact L i y b N V⟩,K,J,by rw[Y,D]⟩
   |_=>cases r
def apW{b:Nat}{u:TypeId}{v:Value}(h:Cell.okWide P w .any b u v):G8 v:=by
 cases v with
 |slice a len cap=>
  cases a with
  |none=>trivial
  |some a=>
   unfold Cell.okWide at h;cases hu:P.underlying u with
   |none=>simp[hu,Cell.ok]at h
   |some td=>cases td<;>simp[hu,Cell.ok]at h<;>exact h.2.2.2.1
 |_=>trivial
def apX{t:TypeId}{f:Nat}{v:Value}{d:DataW H}{g:List MemPlace}{b:Nat}{fs:Array Field}(k:P.underlying t=some (.struct fs))(l:AP P f t=true)(a:Value.okWide P w .any b t v)
  (h:DataW.Trod enc P w 0 sp held t v d g): ∃xs,an (Gh.start w) (.agg xs) v/\iH P f t d xs/\xs.length=P.cellsOf t:=by
 unfold Value.okWide at a;rw[k]at a;obtain⟨cs,rfl,e,ts,_,_,c⟩:=a;obtain⟨n,h⟩:=h;obtain⟨xs,r,q,p,o⟩:=Ou f t n cs.toList d g l (λv j=>by
  obtain⟨i,m⟩:=avW.1 j;obtain⟨u,_,hu⟩:=c i v (by simpa using m);exact apW hu) h
 exact⟨xs,⟨cs,rfl,q,p⟩,r,by rw[o];simpa using e⟩
end
end Go.Den
