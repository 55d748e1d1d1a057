/- An evaluator, sound; no condition. -/
import Derived.Test.YteplichagkpciaaGreatDoorD1
import Derived.Orders
import Derived.Carry
import Derived.ChangeArms
import Derived.OpenShut
import Derived.RecoverIn
import Derived.LaidHandle
import Derived.LaidMore
import Derived.WideShapes
set_option linter.all false
set_option maxRecDepth 10000
set_option maxHeartbeats 1000000
namespace Go.Den
open Go Go.RowKit
abbrev lA:=List AV
variable{l t a i j m n k sz r ai a' p nB:Nat}{v:AV}{d lo aj:oN}{e:Env}{w:World}{b:PC}{z vs:lA}{tg:Option TypeId}{fP:Gh}{f:FuncId}{x y:ao}{c ag:Bool}{pf:PF}{k':IntKind}{af:List lA}
def aen:=@List.length_set
def aeu:=@Array.getD_eq_getD_getElem?
def aew:=@List.mem_cons_of_mem
def aez:=@List.getElem?_take_of_lt
def aeA:=@List.getElem?_map
def aeC:=@List.append_nil
def aha:=@Bool.true_and
def ahL:=@Option.getD_some
def akq:=@and_true
def alN:=@List.length_drop
def alO:=@Classical.byContradiction
def alP:=@List.mem_zipIdx_iff_getElem?
def alQ:=@List.length_nil
def al3:=@Option.bind_eq_some_iff
def al5:=@List.pairwise_append
def ame:=@List.mem_range
def amw:=@Nat.mod_lt
def amz:=@Nat.not_lt_zero
def amB:=@List.pairwise_cons
def anV:=@Nat.le_of_ble_eq_true
def anY:=@List.prefix_append
def an7:=@List.range_succ
def an8:=@List.getElem?_range
def aof:=@Prod.mk.injEq
def aol:=@Array.getElem?_toList
def aom:=@Array.all_eq_true_iff_forall_mem
def aos:=@List.getElem?_cons_zero
def aqc:=@List.set_append_left
def aqd:=@List.mem_of_find?_eq_some
def aqg:=@beq_self_eq_true
def aq9:=@Bool.true_or
def ars:=@Bool.false_or
def art:=@List.mem_iff_getElem?
def aru:=@List.contains_iff_mem
def asD:=@Nat.lt_succ_self
def as1:=@List.getElem_mem
def atj:=@List.getElem?_of_mem
def avC:=@List.find?_eq_none
def avF:=@List.append_of_mem
def avO:=@List.getElem?_cons_succ
def avQ:=@Bool.and_true
def avR:=@Option.getD_none
def axg:=@true_and
def axi:=@List.getElem?_zipIdx
def axA:=@Nat.lt_trichotomy
def ax2:=@List.pairwise_map
def ayr:=@Int.toNat_natCast
def ayS:=@List.isEmpty_iff
def gG{a b:Prop}(x:a)(y:b):a/\b:=⟨x,y⟩
section
variable{X:Ctx}
def jm(X:Ctx)(C:bw)(xs:Nat->aP)(F:Nat->FP):lN->Fr->AS->Fr->AS->Prop
 | [],fr,E,b,c=>b=fr/\c=E
 |i::l,fr,E,b,c=>
  (fO fr.env (xs i).g=true/\ ∃v a,exec X C (xs i).i fr.env E=some (.ok v a)/\aX (xs i).i fr.env E a=F i/\jm X C xs F l (fr.put (xs i).dst v) a b c)\/
  (fO fr.env (xs i).g=false/\F i= .no/\jm X C xs F l (fr.put (xs i).dst .undef) E b c)
def amP{l m:lN}:B9 l m=true↔ ∀x∈l,x∉m:=by
 simp[B9,aes]
def Cu{a:Fr}{dst:oN}(h:t∉dst.toList): (a.put dst v).env t=a.env t:=by
 cases dst with
 |none=>rfl
 |some d=>
  simp only[Fr.put,Env.set]
  grind
def amQ{f:Fr}{c:oN}{w:AV}(h: ∀x∈d.toList,x∉c.toList): (f.put d v).put c w=(f.put c w).put d v:=by
 cases d with
 |none=>rfl
 |some a=>
  cases c with
  |none=>rfl
  |some b=>
   have g:a≠b:=λe=>h a (by simp) (by grind)
   simp only[Fr.put]
   congr 1
   funext t
   simp only[Env.set]
   grind
def Vo{g:Option (Nat×Bool)}{a:Env}(h: ∀t∈(match g with|some (t,_)=>[t]|none=>[]),e t=a t):fO e g=fO a g:=by
 cases g with
 |none=>rfl
 |some p=>simp only[fO];grind
def amR{C:bw}{xs:Nat->aP}{F:Nat->FP}{l:lN}{a q:Fr}{E D:AS}(n:jN (xs i) (xs j)=true)(x: (F i).ok (F j)=true)(h:jm X C xs F (i::j::l) a E q D):jm X C xs F (j::i::l) a E q D:=by
 simp only[jN,afJ,amP]at n;obtain⟨⟨M,L⟩,K⟩:=n;have B: ∀v,∀t∈(xs j).reads,(a.put (xs i).dst v).env t=a.env t:=λv t d=>Cu λy=>M t y d
 have ex: ∀v,∀t∈(xs i).reads,(a.put (xs j).dst v).env t=a.env t:=λv t d=>Cu λy=>L t y d
 have e: ∀v,∀t∈(xs j).i.reads,(a.put (xs i).dst v).env t=a.env t:=λv t d=>B v t (by simp[aP.reads,d])
 have f: ∀v,∀t∈(xs i).i.reads,(a.put (xs j).dst v).env t=a.env t:=λv t d=>ex v t (by simp[aP.reads,d])
 have s: ∀v,fO (a.put (xs i).dst v).env (xs j).g=fO a.env (xs j).g:=λv=>Vo λt d=>B v t (by
  simp only[aP.reads,ac8];grind)
 have u: ∀v,fO (a.put (xs j).dst v).env (xs i).g=fO a.env (xs i).g:=λv=>Vo λt d=>ex v t (by
  simp only[aP.reads,ac8];grind)
 have comm: ∀v w,(a.put (xs i).dst v).put (xs j).dst w=(a.put (xs j).dst w).put (xs i).dst v:=λv w=>amQ K
 simp only[jm]at h⊢;rcases h with⟨o,v,c,A,m,h⟩| ⟨o,m,h⟩
 ·rcases h with⟨g1,w,b,g2,k,g⟩| ⟨g1,k,g⟩
  ·rw[s]at g1;have z:exec X C (xs j).i a.env c=some (.ok w b):=by rw[<-Gj (e v)];exact g2
   have p:aX (xs j).i a.env c b=F j:=by rw[<-Gk (e v)];exact k
   obtain⟨r,J,I,H,G⟩:=amO A z (by rw[m,p];exact x);refine .inl ⟨g1,w,r,J,by rw[H];exact p,.inl ⟨by rw[u];exact o,v,b,?_,?_,by rw[<-comm];exact g⟩⟩
   ·rw[Gj (f w)];exact I
   ·rw[Gk (f w),G];exact m
  ·rw[s]at g1;refine .inr ⟨g1,k,.inl ⟨by rw[u];exact o,v,c,?_,?_,by rw[<-comm];exact g⟩⟩
   ·rw[Gj (f _)];exact A
   ·rw[Gk (f _)];exact m
 ·rcases h with⟨g1,w,b,g2,k,g⟩| ⟨g1,k,g⟩
  ·rw[s]at g1;refine .inl ⟨g1,w,b,by rw[<-Gj (e _)];exact g2,by rw[<-Gk (e _)];exact k,.inr ⟨by rw[u];exact o,m,by rw[<-comm];exact g⟩⟩
  ·rw[s]at g1;exact .inr ⟨g1,k,.inr ⟨by rw[u];exact o,m,by rw[<-comm];exact g⟩⟩
theorem Me{C:bw}{xs:Nat->aP}{F:Nat->FP}{j:Nat}{b:lN}: ∀ (a:lN) (fr c:Fr) (E e:AS),(∀i∈a,jN (xs i) (xs j)=true/\ (F i).ok (F j)=true)->jm X C xs F (a++j::b) fr E c e->jm X C xs F (j:: (a++b)) fr E c e
 | [],_,_,_,_,_,h=>h
 |i::a,fr,c,E,e,f,h=>by
  have g:=f i (by simp);refine amR g.1 g.2 ?_;simp only[af3]at h;rw[jm]at h⊢;have n:=λfr E (h:jm X C xs F (a++j::b) fr E c e)=>Me a fr c E e (λk p=>f k (by grind)) h
  rcases h with⟨m,v,d,o,l,h⟩| ⟨m,l,h⟩
  ·exact .inl ⟨m,v,d,o,l,n _ _ h⟩
  simp_all
theorem Mf{C:bw}{xs:Nat->aP}: ∀ (ys:List (aP×lN)) (a:List FP) (fr:Fr) (E:AS) (res:Ex×Fr×AS),(∀q y,ys[q]?=some y->xs (a.length+q)=y.1)->gb X C a ys fr E=some res->res.1= .normal->
  ∃F:Nat->FP,(∀m,m<a.length->F m=a.getD m .all)/\res.1= .normal/\jm X C xs F ((List.range ys.length).map (a.length+ ·)) fr E res.2.1 res.2.2/\
   ∀q y,ys[q]?=some y-> ∀k∈y.2,k<a.length+q->(F k).ok (F (a.length+q))=true
 | [],a,fr,E,res,t,h,r=>by
   simp only[gb,acy]at h;subst h;exact⟨λm=>a.getD m .all,λ_ _=>rfl,rfl,⟨rfl,rfl⟩,by simp⟩
 |o::ys,a,fr,E,res,t,h,r=>by
  have b:xs a.length=o.1:=by simpa using t 0 o rfl
  have j: ∀ (f:FP) q y,ys[q]?=some y->xs ((a++[f]).length+q)=y.1:=by
   intro f q y l;have:=t (q+1) y (by simpa using l);rw[<-this];congr 1;simp;omega
  have d: ∀f:FP,(List.range (o::ys).length).map (a.length+ ·)=a.length:: (List.range ys.length).map ((a++[f]).length+ ·):=by
   intro f;simp only[aep,List.range_succ_eq_map,alM,ayR,aem]
   congr 1
   apply au0;intro k _;simp;omega
  have fin: ∀ (f:FP) (F:Nat->FP),(∀m,m< (a++[f]).length->F m=(a++[f]).getD m .all)->F a.length=f/\ ∀m,m<a.length->F m=a.getD m .all:=by
   intro f F s;refine⟨?_,λm hm=>?_⟩
   ·rw[s _ (by simp)];simp
   ·rw[s m (by simp;omega)];simp[aer,abP hm]
  have c: ∀ (f:FP) (F:Nat->FP),(∀m,m<a.length->F m=a.getD m .all)->(∀k∈o.2,k<a.length->(a.getD k .all).ok (F a.length)=true)->
    (∀q y,ys[q]?=some y-> ∀k∈y.2,k< (a++[f]).length+q->(F k).ok (F ((a++[f]).length+q))=true)->
    ∀q y,(o::ys)[q]?=some y-> ∀k∈y.2,k<a.length+q->(F k).ok (F (a.length+q))=true:=by
   intro f F s w u q y l k n i;cases q with
   |zero=>
    simp at l;subst l;rw[aem]at i⊢;rw[s k i];exact w k n i
   |succ q=>
    have:=u q y (by simpa using l) k n (by simp;omega);have e: (a++[f]).length+q=a.length+(q+1):=by simp;omega
    rw[e]at this;exact this
  simp only[gb]at h;split at h
  ·rename_i hw;split at h
   ·rename_i v g hex;split at h
    ·rename_i p;obtain⟨F,f1,f2,f3,f4⟩:=Mf ys _ _ _ res (j _) h r;obtain⟨g1,g2⟩:=fin _ F f1;refine⟨F,g2,f2,?_,c _ F g2 (λk n _=>?_) f4⟩
     ·rw[d (aX o.1.i fr.env E g)];refine .inl ⟨by rw[b];exact hw,v,g,by rw[b];exact hex,by rw[b,g1],by rw[b];exact f3⟩
     ·rw[g1];exact aes.1 p k n
    ·cases h
   ·split at h
    ·cases h;cases r
    ·cases h
   ·cases h
  ·rename_i hw;obtain⟨F,f1,f2,f3,f4⟩:=Mf ys _ _ _ res (j _) h r;obtain⟨g1,g2⟩:=fin _ F f1;refine⟨F,g2,f2,?_,c _ F g2 (λk n _=>?_) f4⟩
   ·rw[d .no];exact .inr ⟨by rw[b];simpa using hw,g1,by rw[b];exact f3⟩
   ·rw[g1];cases a.getD k .all<;>rfl
theorem Vp{C:bw}{xs:Nat->aP}: ∀ (ys:List (aP×lN)) (a:List FP) (fr:Fr) (E:AS) (res:Ex×Fr×AS),(∀q y,ys[q]?=some y->xs (a.length+q)=y.1)->gb X C a ys fr E=some res->res.1≠ .normal->
  ∃ (F:Nat->FP) (p:Nat) (v:AV) (b:AS) (y:aP×lN),(∀m,m<a.length->F m=a.getD m .all)/\ys[p]?=some y/\res.1= .panic v/\jm X C xs F ((List.range p).map (a.length+ ·)) fr E res.2.1 b/\
    fO res.2.1.env (xs (a.length+p)).g=true/\exec X C (xs (a.length+p)).i res.2.1.env b=some (.panic v res.2.2)/\
    (∀q y,q<p->ys[q]?=some y-> ∀k∈y.2,k<a.length+q->(F k).ok (F (a.length+q))=true)/\
    y.2=[]/\y.1.i.cls≠0/\ (y.1.i.cls=2\/ ∀m,m<a.length+p->F m≠ .no)/\ ∀q d,p<q->ys[q]?=some d->if d.1.i.cls=0 then jN y.1 d.1=false else a.length+p∉d.2
 | [],a,fr,E,res,G,h,L=>by
   simp only[gb,acy]at h
   grind
 |o::ys,a,fr,E,res,G,h,L=>by
  have c:xs a.length=o.1:=by simpa using G 0 o rfl
  have D: ∀ (f:FP) q y,ys[q]?=some y->xs ((a++[f]).length+q)=y.1:=by
   intro f q y u;have:=G (q+1) y (by simpa using u);rw[<-this];congr 1;simp;omega
  have w: ∀ (f:FP) (p:Nat),(List.range (p+1)).map (a.length+ ·)=a.length:: (List.range p).map ((a++[f]).length+ ·):=by
   intro f p;simp only[List.range_succ_eq_map,alM,ayR,aem]
   congr 1
   apply au0;intro k _;simp;omega
  have e1: ∀ (f:FP) (q:Nat),(a++[f]).length+q=a.length+(q+1):=λf q=>by simp;omega
  have fin: ∀ (f:FP) (F:Nat->FP),(∀m,m< (a++[f]).length->F m=(a++[f]).getD m .all)->F a.length=f/\ ∀m,m<a.length->F m=a.getD m .all:=by
   intro f F s;refine⟨?_,λm hm=>?_⟩
   ·rw[s _ (by simp)];simp
   ·rw[s m (by simp;omega)];simp[aer,abP hm]
  have next: ∀ (f:FP) (g:Fr) (i:AS),gb X C (a++[f]) ys g i=some res->(∀ (F:Nat->FP) l j A,F a.length=f->jm X C xs F l g i j A->jm X C xs F (a.length::l) fr E j A)->(∀k∈o.2,(a.getD k .all).ok f=true)->
    ∃ (F:Nat->FP) (p:Nat) (v:AV) (b:AS) (y:aP×lN),(∀m,m<a.length->F m=a.getD m .all)/\ (o::ys)[p]?=some y/\res.1= .panic v/\jm X C xs F ((List.range p).map (a.length+ ·)) fr E res.2.1 b/\
      fO res.2.1.env (xs (a.length+p)).g=true/\exec X C (xs (a.length+p)).i res.2.1.env b=some (.panic v res.2.2)/\
      (∀q y,q<p->(o::ys)[q]?=some y-> ∀k∈y.2,k<a.length+q->(F k).ok (F (a.length+q))=true)/\
      y.2=[]/\y.1.i.cls≠0/\ (y.1.i.cls=2\/ ∀m,m<a.length+p->F m≠ .no)/\ ∀q d,p<q->(o::ys)[q]?=some d->if d.1.i.cls=0 then jN y.1 d.1=false else a.length+p∉d.2:=by
   intro f g i h t I;obtain⟨F,p,v,b,y,f1,f2,f3,f4,f5,f6,f7,f8,f9,f10,f11⟩:=Vp ys _ _ _ res (D f) h L;obtain⟨g1,g2⟩:=fin f F f1;refine⟨F,p+1,v,b,y,g2,by simpa using f2,f3,?_,by rw[<-e1 f];exact f5,by rw[<-e1 f];exact f6,?_,f8,f9,f10.imp id λf10 m hm=>f10 m (by rw[e1];exact hm),?_⟩
   ·rw[w f];exact t F _ _ _ g1 f4
   ·intro q d u n k x r;cases q with
    |zero=>
     simp at n;subst n;rw[aem]at r⊢;rw[g1,g2 k r];exact I k x
    |succ q=>
     have:=f7 q d (by omega) (by simpa using n) k x (by rw[e1];exact r);rw[e1]at this;exact this
   ·intro q d u n;cases q with
    |zero=>omega
    |succ q=>
     have:=f11 q d (by omega) (by simpa using n);rw[e1]at this;exact this
  simp only[gb]at h;split at h
  ·rename_i hw;split at h
   ·rename_i v b hex;split at h
    ·rename_i z;exact next _ _ _ h (λF l j A s H=>.inl ⟨by rw[c];exact hw,v,b,by rw[c];exact hex,by rw[c,s],by rw[c];exact H⟩) (λk x=>aes.1 z k x)
    ·cases h
   ·rename_i v A hex;split at h
    ·rename_i K;cases h;simp only[Ca,afJ,anX,aul,ayS,bne_iff_ne]at K;obtain⟨O,N,B,M⟩:=K;refine⟨λm=>a.getD m .all,0,v,E,o,λ_ _=>rfl,rfl,rfl,⟨rfl,rfl⟩,by rw[aem,c];exact hw,by rw[aem,c];exact hex,λq y u=>by omega,O,N,?_,?_⟩
     ·refine B.imp id λB m hm=>?_
      rw[aem]at hm;have:=aes.1 B a[m] (as1 hm);simp only[aer,acJ hm,ahL];intro e;rw[e]at this;cases this
     ·intro q d u n;cases q with
      |zero=>omega
      |succ q=>
       have:=aes.1 M d (ajY (by simpa using n:ys[q]?=some d));split
       ·rename_i J;rw[acE J]at this;simpa using this
       ·rename_i J;rw[acz J]at this;rw[aem];simpa using this
    ·cases h
   ·cases h
  ·rename_i hw;exact next .no _ _ h (λF l j A s H=>.inr ⟨by rw[c];simpa using hw,s,by rw[c];exact H⟩) (λk x=>by cases a.getD k .all<;>rfl)
end
section
variable{P:Program}{X:Ctx}{B:Nat}{ax:World}{cW:List Deferred}
theorem Vq(f:FP):FP.ok .no f=true:=by rfl
def Vr(f:FP):FP.ok f .no=true:=by cases f<;>rfl
theorem xC{C:bw}{xs:Nat->aP}{F:Nat->FP}{i:Nat}(d: (xs i).i.cls=0): ∀ (l:lN) (fr b:Fr) (E e:AS),i∈l->jm X C xs F l fr E b e->F i= .no
 | [],_,_,_,_,a,_=>by grind
 |j::l,fr,b,E,e,a,h=>by
  rcases aeB.1 a with rfl|a
  ·rcases h with⟨_,v,c,_,f,_⟩| ⟨_,f,_⟩
   ·grind [Vi]
   omega
  ·rcases h with⟨_,v,c,_,_,h⟩| ⟨_,_,h⟩
   ·exact xC d l _ _ _ _ a h
   ·exact xC d l _ _ _ _ a h
theorem Vs{rows:Bool}{ops:Array Oper}: ∀ {os:List Oper} {xs:List aP},kh P rows ops os=some xs->xs.length=os.length/\ ∀ (i:Nat) (o:Oper),os[i]?=some o-> ∃x,xs[i]?=some x/\im P rows ops o=some x
 | [],xs,h=>by
   simp only[kh,acy]at h;grind
 |o::os,xs,h=>by
  simp only[kh]at h;split at h
  ·rename_i x a c b;obtain⟨e1,d⟩:=Vs b
   grind
  grind
theorem Vt{ops:Array Oper}{e:Nat}: ∀n:Nat,e<n->(sR ops n).getD (n-1-e) 0=(sR ops (e+1)).headD 0
 |0,h=>absurd h (amz _)
 |n+1,h=>by
  by_cases he:e=n
  ·subst he;simp[sR]
  ·have a:e<n:=by omega
   rw[show n+1-1-e=(n-1-e)+1 by omega,<-Vt n a];simp[sR]
theorem Vu{b:lN}{n a:Nat}{S:Nat->Prop}: ∀es:lN,(∀e∈es,S e)->(∀e∈es,e<n->Nat.testBit (b.getD (n-1-e) 0) a=true->S a)->Nat.testBit (zI b n es) a=true->S a
 | [],_,_,h=>by simp[zI]at h
 |e::es,f,d,h=>by
  have e1:zI b n (e::es)=(1<<<e||| (if e<n then b.getD (n-1-e) 0 else 0))|||zI b n es:=rfl;rw[e1,Nat.testBit_or,Nat.testBit_or,anX,anX]at h;rcases h with(h|h)|h
  ·simp_all[Nat.one_shiftLeft,Nat.testBit_two_pow,aje]
  ·grind
  ·exact Vu es (λx c=>f x (aew _ c)) (λx c=>d x (aew _ c)) h
def Mg{ops:Array Oper}{S:Nat->Prop}(g: ∀j,S j-> ∀o,ops[j]?=some o-> ∀a∈ki o,S a)(k i:Nat)(o:Oper)(ho:ops[i]?=some o)(d: ∀a∈ki o,S a): ∀a∈gM ops k i,S a:=by
 intro a h;unfold gM at h;have key: ∀n i:Nat,i<n-> ∀o,ops[i]?=some o->(∀a∈ki o,S a)->Nat.testBit ((sR ops (i+1)).headD 0) a=true->S a:=by
  intro n
  induction n with
  |zero=>simp
  |succ n l=>
   intro i m o ho d f;simp only[sR,List.headD_cons,ho]at f;refine Vu _ d (λe hm b c=>?_) f;rw[Vt i b]at c
   grind
 grind
def Vv{a:Region.Mode}{e:Edge}(h:Region.binds .any e=true):Region.binds a e=true:=by
 unfold Region.binds at h⊢
 grind
theorem Mh{a:Region.Mode}{ops:Array Oper}{l:lN}{S:Nat->Prop}(f: ∀x,x<ops.size->x∉l->S x): ∀ (ord pre:lN),FO a ops pre ord=true->(∀x∈pre,x<ops.size/\x∉l)->(∃x∈ord,x∈l)->
  ∃x∈l,∃o,ops[x]?=some o/\ ∀e∈o.after.toList,Region.binds a e=true->S e.on
 | [],_,_,_,⟨x,c,_⟩=>by grind
 |i::ord,pre,h,b,hex=>by
  simp only[FO,afJ]at h;obtain⟨j,g⟩:=h;split at j
  ·by_cases d:i∈l
   ·grind
   ·refine Mh f ord (i::pre) g (λx c=>?_) ?_
    ·grind
    grind
  grind
def Gh.later(G:Gh)(os:List ae):Gh:={G with n:=G.n+os.length,pz:=λi=>if i<G.n then G.pz i else os[i-G.n]?}
def Gh.xD(G:Gh)(os:List ae):G.le (G.later os):=
 .mk' (λ_ _ _ h=>h) (by simp[Gh.later]) (λi a=>by simp[Gh.later,a]) (λ_ _=>aeg _) (λ_ _ _=>⟨rfl,rfl,rfl,rfl⟩)
def Gh.Gn{G:Gh}{os:List ae}(h: (G.later os).on i):G.on i:=by
 obtain⟨c,a⟩:=h;simp only[Gh.later]at c a;by_cases b:i<G.n
 ·rw[acE b]at a;exact⟨b,a⟩
 grind
theorem aY.later{G:Gh}{E:AS}(h:aY P B ax G E w){os:List ae}(ho: ∀o∈os,∃z tg,o= .box z tg/\aI z=0):aY P B ax (G.later os) (E.lK os) w where
 len:=by simp[Gh.later,AS.lK,h.len]
 bu:=h.bu
 obj id o e b:=by
  simp only[Gh.later]at b;simp only[AS.lK]at e;by_cases a:id<G.n
  ·rw[acE a]at b;rw[abP (by rw[<-h.len];exact a)]at e;exact iq.mono (G.xD os) ⟨a,b⟩ rfl rfl (h.obj id o e b)
  ·rw[acz a]at b;rw[aet (by rw[<-h.len];omega),<-h.len,b]at e;cases e
 inj i j a d e:=h.inj i j (Gh.Gn a) (Gh.Gn d) e
 sep i a o:=h.sep i (Gh.Gn a) o
 low i a:=h.low i (Gh.Gn a)
 la:=h.la
 hB:=h.hB
 lb id o c b:=by
  simp only[Gh.later]at c b;simp only[AS.lK];by_cases a:id<G.n
  ·rw[acE a]at b;obtain⟨g,f⟩:=h.lb id o a b
   grind
  ·rw[acz a]at b;exact⟨by rw[aet (by rw[<-h.len];omega),<-h.len];exact b,ho o (ajY b)⟩
 dD:=h.dD
theorem AS.Ext.lK(E:AS)(os:List ae):E.Ext (E.lK os)where
 len:=by simp[AS.lK]
 lo _ h:=h
 obj j x e:=⟨x,by
  have:j<E.heap.length:=(abQ.1 e).1;simp[AS.lK,abP this,e],.inl λ_ k=>k.mono (by omega)⟩
def Gh.real(G:Gh)(id b:Nat):Gh:=
 {G with ba:=λi=>if i=id then b else G.ba i,ai:=λi=>if i=id then 0 else G.ai i,pz:=λi=>if i=id then none else G.pz i}
def Gh.Gp{G:Gh}{id b:Nat}{o:ae}(d:G.pz id=some o):G.sub (G.real id b):=by
 have c: ∀i,G.on i->i≠id:=λi a e=>by rw[e]at a;rw[a.2]at d;cases d
 exact{bu:=λ_ _ _ h=>h,n:=aeg _,on:=λi a=>⟨a.1,by simp only[Gh.real];rw[acz (c i a)];exact a.2⟩,
       ai:=λi a=>by simp only[Gh.real];grind,same:=λi a _=>by simp[Gh.real,c i a]}
def Gh.Gq{G:Gh}{id b:Nat}(h: (G.real id b).on i):i=id\/ (i≠id/\G.on i):=by
 obtain⟨c,a⟩:=h;simp only[Gh.real]at c a;by_cases e:i=id
 ·omega
 ·rw[acz e]at a;exact .inr ⟨e,c,a⟩
def Gr{rows:Bool}{o:Oper}(h:kg P rows o=some (.alloc z tg)): ∃t,o.op= .alloc t/\gL P t=some z/\tg=rl z t:=by
 cases a:o.op with
 |alloc t=>
  simp only[kg,a]at h;obtain⟨e,d,b⟩:=aeh.1 h;cases b;exact⟨t,rfl,d,rfl⟩
 |call c=>
  exfalso;simp only[kg,a,Cb]at h
  repeat' split at h
  all_goals first| (cases h;done)| (simp only[aeh]at h;obtain⟨_,_,h⟩:=h;cases h;done)|skip
 |_=>
  exfalso;simp only[kg,a]at h
  (repeat' split at h)<;>first| (cases h;done)| (simp only[aeh]at h;obtain⟨_,_,h⟩:=h;first| (cases h;done)| (split at h<;>cases h))| (simp_all;done)
theorem aY.real{G:Gh}{E:AS}(h:aY P B ax G E w){id:Nat}{t:TypeId}(s:id<G.n)(H:G.pz id=some (.box z (rl z t)))(N:gL P t=some z):
  ∃w',(Instr.alloc t true (.tuple #[])).run P w= .ok (.pointer (some ⟨w.heap.size,0,none⟩)) w'/\aY P B ax (G.real id w.heap.size) E w'/\ak (G.real id w.heap.size) (.ptr id 0) (.pointer (some ⟨w.heap.size,0,none⟩)):=by
 have p:G.sub (G.real id w.heap.size):=Gh.Gp H;obtain⟨A,e,_,l,J,_⟩:=rp N (G.real id w.heap.size) w;obtain⟨I,_⟩:=h.lb id _ s H;have x: (G.real id w.heap.size).ba id=w.heap.size:=by simp[Gh.real]
 refine⟨w.alloc (.cells A.cells t),by simp[Instr.alloc,e,newVar,newRow],?_,⟨⟨s,by simp[Gh.real]⟩,_,rfl,λ_=>by rw[x]⟩⟩;refine{len:=h.len,bu:=λb o v K=>?_,obj:=λi o y a=>?_,inj:=λi j g L f=>?_,sep:=λi g o=>?_,low:=λi g=>?_,la:=h.la.alloc h.hB _,hB:=by have:=h.hB;simp;omega,lb:=λi o g a=>?_,dD:=h.dD}
 ·have m:G.bu b o=some v:=K;rw[cell?_alloc_old (h.xm P m)];exact h.bu b o v m
 ·by_cases c:i=id
  ·subst c;rw[I]at y;cases y;refine⟨by simp[Gh.real],A.cells,t,?_,l,J,λO h=>LX h⟩;rw[x];exact an5 _ _
  ·have q:i<G.n:=by rw[h.len];exact(abQ.1 y).1
   simp only[Gh.real]at a;rw[acz c]at a;exact iq.dt p ⟨q,a⟩ (by simp[Gh.real,c]) (Below.heap_alloc _ _ _ (h.low i ⟨q,a⟩).2) (h.obj i o y a)
 ·rcases Gh.Gq g with d| ⟨k,d⟩<;>rcases Gh.Gq L with u| ⟨D,u⟩
  ·rw[d,u]
  ·simp only[Gh.real,d,aeE,acz D]at f;have:=(h.low j u).2;omega
  ·simp only[Gh.real,u,aeE,acz k]at f;have:=(h.low i d).2;omega
  ·simp only[Gh.real,acz k,acz D]at f;exact h.inj i j d u f
 ·rcases Gh.Gq g with d| ⟨k,d⟩
  ·subst d;rw[x];show G.bu w.heap.size o=none;cases M:G.bu w.heap.size o with
   |none=>rfl
   |some v=>have:=h.xm P M;omega
  ·simp only[Gh.real,acz k];exact h.sep i d o
 ·rcases Gh.Gq g with d| ⟨k,d⟩
  ·subst d;rw[x];exact⟨h.hB,by simp⟩
  ·simp only[Gh.real,acz k];have:=h.low i d;exact⟨this.1,by simp;omega⟩
 ·simp only[Gh.real]at g a;by_cases c:i=id
  ·rw[acE c]at a;cases a
  ·rw[acz c]at a;exact h.lb i o g a
def Gh.Vw{G:Gh}(h:fP.le G){id b:Nat}{o:ae}(a:G.pz id=some o)(c:fP.n<=id):fP.le (G.real id b):=
 {Gh.Uj h.toSub (Gh.Gp a)with pz:=λi d=>by simp only[Gh.real];rw[acz (by omega)];exact h.pz i d}
section
variable{C:bw}(hC:fI P B ax C)(hg:fk X B ax){r:oN}{n nt:Nat}{rows:Bool}{ops:Array Oper}{xs:Nat->aP}{F:Nat->FP}
include hC hg
theorem go_sound(I:Region.Mode){ord:lN}(U:sS I ops ord=true)(sl:Nat->Nat)(al:Nat->Option ae)(zV: ∀i o,ops[i]?=some o->(al i=none/\im P rows ops o=some (xs i))\/ ∃z tg g d,al i=some (.box z tg)/\im P rows ops o=some ⟨g,d,.alloc z tg⟩/\xs i=⟨g,d,.mov (.c (.ptr (sl i) 0))⟩)
  (Mi: ∀i j bi bj,al i=some bi->al j=some bj->sl i=sl j->i=j)  {cn:AS} (vx: ∀i b,al i=some b->fP.n<=sl i) (hd: ∀i,i<ops.size-> ∀d,(xs i).dst=some d->d<nt) (amS: ∀i o,ops[i]?=some o-> ∀a∈ki o,a<i)
  (Mj: ∀i j,i<j->j<ops.size->i∉gM ops 64 j->jN (xs i) (xs j)=true/\ (F i).ok (F j)=true):
  ∀ (fuel t:Nat) (listed:Array Bool) (l:lN) (G:Gh) (E E':AS) (w:World) (fr u:Fr) (a:Act) (Q:Exit->Act->World->Prop),
    (∀i,i∈l↔i<ops.size/\listed.getD i true=false)->listed.size=ops.size->l.Pairwise (· < ·)->(∀j o,ops[j]?=some o->listed.getD j true=true-> ∀a∈ki o,listed.getD a true=true)->l.length<=fuel->
    jm X C xs F l fr E u E'->fP.le G->cn.Ext E->(∀i∈l,∀b,al i=some b->sl i<G.n/\G.pz (sl i)=some b)->aY P B ax G E w->cL G nt fr.env a.tmps->gd cW G fr.marks a.defers->(∀e a w,lO P B ax cW fP cn nt (.normal,u,E') e a w->Q e a w)->
    wpOpsIn (W r) n P ops Q (Region.linearise.go I ops fuel t listed []) a w:=by
 intro fuel
 induction fuel with
 |zero=>
  intro t listed l G E E' w fr u a Q hl T hp ov hf hr hle s ox hw he hm hQ;have:l=[]:=ahK.1 (by omega);subst this;obtain⟨rfl,rfl⟩:=hr;exact hQ _ _ _ ⟨G,hle,hw,he,hm,s,trivial⟩
 |succ fuel ih=>
  intro t listed l G E E' w fr u a Q hl T hp ov hf hr hle s ox hw he hm hQ;simp only[Region.linearise.go]
  change wpOpsIn (W r) n P ops Q (match(Region.ready I ops listed)[t % (Region.ready I ops listed).length]? with
   |some i=>Region.linearise.go I ops fuel (t/ (Region.ready I ops listed).length) (listed.setIfInBounds i true) [i]
   |none=>[].reverse) a w
  have J: ∀i,i∈Region.ready I ops listed↔i∈l/\ ∀o,ops[i]?=some o-> ∀e∈o.after.toList,Region.binds I e=true->listed.getD e.on false=true:=by
   intro i;simp only[Region.ready,aey,ame,afJ,ayA];rw[hl];constructor
   ·rintro⟨R,H,h3⟩;refine⟨⟨R,H⟩,λo ho e Z O=>?_⟩;rw[ho]at h3;simp only[aei,ahL,aom]at h3;have:=h3 e (by simpa using Z);rw[O]at this;simpa using this
   ·rintro⟨⟨R,H⟩,h3⟩;refine⟨R,H,?_⟩;obtain⟨o,ho⟩: ∃o,ops[i]?=some o:=⟨ops[i],by simp[R]⟩;rw[ho];simp only[aei,ahL,aom];intro e Z;by_cases O:Region.binds I e=true
    ·rw[h3 o ho e (by simpa using Z) O];simp
    ·simp at O;simp[O]
  have Mk: ∀a,listed.getD a false=true->listed.getD a true=true:=by
   intro a h;simp only[aeu]at h⊢;cases h':listed[a]? with
   |none=>rw[h']at h;cases h
   |some b=>rw[h']at h;exact h
  cases hi: (Region.ready I ops listed)[t % (Region.ready I ops listed).length]? with
  |none=>
   have Cv:Region.ready I ops listed=[]:=by
    cases rA:Region.ready I ops listed with
    |nil=>rfl
    |cons x ys=>
     rw[rA]at hi;have xr:t % (x::ys).length< (x::ys).length:=amw _ (by simp);rw[acJ xr]at hi;cases hi
   cases l with
   |nil=>
    obtain⟨rfl,rfl⟩:=hr;exact hQ _ _ _ ⟨G,hle,hw,he,hm,s,trivial⟩
   |cons i l=>
    exfalso;simp only[sS,afJ]at U;obtain⟨x,p,o,ho,sW⟩:=Mh (S:=λa=>listed.getD a false=true) (l:=i::l) (λx p pX=>by
     cases rB:listed.getD x true with
     |true=>
      simp only[aeu,avH (show x<listed.size by omega),ahL]at rB⊢;exact rB
     |false=>exact absurd ((hl x).2 ⟨p,rB⟩) pX) ord [] U.2 (by simp) ⟨i,by
      have:=aes.1 U.1 i (by simpa using((hl i).1 (by simp)).1);simpa using this,by simp⟩
    have:x∈Region.ready I ops listed:=(J x).2 ⟨p,λo' D e Z O=>by rw[ho]at D;cases D;exact sW e Z O⟩;rw[Cv]at this;cases this
  |some i=>
   simp only;rw[linearise_go_acc,List.reverse_singleton,List.singleton_append];have Ml:=ajY hi;obtain⟨rC,Mm⟩:=(J i).1 Ml;have zW: ∀o,ops[i]?=some o-> ∀a∈ki o,listed.getD a true=true:=by
    intro o ho a ha;simp only[ki,ael,aey]at ha;obtain⟨e,⟨e1,e2⟩,rfl⟩:=ha;exact Mk _ (Mm o ho e e1 (Vv e2))
   have Y:=((hl i).1 rC).1;obtain⟨o,ho⟩: ∃o,ops[i]?=some o:=⟨ops[i],by simp[Y]⟩;obtain⟨f,m,rfl⟩:=avF rC;have A:=al5.1 hp;have q:=Me f fr u E E' (λx p=>by
    have pX:=(hl x).1 (by simp[p]);refine Mj x i (A.2.2 x p i (by simp)) Y (λamT=>?_);have:=Mg (S:=λa=>listed.getD a true=true) (λj hj o' D a ha=>ov j o' D hj a ha) 64 i o ho (zW o ho) x amT;rw[pX.2]at this;cases this) hr
   rw[jm]at q;have L: ∀k,k∈f++m↔k<ops.size/\ (listed.setIfInBounds i true).getD k true=false:=by
    intro k;have V:=hl k;have Gs: ∀x∈f++m,x≠i:=by
     intro x p e;subst e;rcases ac8.1 p with h|h
     ·have:=A.2.2 x h x (by simp);omega
     ·have:=(amB.1 A.2.1).1 x h;omega
    simp only[aeu,ajU]at V⊢;constructor
    ·intro h;have rD:=Gs k h;have:=V.1 (by simp only[ac8,aeB]at h⊢;rcases h with h|h;exact .inl h;exact .inr (.inr h));rw[acz (λe=>rD e.symm)];exact this
    ·rintro⟨R,H⟩;by_cases xE:i=k
     ·subst xE;rw[acE rfl,acE (by omega)]at H;simp at H
     ·rw[acz xE]at H;have:=V.2 ⟨R,H⟩;simp only[ac8,aeB]at this⊢;rcases this with h|h|h
      ·exact .inl h
      ·exact absurd h.symm xE
      ·exact .inr h
   have nm: (f++m).Pairwise (· < ·):=al5.2 ⟨A.1,(amB.1 A.2.1).2,λx p y hy=>A.2.2 x p y (by simp[hy])⟩;have N: ∀j o,ops[j]?=some o->(listed.setIfInBounds i true).getD j true=true-> ∀a∈ki o,(listed.setIfInBounds i true).getD a true=true:=by
    intro j o' D hj a ha;have key:listed.getD a true=true->(listed.setIfInBounds i true).getD a true=true:=by
     intro h;simp only[aeu,ajU]at h⊢;split
     ·split<;>rfl
     ·exact h
    apply key;by_cases Cw:i=j
    ·subst Cw;rw[ho]at D;cases D;exact zW _ ho a ha
    ·refine ov j o' D ?_ a ha;simp only[aeu,ajU]at hj⊢;rw[acz Cw]at hj;exact hj
   have pV: (f++m).length<=fuel:=by simp at hf⊢;omega
   have Mo:i∉f++m:=λhm=>by
    rcases ac8.1 hm with h|h
    ·have:=A.2.2 i h i (by simp);omega
    ·have:=(amB.1 A.2.1).1 i h;omega
   have K: ∀k∈f++m,∀b,al k=some b->sl k<G.n/\G.pz (sl k)=some b:=λk V b O=>ox k (by
    simp only[ac8,aeB]at V⊢;rcases V with h|h
    ·exact .inl h
    ·exact .inr (.inr h)) b O
   rcases zV i o ho with⟨pY,p⟩| ⟨z,tg,g,d,pY,p,xF⟩
   ·have ir:guardOf ops o=some (xs i).g:=by
      unfold im at p;split at p
      ·rename_i H;have:=ahJ p;rw[<-this];exact H
      ·cases p
    have M: (xs i).dst=o.dst:=by
     unfold im at p;split at p
     ·have:=ahJ p;rw[<-this]
     ·cases p
    have sZ:=xx he ir;simp only[wpOpsIn,ho];rw[sZ];rcases q with⟨R,v,xG,H,_,h4⟩| ⟨R,_,h4⟩
    ·rw[acE R];refine xy hC hg p (hd i Y) hw he hm H (λCx nq e G' a' w' q1 q2 q3 q4 q5=>?_) (λCx nq e=>by cases e);cases e;exact ih _ _ (f++m) G' xG E' w' _ u a' Q L (by simpa using T) nm N pV h4 (Gh.le_trans hle q1) (s.trans q3) (λk V b O=>by
      obtain⟨p1,p2⟩:=K k V b O;exact⟨af2 p1 q1.n,by rw[q1.pz _ p1];exact p2⟩) q2 q4 q5 hQ
    ·rw[acz (by rw[R];simp)];refine⟨λ_ _=>trivial,?_⟩;obtain⟨p1,p2,p3⟩:=pU (a:=a) he (hd i Y) (v:=.undef) (v':=undef) xw;rw[<-M];exact ih _ _ (f++m) G E E' w _ u _ Q L (by simpa using T) nm N pV h4 hle s K hw p1 (by rw[p2,p3];exact hm) hQ
   ·rw[xF]at q;have xH: ∀d',d=some d'->d'<nt:=λd' zX=>hd i Y d' (by rw[xF];exact zX)
    have Cy:kg P rows o=some (.alloc z tg)/\guardOf ops o=some g/\o.dst=d:=by
     unfold im at p;split at p
     ·rename_i i' g' H h3;simp only[acy,aP.mk.injEq]at p;obtain⟨rfl,rfl,rfl⟩:=p;exact⟨H,h3,rfl⟩
     ·cases p
    obtain⟨Mp,ir,M⟩:=Cy;have sZ:=xx he ir;simp only[wpOpsIn,ho];rw[sZ];rcases q with⟨R,v,xG,H,_,h4⟩| ⟨R,_,h4⟩
    ·rw[acE R];simp only[exec,ao.get,acy,Out.ok.injEq]at H;obtain⟨rfl,rfl⟩:=H;obtain⟨p1,p2⟩:=ox i (by simp) _ pY;obtain⟨t,oy,Mr,rfl⟩: ∃t,o.op= .alloc t/\gL P t=some z/\tg=rl z t:=Gr Mp;obtain⟨w',e1,e2,e3⟩:=hw.real p1 p2 Mr;refine⟨λ_ _=>trivial,?_⟩;have Cz:o.semAt (W r).round a.eval=execOp a.eval o:=by
      apply Oper.semAt_eq;intro c e;rw[oy]at e;cases e
     have CA: (execOp a.eval o).run P w= .ok (.value (.pointer (some ⟨w.heap.size,0,none⟩))) w':=by
      unfold execOp;simp only[oy];rw[Sem.run_bind,e1];rfl
     rw[Cz,CA];simp only[Oper.uponIn];have CB:=Gh.Gp (b:=w.heap.size) p2;obtain⟨r1,r2,r3⟩:=pU (a:=a) (dst:=d) (he.dt CB) xH e3;rw[M];exact ih _ _ (f++m) _ E E' w' _ u _ Q L (by simpa using T) nm N pV h4 (Gh.Vw hle p2 (vx i _ pY)) s (λk V b O=>by
      obtain⟨p3,p4⟩:=K k V b O;refine⟨p3,?_⟩;have rD:sl k≠sl i:=λe=>Mo (by rw[Mi i k _ _ pY O e.symm];exact V)
      simp only[Gh.real];rw[acz rD];exact p4) e2 r1 (by rw[r2,r3];exact hm.dt CB) hQ
    ·rw[acz (by rw[R];simp)];refine⟨λ_ _=>trivial,?_⟩;obtain⟨p1,p2,p3⟩:=pU (a:=a) (dst:=d) he xH (v:=.undef) (v':=undef) xw;rw[M];exact ih _ _ (f++m) G E E' w _ u _ Q L (by simpa using T) nm N pV h4 hle s K hw p1 (by rw[p2,p3];exact hm) hQ
theorem amU(L:Region.Mode){ord:lN}(xI:sS L ops ord=true)(sl:Nat->Nat)(al:Nat->Option ae)(zV: ∀i o,ops[i]?=some o->(al i=none/\im P rows ops o=some (xs i))\/ ∃z tg g d,al i=some (.box z tg)/\im P rows ops o=some ⟨g,d,.alloc z tg⟩/\xs i=⟨g,d,.mov (.c (.ptr (sl i) 0))⟩)
  (Mi: ∀i j bi bj,al i=some bi->al j=some bj->sl i=sl j->i=j)  {cn:AS} (vx: ∀i b,al i=some b->fP.n<=sl i) (hd: ∀i,i<ops.size-> ∀d,(xs i).dst=some d->d<nt) (amS: ∀i o,ops[i]?=some o-> ∀a∈ki o,a<i)
  {f:Nat} (Gt:f<ops.size) (Mj: ∀i j,i<j->j<f->i∉gM ops 64 j->jN (xs i) (xs j)=true/\ (F i).ok (F j)=true) (Ms: ∀i,i<f->i∈gM ops 64 f) (Mt: ∀j,f<j->j<ops.size->f∈gM ops 64 j) {F6:AV} {Vx:AS}:
  ∀ (fuel t:Nat) (listed:Array Bool) (l:lN) (G:Gh) (E E':AS) (w:World) (fr D:Fr) (a:Act) (Q:Exit->Act->World->Prop),
    (∀i,i∈l↔i<f/\listed.getD i true=false)->listed.size=ops.size->(∀j,f<=j->j<ops.size->listed.getD j true=false)->l.Pairwise (· < ·)->(∀j o,ops[j]?=some o->listed.getD j true=true-> ∀a∈ki o,listed.getD a true=true)->l.length<fuel->
    jm X C xs F l fr E D E'->fO D.env (xs f).g=true->exec X C (xs f).i D.env E'=some (.panic F6 Vx)->fP.le G->cn.Ext E->(∀i∈l,∀b,al i=some b->sl i<G.n/\G.pz (sl i)=some b)->aY P B ax G E w->cL G nt fr.env a.tmps->gd cW G fr.marks a.defers->(∀e a w,lO P B ax cW fP cn nt (.panic F6,D,Vx) e a w->Q e a w)->
    wpOpsIn (W r) n P ops Q (Region.linearise.go L ops fuel t listed []) a w:=by
 intro fuel
 induction fuel with
 |zero=>simp
 |succ fuel ih=>
  intro t listed l G E E' w fr D a Q hl rq zR hp ov hf hr CD K hle I ox hw he hm hQ;simp only[Region.linearise.go]
  change wpOpsIn (W r) n P ops Q (match(Region.ready L ops listed)[t % (Region.ready L ops listed).length]? with
   |some i=>Region.linearise.go L ops fuel (t/ (Region.ready L ops listed).length) (listed.setIfInBounds i true) [i]
   |none=>[].reverse) a w
  have M: ∀i,i∈Region.ready L ops listed↔(i<ops.size/\listed.getD i true=false)/\ ∀o,ops[i]?=some o-> ∀e∈o.after.toList,Region.binds L e=true->listed.getD e.on false=true:=by
   intro i;simp only[Region.ready,aey,ame,afJ,ayA];constructor
   ·rintro⟨J,A,h3⟩;refine⟨⟨J,A⟩,λo ho e CE V=>?_⟩;rw[ho]at h3;simp only[aei,ahL,aom]at h3;have:=h3 e (by simpa using CE);rw[V]at this;simpa using this
   ·rintro⟨⟨J,A⟩,h3⟩;refine⟨J,A,?_⟩;obtain⟨o,ho⟩: ∃o,ops[i]?=some o:=⟨ops[i],by simp[J]⟩;rw[ho];simp only[aei,ahL,aom];intro e CE;by_cases V:Region.binds L e=true
    ·rw[h3 o ho e (by simpa using CE) V];simp
    ·simp at V;simp[V]
  have Mk: ∀a,listed.getD a false=true->listed.getD a true=true:=by
   intro a h;simp only[aeu]at h⊢;cases h':listed[a]? with
   |none=>rw[h']at h;cases h
   |some b=>rw[h']at h;exact h
  cases hi: (Region.ready L ops listed)[t % (Region.ready L ops listed).length]? with
  |none=>
   have Cv:Region.ready L ops listed=[]:=by
    cases rA:Region.ready L ops listed with
    |nil=>rfl
    |cons x ys=>
     rw[rA]at hi;have xr:t % (x::ys).length< (x::ys).length:=amw _ (by simp);rw[acJ xr]at hi;cases hi
   exfalso;simp only[sS,afJ]at xI;obtain⟨x,p,o,ho,sW⟩:=Mh (S:=λa=>listed.getD a false=true) (l:=(List.range ops.size).filter λi=>listed.getD i true==false) (λx p pX=>by
    cases rB:listed.getD x true with
    |true=>
     simp only[aeu,avH (show x<listed.size by omega),ahL]at rB⊢;exact rB
    |false=>exact absurd (aey.2 ⟨ame.2 p,by simpa using rB⟩) pX) ord [] xI.2 (by simp) ⟨f,by
     have:=aes.1 xI.1 f (by simpa using Gt);simpa using this,aey.2 ⟨ame.2 Gt,by simpa using zR f (aeg _) Gt⟩⟩
   have Cy:x<ops.size/\listed.getD x true=false:=by simpa using aey.1 p
   have:x∈Region.ready L ops listed:=(M x).2 ⟨Cy,λo' u e CE V=>by rw[ho]at u;cases u;exact sW e CE V⟩;rw[Cv]at this;cases this
  |some i=>
   simp only;rw[linearise_go_acc,List.reverse_singleton,List.singleton_append];have Ml:=ajY hi;obtain⟨rC,Mm⟩:=(M i).1 Ml;have zW: ∀o,ops[i]?=some o-> ∀a∈ki o,listed.getD a true=true:=by
    intro o ho a ha;simp only[ki,ael,aey]at ha;obtain⟨e,⟨e1,e2⟩,rfl⟩:=ha;exact Mk _ (Mm o ho e e1 (Vv e2))
   have Z:=rC.1;obtain⟨o,ho⟩: ∃o,ops[i]?=some o:=⟨ops[i],by simp[Z]⟩;have Y: ∀x∈gM ops 64 i,listed.getD x true=true:=Mg (S:=λa=>listed.getD a true=true) (λj hj o' u a ha=>ov j o' u hj a ha) 64 i o ho (zW o ho);by_cases Gu: ¬i<f
   ·have amV:i=f:=by
      refine alO λrD=>?_
      have:=Y _ (Mt i (by omega) Z);rw[zR f (aeg _) Gt]at this;cases this
    subst amV;have Cv:l=[]:=by
     cases l with
     |nil=>rfl
     |cons x l=>
      obtain⟨q1,q2⟩:=(hl x).1 (by simp);have:=Y _ (Ms x q1);rw[q2]at this;cases this
    subst Cv;obtain⟨rfl,rfl⟩:=hr;rcases zV i o ho with⟨pY,p⟩| ⟨z,tg,g,d,pY,p,xF⟩
    ·have ir:guardOf ops o=some (xs i).g:=by
       unfold im at p;split at p
       ·rename_i A;have:=ahJ p;rw[<-this];exact A
       ·cases p
     have sZ:=xx he ir;simp only[wpOpsIn,ho];rw[sZ,acE CD];exact xy hC hg p (hd i Z) hw he hm K (λCx nq e=>by cases e) (λCx nq e e' a' w' h=>by cases e;exact hQ _ _ _ (h.trans hle I))
    ·rw[xF]at K;simp[exec]at K
   have Gu:i<f:=Decidable.byContradiction Gu;have rC:i∈l:=(hl i).2 ⟨Gu,rC.2⟩;obtain⟨m,q,rfl⟩:=avF rC;have H:=al5.1 hp;have s:=Me m fr D E E' (λx p=>by
    have pX:=(hl x).1 (by simp[p]);refine Mj x i (H.2.2 x p i (by simp)) Gu (λY=>?_);have:=Mg (S:=λa=>listed.getD a true=true) (λj hj o' u a ha=>ov j o' u hj a ha) 64 i o ho (zW o ho) x Y;rw[pX.2]at this;cases this) hr
   rw[jm]at s;have O: ∀k,k∈m++q↔k<f/\ (listed.setIfInBounds i true).getD k true=false:=by
    intro k;have hk:=hl k;have Gs: ∀x∈m++q,x≠i:=by
     intro x p e;subst e;rcases ac8.1 p with h|h
     ·have:=H.2.2 x h x (by simp);omega
     ·have:=(amB.1 H.2.1).1 x h;omega
    simp only[aeu,ajU]at hk⊢;constructor
    ·intro h;have rD:=Gs k h;have:=hk.1 (by simp only[ac8,aeB]at h⊢;rcases h with h|h;exact .inl h;exact .inr (.inr h));rw[acz (λe=>rD e.symm)];exact this
    ·rintro⟨J,A⟩;by_cases xE:i=k
     ·subst xE;rw[acE rfl,acE (by omega)]at A;simp at A
     ·rw[acz xE]at A;have:=hk.2 ⟨J,A⟩;simp only[ac8,aeB]at this⊢;rcases this with h|h|h
      ·exact .inl h
      ·exact absurd h.symm xE
      ·exact .inr h
   have nm: (m++q).Pairwise (· < ·):=al5.2 ⟨H.1,(amB.1 H.2.1).2,λx p y hy=>H.2.2 x p y (by simp[hy])⟩;have U: ∀j o,ops[j]?=some o->(listed.setIfInBounds i true).getD j true=true-> ∀a∈ki o,(listed.setIfInBounds i true).getD a true=true:=by
    intro j o' u hj a ha;have key:listed.getD a true=true->(listed.setIfInBounds i true).getD a true=true:=by
     intro h;simp only[aeu,ajU]at h⊢;split
     ·split<;>rfl
     ·exact h
    apply key;by_cases Cw:i=j
    ·subst Cw;rw[ho]at u;cases u;exact zW _ ho a ha
    ·refine ov j o' u ?_ a ha;simp only[aeu,ajU]at hj⊢;rw[acz Cw]at hj;exact hj
   have pV: (m++q).length<fuel:=by simp at hf⊢;omega
   have R: ∀j,f<=j->j<ops.size->(listed.setIfInBounds i true).getD j true=false:=by
    intro j J A;have:=zR j J A;simp only[aeu,ajU]at this⊢;rw[acz (by omega)];exact this
   have Mo:i∉m++q:=λhm=>by
    rcases ac8.1 hm with h|h
    ·have:=H.2.2 i h i (by simp);omega
    ·have:=(amB.1 H.2.1).1 i h;omega
   have N: ∀k∈m++q,∀b,al k=some b->sl k<G.n/\G.pz (sl k)=some b:=λk hk b V=>ox k (by
    simp only[ac8,aeB]at hk⊢;rcases hk with h|h
    ·exact .inl h
    ·exact .inr (.inr h)) b V
   rcases zV i o ho with⟨pY,p⟩| ⟨z,tg,g,d,pY,p,xF⟩
   ·have ir:guardOf ops o=some (xs i).g:=by
      unfold im at p;split at p
      ·rename_i A;have:=ahJ p;rw[<-this];exact A
      ·cases p
    have T: (xs i).dst=o.dst:=by
     unfold im at p;split at p
     ·have:=ahJ p;rw[<-this]
     ·cases p
    have sZ:=xx he ir;simp only[wpOpsIn,ho];rw[sZ];rcases s with⟨J,v,xG,A,_,h4⟩| ⟨J,_,h4⟩
    ·rw[acE J];refine xy hC hg p (hd i Z) hw he hm A (λCx nq e G' a' w' q1 q2 q3 q4 q5=>?_) (λCx nq e=>by cases e);cases e;exact ih _ _ (m++q) G' xG E' w' _ D a' Q O (by simpa using rq) R nm U pV h4 CD K (Gh.le_trans hle q1) (I.trans q3) (λk hk b V=>by
      obtain⟨p1,p2⟩:=N k hk b V;exact⟨af2 p1 q1.n,by rw[q1.pz _ p1];exact p2⟩) q2 q4 q5 hQ
    ·rw[acz (by rw[J];simp)];refine⟨λ_ _=>trivial,?_⟩;obtain⟨p1,p2,p3⟩:=pU (a:=a) he (hd i Z) (v:=.undef) (v':=undef) xw;rw[<-T];exact ih _ _ (m++q) G E E' w _ D _ Q O (by simpa using rq) R nm U pV h4 CD K hle I N hw p1 (by rw[p2,p3];exact hm) hQ
   ·rw[xF]at s;have xH: ∀d',d=some d'->d'<nt:=λd' zX=>hd i Z d' (by rw[xF];exact zX)
    have Cy:kg P rows o=some (.alloc z tg)/\guardOf ops o=some g/\o.dst=d:=by
     unfold im at p;split at p
     ·rename_i i' g' A h3;simp only[acy,aP.mk.injEq]at p;obtain⟨rfl,rfl,rfl⟩:=p;exact⟨A,h3,rfl⟩
     ·cases p
    obtain⟨Mp,ir,T⟩:=Cy;have sZ:=xx he ir;simp only[wpOpsIn,ho];rw[sZ];rcases s with⟨J,v,xG,A,_,h4⟩| ⟨J,_,h4⟩
    ·rw[acE J];simp only[exec,ao.get,acy,Out.ok.injEq]at A;obtain⟨rfl,rfl⟩:=A;obtain⟨p1,p2⟩:=ox i (by simp) _ pY;obtain⟨t,oy,Mr,rfl⟩: ∃t,o.op= .alloc t/\gL P t=some z/\tg=rl z t:=Gr Mp;obtain⟨w',e1,e2,e3⟩:=hw.real p1 p2 Mr;refine⟨λ_ _=>trivial,?_⟩;have Cz:o.semAt (W r).round a.eval=execOp a.eval o:=by
      apply Oper.semAt_eq;intro c e;rw[oy]at e;cases e
     have CA: (execOp a.eval o).run P w= .ok (.value (.pointer (some ⟨w.heap.size,0,none⟩))) w':=by
      unfold execOp;simp only[oy];rw[Sem.run_bind,e1];rfl
     rw[Cz,CA];simp only[Oper.uponIn];have CB:=Gh.Gp (b:=w.heap.size) p2;obtain⟨r1,r2,r3⟩:=pU (a:=a) (dst:=d) (he.dt CB) xH e3;rw[T];exact ih _ _ (m++q) _ E E' w' _ D _ Q O (by simpa using rq) R nm U pV h4 CD K (Gh.Vw hle p2 (vx i _ pY)) I (λk hk b V=>by
      obtain⟨p3,p4⟩:=N k hk b V;refine⟨p3,?_⟩;have rD:sl k≠sl i:=λe=>Mo (by rw[Mi i k _ _ pY V e.symm];exact hk)
      simp only[Gh.real];rw[acz rD];exact p4) e2 r1 (by rw[r2,r3];exact hm.dt CB) hQ
    ·rw[acz (by rw[J];simp)];refine⟨λ_ _=>trivial,?_⟩;obtain⟨p1,p2,p3⟩:=pU (a:=a) (dst:=d) he xH (v:=.undef) (v':=undef) xw;rw[T];exact ih _ _ (m++q) G E E' w _ D _ Q O (by simpa using rq) R nm U pV h4 CD K hle I N hw p1 (by rw[p2,p3];exact hm) hQ
end
end
section
variable{P:Program}{X:Ctx}{B:Nat}{ax:World}{cW:List Deferred}
def CF{x:aP}{b:ae}(h:x.fz=some b): ∃z tg,x.i= .alloc z tg/\b= .box z tg:=by
 unfold aP.fz at h
 grind
def zY{x:aP}(h:x.fz=none):k7 m x=x:=by unfold k7;rw[h]
def zZ{x:aP}{b:ae}(h:x.fz=some b):k7 m x={x with i:=.mov (.c (.ptr m 0))}:=by unfold k7;rw[h]
def Gv{x:aP}: (k7 m x).dst=x.dst:=by
 cases h:x.fz with
 |none=>rw[zY h]
 |some b=>rw[zZ h]
def Vy{x:aP}: (k7 m x).reads=x.reads:=by
 cases h:x.fz with
 |none=>rw[zY h]
 |some b=>
  rw[zZ h];obtain⟨z,tg,a,_⟩:=CF h;unfold aP.reads;rw[a];rfl
theorem CG: ∀ (ys:List (aP×lN)) (n q:Nat),(gS n ys)[q]?=(ys[q]?).map λy=>(k7 (n+(ds (ys.take q)).length) y.1,y.2)
 | [],n,q=>by rfl
 |o::os,n,0=>by rfl
 |o::os,n,q+1=>by
  simp only[gS,avO,aoo];rw[CG os];cases h:o.1.fz with
  |none=>simp[ds,h]
  |some b=>
   simp only[ds,h,aep]
   grind
theorem Mv: ∀ (ys:List (aP×lN)) (n:Nat),(gS n ys).length=ys.length
 | [],_=>rfl
 |o::os,n=>by simp[gS,Mv os]
theorem Mw: ∀ (ys:List (aP×lN)) (q:Nat) (y:aP×lN) (b:ae),ys[q]?=some y->y.1.fz=some b->(ds ys)[(ds (ys.take q)).length]?=some b
 | [],q,y,b,h,_=>by grind
 |o::os,0,y,b,h,a=>by
  simp at h;subst h;simp[ds,a]
 |o::os,q+1,y,b,h,a=>by
  have c:=Mw os q y b (by grind) a;simp only[aoo,ds]
  grind
theorem CH: ∀ (ys:List (aP×lN)) (i j:Nat) (y:aP×lN) (b:ae),ys[i]?=some y->y.1.fz=some b->i<j->(ds (ys.take i)).length< (ds (ys.take j)).length
 | [],i,j,y,b,h,_,_=>by grind
 |o::os,0,j+1,y,b,h,a,_=>by
  simp at h;subst h;simp[ds,a]
 |o::os,i+1,j+1,y,b,h,a,c=>by
  have d:=CH os i j y b (by grind) a (by omega);simp only[aoo,ds]
  grind
 |o::os,_,0,y,b,h,a,c=>by omega
theorem Gw: ∀ (ys:List (aP×lN)) (b:ae),b∈ds ys-> ∃y∈ys,y.1.fz=some b
 | [],b,h=>by trivial
 |o::os,b,h=>by
  simp only[ds]at h;cases ho:o.1.fz with
  |none=>
   rw[ho]at h;obtain⟨y,c,a⟩:=Gw os b h
   grind
  |some d=>
   rw[ho]at h;rcases aeB.1 h with rfl|h
   ·grind
   ·obtain⟨y,c,a⟩:=Gw os b h
    grind
def Mx(hg:fk X B ax):zS P X B ax:=by
 intro cW C hC rows r n nt id ops u ys zV hd O G E w fr a res Q hw he hm hr hQ;obtain⟨My,Z⟩:=Vs zV;have Vz:u.length=ops.size:=by omega
 unfold LD at O;simp only at O;split at O
 ·rename_i VA;simp only[afJ]at VA;obtain⟨⟨⟨⟨VB,VC⟩,VD⟩,VE⟩,Y⟩:=VA;simp only[acy]at O
  let g:Nat->aP:=λi=>u.getD i default
  have s: ∀i,i<u.length->u[i]?=some (g i):=λi H=>by
   simp only[g,aer,acJ H,ahL]
  have CI: ∀i,¬i<u.length->(g i).fz=none:=λi H=>by
   simp only[g,aer,ajP (Nat.le_of_not_lt H),avR];rfl
  let sl:Nat->Nat:=λi=>E.heap.length+(ds (ys.take i)).length
  let xs:Nat->aP:=λi=>k7 (sl i) (g i)
  have Gx:ys.length=u.length:=by rw[<-O];simp
  have I: ∀q y,ys[q]?=some y->y.1=g q:=by
   intro q y S;rw[<-O]at S;simp only[aeA,axi,aeh]at S;obtain⟨p,⟨z,hz,rfl⟩,rfl⟩:=S;have K:q<u.length:=(abQ.1 hz).1;have:=s q K;rw[hz]at this;simpa using this
  have z0: ∀q,q<u.length-> ∃L,ys[q]?=some (g q,L):=λq S=>by
   have:q<ys.length:=by omega
   refine⟨(ys[q]).2,?_⟩;have e:=acJ this;rw[e];have:=I q _ e;rw[<-this]
  by_cases hn:res.1= .normal
  ·obtain⟨F,f1,f2,f3,f4⟩:=Mf (xs:=xs) (gS E.heap.length ys) [] fr _ res (λq y S=>by
     rw[CG]at S;obtain⟨y',R,rfl⟩:=aeh.1 S;have:=I q y' R;simp only[alQ,ajg,xs,sl,<-this]) hr hn
   have Mz: (List.range (gS E.heap.length ys).length).map (([]:List FP).length+ ·)=List.range ops.size:=by
    rw[Mv,Gx,Vz];simp
   rw[Mz]at f3;obtain⟨ex,Gg,E'⟩:=res;simp only at f2 f3;subst f2;have V: ∀i o,ops[i]?=some o-> ∀a∈ki o,a<i:=by
    intro i o ho a ha;have H:i<ops.size:=(akF.1 ho).1;have:=aes.1 VE i (by simp;omega);rw[ho]at this;simpa using aes.1 this a ha
   have T: ∀i j,i<j->j<ops.size->i∉gM ops 64 j->jN (xs i) (xs j)=true/\ (F i).ok (F j)=true:=by
    intro i j A D c;have H:i<ops.size:=by omega
    have hb: (((List.range u.length).map λi=>(gM ops 64 i).eraseDups).getD j []).contains i=false:=by
     simp only[aer,aeA,an8 (show j<u.length by omega),aei,ahL];cases h: (gM ops 64 j).eraseDups.contains i with
     |false=>rfl
     |true=>
      rw[aru,List.mem_eraseDups]at h;exact absurd h c
    have R:=aes.1 Y (g i,i) (by rw[alP];exact s i (by omega));have W:=aes.1 R (g j,j) (by rw[alP];exact s j (by omega));simp only[ge_iff_le,anX,aje]at W;refine⟨?_,?_⟩
    ·have rE:jN (xs i) (xs j)=jN (g i) (g j):=by
       unfold jN;simp only[xs,Gv,Vy]
     rw[rE];rcases W with(h|h)|h
     ·omega
     ·rw[hb]at h;cases h
     ·exact h
    ·by_cases ci: (xs i).i.cls=0
     ·rw[xC ci _ _ _ _ _ (by simp;omega) f3];exact Vq _
     ·by_cases cj: (xs j).i.cls=0
      ·rw[xC cj _ _ _ _ _ (by simp;omega) f3];exact Vr _
      ·have same: ∀k,(xs k).i.cls≠0->xs k=g k:=by
         intro k hk;cases v: (g k).fz with
         |none=>exact zY v
         |some b=>exact absurd (by show(k7 (sl k) (g k)).i.cls=0;rw[zZ v];rfl) hk
       have ei:=same i ci;have ej:=same j cj;have MA:ys[j]?=some (g j,rm u.zipIdx ((List.range u.length).map λi=>(gM ops 64 i).eraseDups) (g j) j):=by
        rw[<-O];simp only[aeA,axi,s j (by omega),aei,ajg]
       have N: (gS E.heap.length ys)[j]?=some (xs j,rm u.zipIdx ((List.range u.length).map λi=>(gM ops 64 i).eraseDups) (g j) j):=by
        rw[CG,MA];rfl
       have:=f4 j _ N i (by
        rw[ej]at cj;rw[ei]at ci;exact LC (x:=g i) (by rw[alP];exact s i (by omega)) A ci cj hb) (by simpa using A)
       simpa using this
   refine wpIn_region_draw (λt=>?_);have J: ∃md ord t',Region.schedule (P.follows .mixedOrders) ops t=Region.linearise md ops t'/\sS md ops ord=true:=by
    unfold Region.schedule;split
    ·exact⟨.any,_,t,rfl,VB⟩
    ·split
     ·exact⟨.text,_,_,rfl,VC⟩
     ·exact⟨.gc,_,_,rfl,VD⟩
   obtain⟨md,ord,t',J,xI⟩:=J;rw[J];unfold Region.linearise;have MC: ∀o∈ds ys,∃z tg,o= .box z tg/\aI z=0:=by
    intro o ho;obtain⟨y,R,W⟩:=Gw ys o ho;obtain⟨z,tg,M,rfl⟩:=CF W;refine⟨z,tg,rfl,?_⟩;obtain⟨q,S⟩:=atj R;have K:q<ops.size:=by
     have:=(abQ.1 S).1;omega
    obtain⟨x,e1,e2⟩:=Z q ops[q] (by simp[K]);have e3:=s q (by omega);rw[e1]at e3;rw[I q y S]at M;rw[ahJ e3]at e2;have:kg P rows ops[q]=some (.alloc z tg):=by
     unfold im at e2;split at e2
     ·rename_i i' g' h4 h5;rw[<-ahJ e2]at M;simp only at M;rw[h4,M]
     ·cases e2
    obtain⟨t,_,hc,_⟩:=Gr this;obtain⟨z',_,_,l,_⟩:=rp hc (Gh.mk (λ_ _=>none) 0 (λi=>i) (λi=>i) (λi=>i) (λi=>i) (λi=>i) (λ_=>none)) w;have:=aG.refs _ _ l;simpa using this
   refine go_sound hC hg (xs:=xs) (F:=F) (rows:=rows) (nt:=nt) md xI sl (λi=>(g i).fz) (λi o ho=>?_) (λi j bi bj H D A=>?_) (fP:=G) (cn:=E) (λi b H=>?_) (λi H d sY=>hd (g i) (ajY (s i (by omega))) d (by rw[<-Gv (m:=sl i)];exact sY)) V T ops.size t' _ (List.range ops.size) (G.later (ds ys)) (E.lK (ds ys)) E' _ fr Gg a Q
    (λi=>?_) (by simp) List.pairwise_lt_range (λj o ho D=>?_) (by simp) f3 (G.xD _) (.lK E _) (λi H b hb=>?_) (hw.later MC).drew (he.mono (G.xD _)) (hm.mono (G.xD _)) hQ
   ·obtain⟨x,R,W⟩:=Z i o (by simpa using ho);have M:=s i (abQ.1 R).1;rw[R]at M;have M:=ahJ M;subst M;cases v: (g i).fz with
    |none=>exact .inl ⟨rfl,by rw[W];show _=some (k7 (sl i) (g i));rw[zY v]⟩
    |some b=>
     obtain⟨z,tg,h4,rfl⟩:=CF v;refine .inr ⟨z,tg,(g i).g,(g i).dst,rfl,?_,?_⟩
     ·rw[W,<-h4]
     ·show k7 (sl i) (g i)=_;rw[zZ v]
   ·have MD:i<u.length:=by
      by_cases h:i<u.length
      ·exact h
      ·have:=CI i h;rw[this]at H;cases H
    have ME:j<u.length:=by
     by_cases h:j<u.length
     ·exact h
     ·have:=CI j h;rw[this]at D;cases D
    obtain⟨Li,ei⟩:=z0 i MD;obtain⟨Lj,ej⟩:=z0 j ME;have amW: (ds (ys.take i)).length=(ds (ys.take j)).length:=by
     have:E.heap.length+(ds (ys.take i)).length=E.heap.length+(ds (ys.take j)).length:=A;omega
    rcases axA i j with h|h|h
    ·have:=CH ys i j _ bi ei H h;omega
    ·exact h
    ·have:=CH ys j i _ bj ej D h;omega
   ·show G.n<=E.heap.length+_;rw[hw.len];omega
   ·simp only[ame,aeu,avI];constructor
    ·intro h;exact⟨h,by simp[h]⟩
    ·exactλh=>h.1
   ·exfalso;have K:j<ops.size:=(akF.1 ho).1;simp[aeu,K]at D
   ·have K:i<ops.size:=by simpa using H
    obtain⟨L,e⟩:=z0 i (by omega);have CJ:=Mw ys i _ b e hb;have z5:=(abQ.1 CJ).1;have hn:=hw.len;refine⟨by show E.heap.length+_<G.n+_;omega,?_⟩;show(if E.heap.length+_<G.n then _ else _)=some b;rw[acz (by omega),hn,ajJ];exact CJ
  ·obtain⟨F,f,F6,xG,ayH,f1,q1,f2,f3,f5,f6,f4,f8,f9,f10,f11⟩:=Vp (xs:=xs) (gS E.heap.length ys) [] fr _ res (λq y S=>by
     rw[CG]at S;obtain⟨y',R,rfl⟩:=aeh.1 S;have:=I q y' R;simp only[alQ,ajg,xs,sl,<-this]) hr hn
   have Mz: (List.range f).map (([]:List FP).length+ ·)=List.range f:=by simp
   rw[Mz]at f3;obtain⟨ex,Gg,E'⟩:=res;simp only[alQ,ajg]at f2 f3 f5 f6 f10 f11;subst f2;have U:f<ops.size:=by
    have:=(abQ.1 q1).1;rw[Mv,Gx,Vz]at this;exact this
   have V: ∀i o,ops[i]?=some o-> ∀a∈ki o,a<i:=by
    intro i o ho a ha;have H:i<ops.size:=(akF.1 ho).1;have:=aes.1 VE i (by simp;omega);rw[ho]at this;simpa using aes.1 this a ha
   have MF: ∀i j,j<ops.size->i∉gM ops 64 j->(((List.range u.length).map λi=>(gM ops 64 i).eraseDups).getD j []).contains i=false:=by
    intro i j D c;simp only[aer,aeA,an8 (show j<u.length by omega),aei,ahL];cases h: (gM ops 64 j).eraseDups.contains i with
    |false=>rfl
    |true=>
     rw[aru,List.mem_eraseDups]at h;exact absurd h c
   have rE: ∀i j,i<j->j<ops.size->i∉gM ops 64 j->jN (xs i) (xs j)=true:=by
    intro i j A D c;have hb:=MF i j D c;have R:=aes.1 Y (g i,i) (by rw[alP];exact s i (by omega));have W:=aes.1 R (g j,j) (by rw[alP];exact s j (by omega));simp only[ge_iff_le,anX,aje]at W;have rE:jN (xs i) (xs j)=jN (g i) (g j):=by
     unfold jN;simp only[xs,Gv,Vy]
    rw[rE];rcases W with(h|h)|h
    ·omega
    ·rw[hb]at h;cases h
    ·exact h
   have same: ∀k,(xs k).i.cls≠0->xs k=g k:=by
    intro k hk;cases v: (g k).fz with
    |none=>exact zY v
    |some b=>exact absurd (by show(k7 (sl k) (g k)).i.cls=0;rw[zZ v];rfl) hk
   have N: ∀j,j<ops.size->(gS E.heap.length ys)[j]?=some (xs j,rm u.zipIdx ((List.range u.length).map λi=>(gM ops 64 i).eraseDups) (g j) j):=by
    intro j D;have MA:ys[j]?=some (g j,rm u.zipIdx ((List.range u.length).map λi=>(gM ops 64 i).eraseDups) (g j) j):=by
     rw[<-O];simp only[aeA,axi,s j (by omega),aei,ajg]
    rw[CG,MA];rfl
   have MG: ∀i j,i<j->j<ops.size->i∉gM ops 64 j->(xs i).i.cls≠0->(xs j).i.cls≠0->i∈rm u.zipIdx ((List.range u.length).map λi=>(gM ops 64 i).eraseDups) (g j) j:=by
    intro i j A D c ci cj;have hb:=MF i j D c;rw[same i ci]at ci;rw[same j cj]at cj;exact LC (x:=g i) (by rw[alP];exact s i (by omega)) A ci cj hb
   have CK:=N f U;rw[q1]at CK;have CK:=ahJ CK;subst CK;have T: ∀i j,i<j->j<f->i∉gM ops 64 j->jN (xs i) (xs j)=true/\ (F i).ok (F j)=true:=by
    intro i j A D c;refine⟨rE i j A (by omega) c,?_⟩;by_cases ci: (xs i).i.cls=0
    ·rw[xC ci _ _ _ _ _ (by simp;omega) f3];exact Vq _
    ·by_cases cj: (xs j).i.cls=0
     ·rw[xC cj _ _ _ _ _ (by simp;omega) f3];exact Vr _
     ·have:=f4 j _ D (N j (by omega)) i (MG i j A (by omega) c ci cj) (by simpa using A);simpa using this
   have Ms: ∀i,i<f->i∈gM ops 64 f:=by
    intro i H;refine alO λc=>?_
    simp only at f8 f9 f10;rcases f10 with f10|f10
    ·rw[same f f9]at f10;exact akN (x:=g i) (by rw[alP];exact s i (by omega)) H f10 (MF i f U c) f8
    ·have ci: (xs i).i.cls≠0:=λci=>f10 i H (xC ci _ _ _ _ _ (by simp;omega) f3)
     have:=MG i f H U c ci f9;rw[f8]at this;cases this
   have Mt: ∀j,f<j->j<ops.size->f∈gM ops 64 j:=by
    intro j D MH;refine alO λc=>?_
    have xJ:=f11 j _ D (N j MH);simp only at xJ;split at xJ
    ·rw[rE f j D MH c]at xJ;cases xJ
    ·rename_i cj;exact xJ (MG f j D MH c f9 cj)
   refine wpIn_region_draw (λt=>?_);have J: ∃md ord t',Region.schedule (P.follows .mixedOrders) ops t=Region.linearise md ops t'/\sS md ops ord=true:=by
    unfold Region.schedule;split
    ·exact⟨.any,_,t,rfl,VB⟩
    ·split
     ·exact⟨.text,_,_,rfl,VC⟩
     ·exact⟨.gc,_,_,rfl,VD⟩
   obtain⟨md,ord,t',J,xI⟩:=J;rw[J];unfold Region.linearise;have MC: ∀o∈ds ys,∃z tg,o= .box z tg/\aI z=0:=by
    intro o ho;obtain⟨y,R,W⟩:=Gw ys o ho;obtain⟨z,tg,M,rfl⟩:=CF W;refine⟨z,tg,rfl,?_⟩;obtain⟨q,S⟩:=atj R;have K:q<ops.size:=by
     have:=(abQ.1 S).1;omega
    obtain⟨x,e1,e2⟩:=Z q ops[q] (by simp[K]);have e3:=s q (by omega);rw[e1]at e3;rw[I q y S]at M;rw[ahJ e3]at e2;have:kg P rows ops[q]=some (.alloc z tg):=by
     unfold im at e2;split at e2
     ·rename_i i' g' h4 h5;rw[<-ahJ e2]at M;simp only at M;rw[h4,M]
     ·cases e2
    obtain⟨t,_,hc,_⟩:=Gr this;obtain⟨z',_,_,l,_⟩:=rp hc (Gh.mk (λ_ _=>none) 0 (λi=>i) (λi=>i) (λi=>i) (λi=>i) (λi=>i) (λ_=>none)) w;have:=aG.refs _ _ l;simpa using this
   refine amU hC hg (xs:=xs) (F:=F) (rows:=rows) (nt:=nt) md xI sl (λi=>(g i).fz) (λi o ho=>?_) (λi j bi bj H D A=>?_) (fP:=G) (cn:=E) (λi b H=>?_) (λi H d sY=>hd (g i) (ajY (s i (by omega))) d (by rw[<-Gv (m:=sl i)];exact sY)) V U T Ms Mt ops.size t' _ (List.range f) (G.later (ds ys)) (E.lK (ds ys)) xG _ fr Gg a Q
    (λi=>?_) (by simp) (λj _ D=>by simp[D]) List.pairwise_lt_range (λj o ho D=>?_) (by simpa using U) f3 f5 f6 (G.xD _) (.lK E _) (λi H b hb=>?_) (hw.later MC).drew (he.mono (G.xD _)) (hm.mono (G.xD _)) hQ
   ·obtain⟨x,R,W⟩:=Z i o (by simpa using ho);have M:=s i (abQ.1 R).1;rw[R]at M;have M:=ahJ M;subst M;cases v: (g i).fz with
    |none=>exact .inl ⟨rfl,by rw[W];show _=some (k7 (sl i) (g i));rw[zY v]⟩
    |some b=>
     obtain⟨z,tg,h4,rfl⟩:=CF v;refine .inr ⟨z,tg,(g i).g,(g i).dst,rfl,?_,?_⟩
     ·rw[W,<-h4]
     ·show k7 (sl i) (g i)=_;rw[zZ v]
   ·have MD:i<u.length:=by
      by_cases h:i<u.length
      ·exact h
      ·have:=CI i h;rw[this]at H;cases H
    have ME:j<u.length:=by
     by_cases h:j<u.length
     ·exact h
     ·have:=CI j h;rw[this]at D;cases D
    obtain⟨Li,ei⟩:=z0 i MD;obtain⟨Lj,ej⟩:=z0 j ME;have amW: (ds (ys.take i)).length=(ds (ys.take j)).length:=by
     have:E.heap.length+(ds (ys.take i)).length=E.heap.length+(ds (ys.take j)).length:=A;omega
    rcases axA i j with h|h|h
    ·have:=CH ys i j _ bi ei H h;omega
    ·exact h
    ·have:=CH ys j i _ bj ej D h;omega
   ·show G.n<=E.heap.length+_;rw[hw.len];omega
   ·simp only[ame,aeu,avI];constructor
    ·intro h;exact⟨h,by simp[Nat.lt_trans h U]⟩
    ·exactλh=>h.1
   ·exfalso;have K:j<ops.size:=(akF.1 ho).1;simp[aeu,K]at D
   ·have K:i<ops.size:=Nat.lt_trans (by simpa using H) U;obtain⟨L,e⟩:=z0 i (by omega);have CJ:=Mw ys i _ b e hb;have z5:=(abQ.1 CJ).1;have hn:=hw.len;refine⟨by show E.heap.length+_<G.n+_;omega,?_⟩;show(if E.heap.length+_<G.n then _ else _)=some b;rw[acz (by omega),hn,ajJ];exact CJ
 grind
def amX(n:Nat):xz (iter n):=λ_ _ _ _ h=>⟨n,h⟩
theorem VF(a:fk X B ax)(b:ow P X)(c: ∀f p,X.bU f=some p->gg P B ax f p): ∀n,fI P B ax (il X n)
 |0=>by intro fv args E d h;simp[il]at h
 |n+1=>amH (VF a b c n) a b (Mx a) (amX n) c
end
section
variable{P:Program}{X:Ctx}{B:Nat}{ax:World}
def Gh.start(w:World):Gh where
 bu b o:=if b<w.heap.size then w.cell? ⟨b,o,none⟩else none
 n:=0
 ba:=id
 base:=id
 ai:=id
 dV:=id
 sz:=id
theorem aY.start(w:World):aY P w.heap.size w (Gh.start w) {heap:=[],lo:=none} w where
 len:=rfl
 bu b o v h:=by
  simp only[Gh.start]at h
  grind
 obj id o h:=by grind
 inj i j a:=absurd a.1 (amz _)
 sep i a:=absurd a.1 (amz _)
 low i a:=absurd a.1 (amz _)
 lb i o a:=absurd a (amz _)
 la:=⟨rfl,rfl,rfl,aeg _,λ_ _=>rfl⟩
 hB:=aeg _
 dD b o v c h:=by simp only[Gh.start];grind
end
section
variable{P:Program}{X:Ctx}{B:Nat}{ax:World}
def bw.le(C a:bw):Prop:= ∀f args E r,C f args E=some r->a f args E=some r
def pZ(b a:Fr->AS->iW):Prop:= ∀fr E r,b fr E=some r->a fr E=some r
def ef.le(L c:ef):Prop:= ∀b a,pZ b a->pZ (L b) (c a)
theorem z6{C c:bw}(b:bw.le C c)(i:I)(e:Env)(E:AS)(r:Out)(h:exec X C i e E=some r):exec X c i e E=some r:=by
 cases i with
 |call f args=>
  simp only[exec]at h⊢;split at h
  ·rename_i a;rw[b _ _ _ _ a];exact h
  ·rename_i a;rw[b _ _ _ _ a];exact h
  grind
 |_=>simpa only[exec]using h
theorem Gy{C b:bw}(a:bw.le C b): ∀ (os:List aP),pZ (eH X C os) (eH X b os)
 | [],_,_,_,h=>by trivial
 |o::os,fr,E,r,h=>by
  simp only[eH]at h⊢;split at h
  ·rename_i hw;rw[acE hw];split at h
   ·rename_i c;rw[z6 a _ _ _ _ c];exact Gy a os _ _ _ h
   ·grind [z6]
   grind
  ·rename_i hw;rw[acz hw];exact Gy a os _ _ _ h
theorem Gz{C c:bw}(b:bw.le C c): ∀ (os:List (aP×lN)) (a:List FP),pZ (gb X C a os) (gb X c a os)
 | [],_,_,_,_,h=>by trivial
 |o::os,a,fr,E,r,h=>by
  simp only[gb]at h⊢;split at h
  ·rename_i hw;rw[acE hw];split at h
   ·rename_i d;rw[z6 b _ _ _ _ d];simp only;split at h
    ·rename_i e;rw[acE e];exact Gz b os _ _ _ _ h
    grind
   ·grind [z6]
   grind
  ·rename_i hw;rw[acz hw];exact Gz b os _ _ _ _ h
theorem p7{C n:bw}{L m:ef}(d:bw.le C n)(e:ef.le L m)(bN:FuncId)(rd:Bool): ∀l,pZ (bc X C L bN rd l) (bc X n m bN rd l)
 |.skip,_,_,_,h=>by trivial
 |.seq a b,fr,E,r,h=>by
  simp only[bc]at h⊢;split at h
  ·rename_i f;rw[p7 d e bN rd a _ _ _ f];exact p7 d e bN rd b _ _ _ h
  ·cases i:bc X C L bN rd a fr E with
   |none=>grind
   |some q=>
    rw[p7 d e bN rd a _ _ _ i]
    grind
 |.cond c a b,fr,E,r,h=>by
  simp only[bc]at h⊢;split at h
  ·rename_i t p;split at h
   ·rename_i j;rw[acE j];exact p7 d e bN rd a _ _ _ h
   ·rename_i j;rw[acz j];exact p7 d e bN rd b _ _ _ h
  omega
 |.block id body,fr,E,r,h=>by
  simp only[bc]at h⊢;cases i:bc X C L bN rd body fr E with
  |none=>rw[i]at h;cases h
  |some q=>rw[p7 d e bN rd body _ _ _ i];rw[i]at h;exact h
 |.loop body,fr,E,r,h=>by
  simp only[bc]at h⊢;exact e _ _ (p7 d e bN rd body) _ _ _ h
 |.exit id,_,_,_,h=>by simpa only[bc]using h
 |.ret,_,_,_,h=>by simpa only[bc]using h
 |.aN ops,fr,E,r,h=>by
  simp only[bc]at h⊢;exact Gy d ops _ _ _ h
 |.sM ops,fr,E,r,h=>by
  simp only[bc]at h⊢;exact Gz d _ _ _ _ _ h
 |.gR g ps as bd,fr,E,r,h=>by
  simp only[bc]at h⊢;split at h
  ·cases h
  ·rename_i k;rw[acz k];split at h
   ·rename_i o;rw[acE o];split at h
    ·rename_i f;rw[d _ _ _ _ f];exact h
    ·rename_i f;rw[d _ _ _ _ f];exact h
    ·cases h
   ·cases h
theorem amY{C o:bw}{L n:ef}(m:bw.le C o)(k:ef.le L n)(l:Nat)(args:lA)(E:AS)(r:aT)(h:k9 X C L l args E=some r):k9 X o n l args E=some r:=by
 simp only[k9]at h⊢;split at h
 ·rename_i st i f env ps as bd u;split at h
  ·rename_i a;simp only[a,aeE];split at h
   ·rename_i fr d p;rw[p7 m k _ _ _ _ _ _ p];simp only;split at h
    ·rename_i b t c e g iH s;cases j:bc X C L f true bd fr (d.set l (.loop .busy b t c e g iH) 0)with
     |none=>rw[j]at h;cases h
     |some q=>rw[p7 m k _ _ _ _ _ _ j];grind
    omega
   grind
  grind
 omega
def VG{C c:bw}{L b:ef}(e:bw.le C c)(d:ef.le L b):bw.le (step X C L) (step X c b):=by
 intro v args E r h;unfold step at h⊢;split at h
 ·rename_i f first cap
  split at h
  ·omega
  ·split at h
   ·rename_i pf g;split at h
    ·cases a:bc X C L f false pf.body {env:=c9 (first++args++cap),marks:=[]} {E with lo:=none}with
     |none=>rw[a]at h;cases h
     |some q=>rw[p7 e d _ _ _ _ _ _ a];grind
    grind
   omega
 ·grind [amY]
 omega
theorem MI: ∀n,ef.le (iter n) (iter (n+1))
 |0,b,c,a,fr,E,r,h=>by trivial
 |n+1,b,c,a,fr,E,r,h=>by
  rw[iter]at h⊢;split at h
  ·rename_i d;rw[a _ _ _ d];exact MI n b c a _ _ _ h
  ·rw[a _ _ _ h]
   grind
theorem VH: ∀n,bw.le (il X n) (il X (n+1))
 |0=>λf args E r h=>by trivial
 |n+1=>by
  exact VG (VH n) (MI n)
def bw.le_trans{A B C:bw}(h:bw.le A B)(k:bw.le B C):bw.le A C:=λf a s r e=>k f a s r (h f a s r e)
def xK(h:n<=m):bw.le (il X n) (il X m):=by
 induction h with
 |refl=>exactλf a s r e=>e
 |step _ b=>exact bw.le_trans b (VH _)
def MJ(h:n<=m)(b:Fr->AS->iW):pZ (iter n b) (iter m b):=by
 induction h with
 |refl=>exactλfr s r e=>e
 |step _ a=>exactλfr s r e=>MI _ b b (λ_ _ _ h=>h) _ _ _ (a fr s r e)
theorem GA: ∀n (b a:Fr->AS->iW),pZ b a->pZ (iter n b) (iter n a)
 |0,_,_,_=>λfr E r h=>by trivial
 |n+1,b,a,c=>λfr E r h=>by
  rw[iter]at h⊢;split at h
  ·rename_i d;rw[c _ _ _ d];exact GA n b a c _ _ _ h
  ·rw[c _ _ _ h]
   grind
def VI(h:n<=m):ef.le (iter n) (iter m):=by
 intro b a c fr s r e;exact MJ h a _ _ _ (GA n b a c _ _ _ e)
noncomputable def D(X:Ctx):bw:=λf args E=>
 open Classical in if h: ∃r,∃n,il X n f args E=some r then some h.choose else none
noncomputable def Lw:ef:=λb fr E=>
 open Classical in if h: ∃r,∃n,iter n b fr E=some r then some h.choose else none
def MK:bw.le (il X n) (D X):=by
 intro f args E r h;have a: ∃r,∃n,il X n f args E=some r:=⟨r,n,h⟩;unfold D;obtain⟨m,hm⟩:=a.choose_spec;have c:=xK (aoM n m) _ _ _ _ h;have b:=xK (aoD n m) _ _ _ _ hm
 grind
theorem xL{f:AV}{args:lA}{E:AS}{r:aT}(h:D X f args E=some r): ∃n,il X n f args E=some r:=by
 unfold D at h;split at h
 ·grind
 grind
def MM{b:Fr->AS->iW}:pZ (iter n b) (Lw b):=by
 intro fr E r h;have a: ∃r,∃n,iter n b fr E=some r:=⟨r,n,h⟩;unfold Lw;obtain⟨m,hm⟩:=a.choose_spec;have d:=MJ (aoM n m) b _ _ _ h;have c:=MJ (aoD n m) b _ _ _ hm
 grind
def CM{b:Fr->AS->iW}{a:Fr}{E:AS}{r:Ex×Fr×AS}(h:Lw b a E=some r): ∃n,iter n b a E=some r:=by
 unfold Lw at h;split at h
 ·grind
 grind
theorem amZ(b:Fr->AS->iW)(e:Fr)(E:AS):Lw b e E=match b e E with
  |some (.normal,c,h)=>Lw b c h
  |r=>r:=by
 split
 ·rename_i c h d;cases g:Lw b c h with
  |none=>
   cases f:Lw b e E with
   |none=>rfl
   |some r=>
    obtain⟨n,a⟩:=CM f;cases n with
    |zero=>trivial
    |succ n=>rw[iter,d]at a;rw[MM _ _ _ a]at g;cases g
  |some r=>
   obtain⟨n,a⟩:=CM g;exact MM (n:=n+1) _ _ _ (by rw[iter,d];exact a)
 ·cases d:b e E with
  |none=>
   cases f:Lw b e E with
   |none=>rfl
   |some r=>
    obtain⟨n,a⟩:=CM f;cases n with
    |zero=>trivial
    |succ n=>rw[iter,d]at a;cases a
  |some q=>
   refine MM (n:=1) _ _ _ ?_;rw[iter,d]
   grind
theorem GB{i:I}{E:AS}{r:Out}(h:exec X (D X) i e E=some r): ∃n,exec X (il X n) i e E=some r:=by
 cases i with
 |call f args=>
  simp only[exec]at h⊢;split at h
  ·grind [xL]
  ·rename_i b;obtain⟨n,a⟩:=xL b;exact⟨n,by rw[a];exact h⟩
  grind
 |_=>exact⟨0,by simpa only[exec]using h⟩
theorem MN: ∀ (os:List aP) (fr:Fr) (E:AS) (r:Ex×Fr×AS),eH X (D X) os fr E=some r-> ∃n,eH X (il X n) os fr E=some r
 | [],_,_,_,h=>⟨0,by trivial⟩
 |o::os,fr,E,r,h=>by
  simp only[eH]at h⊢;split at h
  ·rename_i hw;simp only[hw,aeE];split at h
   ·rename_i a;obtain⟨n,b⟩:=GB a;obtain⟨m,hm⟩:=MN os _ _ _ h;refine⟨max n m,?_⟩;rw[z6 (xK (aoM n m)) _ _ _ _ b];exact Gy (xK (aoD n m)) _ _ _ _ hm
   ·grind [GB]
   grind
  ·obtain⟨m,hm⟩:=MN os _ _ _ h
   grind
theorem MO: ∀ (os:List (aP×lN)) (a:List FP) (fr:Fr) (E:AS) (r:Ex×Fr×AS),gb X (D X) a os fr E=some r-> ∃n,gb X (il X n) a os fr E=some r
 | [],_,_,_,_,h=>⟨0,by trivial⟩
 |o::os,a,fr,E,r,h=>by
  simp only[gb]at h⊢;split at h
  ·rename_i hw;simp only[hw,aeE];split at h
   ·rename_i b;obtain⟨n,c⟩:=GB b;split at h
    ·rename_i d;obtain⟨m,hm⟩:=MO os _ _ _ _ h;refine⟨max n m,?_⟩;rw[z6 (xK (aoM n m)) _ _ _ _ c];simp only;rw[acE d];exact Gz (xK (aoD n m)) _ _ _ _ _ hm
    grind
   ·rename_i b;obtain⟨n,c⟩:=GB b
    grind
   grind
  ·obtain⟨m,hm⟩:=MO os _ _ _ _ h
   grind
def xM(h:n<=m)(bN:FuncId)(rd:Bool)(a:PC):pZ (bc X (il X n) (iter n) bN rd a) (bc X (il X m) (iter m) bN rd a):=
 p7 (xK h) (VI h) bN rd a
theorem p9(bN:FuncId)(rd:Bool): ∀ (o:PC) (fr:Fr) (E:AS) (r:Ex×Fr×AS),bc X (D X) Lw bN rd o fr E=some r-> ∃n,bc X (il X n) (iter n) bN rd o fr E=some r
 |.skip,_,_,_,h=>⟨0,by trivial⟩
 |.seq a b,fr,E,r,h=>by
  simp only[bc]at h;split at h
  ·rename_i e;obtain⟨n,d⟩:=p9 bN rd a _ _ _ e;obtain⟨m,hm⟩:=p9 bN rd b _ _ _ h;refine⟨max n m,?_⟩;simp only[bc];rw[xM (aoM n m) _ _ _ _ _ _ d];exact xM (aoD n m) _ _ _ _ _ _ hm
  ·rename_i e;obtain⟨n,d⟩:=p9 bN rd a _ _ _ h;refine⟨n,?_⟩;simp only[bc];rw[d];obtain⟨ex,l,w⟩:=r;cases ex with
   |normal=>exact absurd h (e _ _)
   |_=>rfl
 |.cond c a b,fr,E,r,h=>by
  simp only[bc]at h;split at h
  ·rename_i t s;split at h
   ·rename_i i;obtain⟨n,d⟩:=p9 bN rd a _ _ _ h;exact⟨n,by simp only[bc,s,i,aeE];exact d⟩
   ·rename_i i;obtain⟨n,d⟩:=p9 bN rd b _ _ _ h;exact⟨n,by simp only[bc,s,acz i];exact d⟩
  ·cases h
 |.block id body,fr,E,r,h=>by
  simp only[bc]at h;cases j:bc X (D X) Lw bN rd body fr E with
  |none=>rw[j]at h;cases h
  |some q=>
   obtain⟨n,d⟩:=p9 bN rd body _ _ _ j;refine⟨n,?_⟩;simp only[bc];rw[d];rw[j]at h;exact h
 |.loop body,fr,E,r,h=>by
  simp only[bc]at h;obtain⟨k,v⟩:=CM h;have key: ∀k fr,∀E,iter k (bc X (D X) Lw bN rd body) fr E=some r-> ∃n,iter n (bc X (il X n) (iter n) bN rd body) fr E=some r:=by
   intro k
   induction k with
   |zero=>intro fr E h;simp[iter]at h
   |succ k u=>
    intro fr E h;rw[iter]at h;split at h
    ·rename_i e;obtain⟨n,d⟩:=p9 bN rd body _ _ _ e;obtain⟨m,hm⟩:=u _ _ h;refine⟨max n m+1,?_⟩;rw[iter];rw[xM (show n<=max n m+1 by omega) _ _ _ _ _ _ d];exact VI (show m<=max n m by omega) _ _ (xM (show m<=max n m+1 by omega) _ _ _) _ _ _ hm
    ·rename_i e;obtain⟨n,d⟩:=p9 bN rd body _ _ _ h;refine⟨n+1,?_⟩;rw[iter,xM (Nat.le_succ n) _ _ _ _ _ _ d];obtain⟨ex,l,w⟩:=r;cases ex with
     |normal=>exact absurd h (e _ _)
     |_=>rfl
  obtain⟨n,d⟩:=key k fr E v;exact⟨n,by simp only[bc];exact d⟩
 |.exit id,_,_,_,h=>⟨0,by simpa only[bc]using h⟩
 |.ret,_,_,_,h=>⟨0,by simpa only[bc]using h⟩
 |.aN ops,fr,E,r,h=>by
  simp only[bc]at h;obtain⟨n,d⟩:=MN _ _ _ _ h;exact⟨n,by simp only[bc];exact d⟩
 |.sM ops,fr,E,r,h=>by
  simp only[bc]at h;obtain⟨n,d⟩:=MO _ _ _ _ _ h;exact⟨n,by simp only[bc];exact d⟩
 |.gR g ps as bd,fr,E,r,h=>by
  simp only[bc]at h;split at h
  ·cases h
  ·rename_i f;split at h
   ·rename_i p;split at h
    ·rename_i e;obtain⟨n,d⟩:=xL e;exact⟨n,by simp only[bc];rw[acz f,acE p,d];exact h⟩
    ·rename_i e;obtain⟨n,d⟩:=xL e;exact⟨n,by simp only[bc];rw[acz f,acE p,d];exact h⟩
    ·cases h
   ·cases h
def am0{args:lA}{E:AS}{r:aT}(h:k9 X (D X) Lw l args E=some r): ∃n,k9 X (il X n) (iter n) l args E=some r:=by
 simp only[k9]at h⊢;split at h
 ·rename_i st i f env ps as bd t;split at h
  ·rename_i d;split at h
   ·rename_i fr c k;obtain⟨n,o⟩:=p9 _ _ _ _ _ _ k;split at h
    ·rename_i a s b e g iH p;cases j:bc X (D X) Lw f true bd fr (c.set l (.loop .busy a s b e g iH) 0)with
     |none=>rw[j]at h;cases h
     |some q=>
      obtain⟨m,hm⟩:=p9 _ _ _ _ _ _ j;have e1:=xM (aoM n m) _ _ _ _ _ _ o;have u:=xM (aoD n m) _ _ _ _ _ _ hm
      grind
    grind
   grind
  grind
 grind
def GC{args:lA}{E:AS}{r:aT}(h:step X (D X) Lw v args E=some r):D X v args E=some r:=by
 have key: ∃n,step X (il X n) (iter n) v args E=some r:=by
  unfold step at h⊢;split at h
  ·rename_i f first cap
   split at h
   ·simp_all
   ·split at h
    ·rename_i pf c;split at h
     ·cases a:bc X (D X) Lw f false pf.body {env:=c9 (first++args++cap),marks:=[]} {E with lo:=none}with
      |none=>rw[a]at h;cases h
      |some q=>grind [p9]
     grind
    grind
  ·exact am0 h
  grind
 obtain⟨n,b⟩:=key;exact MK (n:=n+1) _ _ _ _ (by trivial)
def MQ(b:fk X B ax)(c:ow P X)(d: ∀f p,X.bU f=some p->gg P B ax f p):fI P B ax (D X):=by
 intro fv args E e h;obtain⟨n,a⟩:=xL h;exact VF b c d n fv args E e a
end
def GD:Value->Prop
 |.slice (some a) _ _=>a.spot=none
 |_=>True
section
variable{H:Type}{enc:TypeId×Value->H}{P:Program}{w:World}{sp:Nat->Bool}{held:Bool}
def MR(R:TypeId->DataW H->lA->Prop):List Field->List (DataW H)->lA->Prop
 | [],e,xs=>e=[]/\xs=[]
 |x::r,e,xs=> ∃d c a b,e=d::c/\xs=a++b/\R x.type d a/\MR R r c b
def gU(P:Program):Nat->TypeId->DataW H->lA->Prop
 |0,_,_,_=>False
 |f+1,t,d,xs=>match P.underlying t with
  |some .bool=> ∃b,d= .lit (.bool b)/\xs=[.bool b]
  |some (.int k)=> ∃n,d= .lit (.int k n)/\xs=[.int k n]/\ (Lit.int k n).wf=true
  |some .string=> ∃s:ByteArray,d= .lit (.string s.data.toList)/\xs=[.str s]/\s.size<=maxLen
  |some (.slice e)=>(d= .nil/\xs=[.an])\/ ∃ (es rest:List (DataW H)) (af:List lA),d= .slice es rest/\xs=[.sl af false]/\es.length=af.length/\af.length<=maxLen/\
    ∀ (i:Nat) (a:DataW H) (b:lA),es[i]?=some a->af[i]?=some b->b.length=P.cellsOf e/\gU P f e a b
  |some (.struct fs)=> ∃c,d= .agg c/\MR (gU P f) fs.toList c xs
  |some (.array n e)=> ∃ (c:List (DataW H)) (af:List lA),d= .agg c/\xs=af.flatten/\c.length=n/\af.length=n/\ ∀ (i:Nat) (a:DataW H) (b:lA),c[i]?=some a->af[i]?=some b->gU P f e a b
  |_=>False
def z7(P:Program)(g:TypeId->Bool):List Field->Nat->Nat->Bool
 | [],off,n=>off==n
 |x::r,off,n=>x.offset==off&&g x.type&&z7 P g r (off+P.cellsOf x.type) n
def z8(P:Program)(nest:Bool):Nat->TypeId->Bool
 |0,_=>false
 |f+1,t=>match P.underlying t with
  |some .bool=>true
  |some (.int _)=>true
  |some .string=>true
  |some (.slice e)=>nest&&z8 P nest f e
  |some (.struct fs)=>z7 P (z8 P nest f) fs.toList 0 (P.cellsOf t)
  |some (.array n e)=>z8 P nest f e&&P.cellsOf t==n*P.cellsOf e
  |_=>false
def VJ(w:World)(b o:Nat):Option Value:=if b<w.heap.size then w.cell? ⟨b,o,none⟩else none
def am1{b o:Nat}{v:Value}(h:w.cell? ⟨b,o,none⟩=some v):VJ w b o=some v:=by
 unfold VJ;rw[acE,h];unfold World.cell? at h
 grind
def VK{a:Addr}(h:a.spot=none)(n:Nat):a.add n=⟨a.block,a.off+n,none⟩:=by
 unfold Addr.add;split
 ·obtain⟨b,o,s⟩:=a;grind
 ·rfl
def am2{a:Addr}(e:a.spot=none){c:Nat}{cs:List Value}(h:w.cells? 0 (a.add k) c=some cs):cs.length=c/\ ∀ (j:Nat) (v:Value),cs[j]?=some v->w.cell? ⟨a.block,a.off+k+j,none⟩=some v:=by
 have b:=mapM_some_length h;rw[List.length_range]at b;refine⟨b,λj v d=>?_⟩;have:=mapM_some_get h j j (by grind);rw[d]at this;rw[VK e,VK rfl]at this;omega
def VL{e:TypeId}{R:DataW H->lA->Prop}{a:Addr}(A:a.spot=none)
  (D: ∀ (cs:List Value) d ps,(∀ (j:Nat) (v:Value),cs[j]?=some v-> ∃o,w.cell? ⟨a.block,o,none⟩=some v)->DataW.trod enc P w 0 sp held n e cs=some (d,ps)-> ∃xs,R d xs/\aG (Gh.start w) xs cs/\Leaves cs/\xs.length=cs.length)
  {es:List (DataW H×List MemPlace)} (len:Nat) (M:len<=es.length)
  (h: ∀i,i<len->(w.cells? 0 (a.add (i*P.cellsOf e)) (P.cellsOf e)).bind (DataW.trod enc P w 0 sp held n e)=es[i]?):
  ∃ (af:List lA) (vs:List Value),af.length=len/\ (∀ (i:Nat) (x:DataW H×List MemPlace) (b:lA),es[i]?=some x->af[i]?=some b->b.length=P.cellsOf e/\R x.1 b)/\aG (Gh.start w) af.flatten vs/\Leaves vs/\vs.length=len*P.cellsOf e/\pQ (Gh.start w) a.block a.off vs:=by
 induction len with
 |zero=>exact⟨[],[],rfl,λi x b _ f=>by grind,rfl,λv c=>by grind,by simp,λj v c=>by grind⟩
 |succ m y=>
  obtain⟨af,vs,q,J,I,G,F,E⟩:=y (by omega) (λi p=>h i (by omega));have hm:=h m (asD m);have g:es[m]?=some es[m]:=acJ (by omega);rw[g,al3]at hm;obtain⟨cs,C,z⟩:=hm;obtain⟨K,r⟩:=am2 A C;obtain⟨xs,u,t,s,L⟩:=D cs es[m].1 es[m].2 (λj v c=>⟨_,r j v c⟩) z;refine⟨af++[xs],vs++cs,by simp[q],λi x b k f=>?_,by rw[al2];simpa using I.append t,G.append s,by simp[F,K,aog],λj v c=>?_⟩
  ·by_cases p:i<af.length
   ·rw[abP p]at f;exact J i x b k f
   ·have l:=(abQ.1 f).1;rw[ac6,aoQ]at l;have:i=m:=by omega
    subst this;rw[aet (by omega),q,Nat.sub_self]at f;simp only[aos,acy]at f;rw[g]at k;cases k;cases f;exact⟨by omega,u⟩
  ·by_cases B:j<vs.length
   ·rw[abP B]at c;exact E j v c
   ·rw[aet (by omega)]at c;have:=r _ _ c;have e1:a.off+m*P.cellsOf e+(j-vs.length)=a.off+j:=by omega
    rw[e1]at this;exact am1 this
theorem MS{n:Nat}{R:TypeId->DataW H->lA->Prop}{g:TypeId->Bool}{cs:List Value}
  (m: ∀t c d ps,g t=true->(∀v∈c,v∈cs)->DataW.trod enc P w 0 sp held n t c=some (d,ps)-> ∃xs,R t d xs/\aG (Gh.start w) xs c/\Leaves c/\xs.length=c.length)
  (N:Nat) (u:cs.length=N):
  ∀ (fs:List Field) (ys:List (DataW H×List MemPlace)) (off:Nat),z7 P g fs off N=true->ys.length=fs.length->(∀ (i:Nat) (f:Field),fs[i]?=some f->DataW.trod enc P w 0 sp held n f.type ((cs.drop f.offset).take (P.cellsOf f.type))=ys[i]?)->
    ∃xs,MR R fs (ys.map (·.1)) xs/\aG (Gh.start w) xs (cs.drop off)/\Leaves (cs.drop off)/\xs.length=(cs.drop off).length
 | [],ys,off,j,k,_=>by
   simp only[z7,aul]at j;have:cs.drop off=[]:=afL (by omega);rw[this];cases ys with
   |nil=>exact⟨[],⟨rfl,rfl⟩,rfl,λv l=>by grind,rfl⟩
   |cons _ _=>grind
 |x::r,ys,off,j,k,h=>by
  simp only[z7,afJ,aul]at j;obtain⟨⟨rfl,s⟩,p⟩:=j;cases ys with
  |nil=>grind
  |cons y ys=>
   have o:=h 0 x rfl;simp only[aos]at o;obtain⟨a,G,F,E,D⟩:=m x.type _ y.1 y.2 s (λv l=>am3 (afZ l)) o;obtain⟨b,C,B,A,z⟩:=MS m N u r ys (x.offset+P.cellsOf x.type) p (by simpa using k) (λi f q=>by have:=h (i+1) f q;simpa using this);have e:cs.drop x.offset=(cs.drop x.offset).take (P.cellsOf x.type)++cs.drop (x.offset+P.cellsOf x.type):=by
    rw[<-an4];exact(amx _ _).symm
   refine⟨a++b,⟨y.1,ys.map (·.1),a,b,rfl,rfl,G,C⟩,?_,?_,?_⟩
   ·rw[e];exact F.append B
   ·rw[e];exact E.append A
   ·rw[e,ac6,ac6,D,z]
def VM{e:TypeId}{R:DataW H->lA->Prop}{cs:List Value}
  (A: ∀ (c:List Value) d ps,(∀v∈c,v∈cs)->DataW.trod enc P w 0 sp held n e c=some (d,ps)-> ∃xs,R d xs/\aG (Gh.start w) xs c/\Leaves c/\xs.length=c.length)
  {ys:List (DataW H×List MemPlace)} (k:Nat) (z:k*P.cellsOf e<=cs.length) (F:k<=ys.length) (h: ∀i,i<k->DataW.trod enc P w 0 sp held n e ((cs.drop (i*P.cellsOf e)).take (P.cellsOf e))=ys[i]?):
  ∃af:List lA,af.length=k/\ (∀ (i:Nat) (x:DataW H×List MemPlace) (b:lA),ys[i]?=some x->af[i]?=some b->R x.1 b)/\aG (Gh.start w) af.flatten (cs.take (k*P.cellsOf e))/\Leaves (cs.take (k*P.cellsOf e))/\af.flatten.length=k*P.cellsOf e:=by
 induction k with
 |zero=>exact⟨[],rfl,λi x b _ a=>by grind,by simp[aG],λv l=>by grind,by simp⟩
 |succ m y=>
  rw[aog]at z;obtain⟨af,p,E,D,C,B⟩:=y (by omega) (by omega) (λi o=>h i (by omega));have hm:=h m (asD m);have g:ys[m]?=some ys[m]:=acJ (by omega);rw[g]at hm;obtain⟨xs,u,t,s,r⟩:=A _ ys[m].1 ys[m].2 (λv l=>am3 (afZ l)) hm;have f:xs.length=P.cellsOf e:=by rw[r,aeD,alN];omega
  have q:cs.take ((m+1)*P.cellsOf e)=cs.take (m*P.cellsOf e)++(cs.drop (m*P.cellsOf e)).take (P.cellsOf e):=by rw[aog,List.take_add]
  refine⟨af++[xs],by simp[p],λi x b f a=>?_,by rw[q,al2];simpa using D.append t,by rw[q];exact C.append s,by rw[al2,ac6,B,aog];simp[f]⟩;by_cases o:i<af.length
  ·rw[abP o]at a;exact E i x b f a
  ·have j:=(abQ.1 a).1;rw[ac6,aoQ]at j;have:i=m:=by omega
   subst this;rw[aet (by omega),p,Nat.sub_self]at a;simp only[aos,acy]at a;rw[g]at f;cases f;cases a;exact u
theorem GF{nest:Bool}(J:nest=true-> ∀b o v,w.cell? ⟨b,o,none⟩=some v->GD v): ∀ (f:Nat) (t:TypeId) (n:Nat) (cs:List Value) (d:DataW H) (ps:List MemPlace),z8 P nest f t=true->(nest=true-> ∀v∈cs,GD v)->
  DataW.trod enc P w 0 sp held n t cs=some (d,ps)-> ∃xs,gU P f t d xs/\aG (Gh.start w) xs cs/\Leaves cs/\xs.length=cs.length
 |0,_,_,_,_,_,r,_,_=>by trivial
 |f+1,t,n,cs,d,ps,r,C,h=>by
  unfold z8 at r;unfold gU;cases B:P.underlying t with
  |none=>grind
  |some td=>
   rw[B]at r;cases td with
   |bool=>
    obtain⟨b,rfl,l⟩:=DataW.trod_bool B h;cases l;exact⟨[.bool b],⟨b,rfl,rfl⟩,aG.single.2 rfl,λv g=>by simp at g;subst g;rfl,rfl⟩
   |int k=>
    obtain⟨b,rfl,l,T⟩:=DataW.trod_int B h;cases l;exact⟨[.int k b],⟨b,rfl,rfl,T⟩,aG.single.2 rfl,λv g=>by simp at g;subst g;rfl,rfl⟩
   |string=>
    obtain⟨s,rfl,l,F⟩:=DataW.trod_string B h;cases l;exact⟨[.str s],⟨s,rfl,rfl,F⟩,aG.single.2 rfl,λv g=>by simp at g;subst g;rfl,rfl⟩
   |slice e=>
    simp only[afJ]at r;obtain⟨D,r⟩:=r;rcases DataW.trod_slice B h with⟨rfl,l⟩| ⟨a,len,cap,es,rest,m,rfl,rfl,l,_,hlc,UU,W,V,_,_⟩
    ·cases l;exact⟨[.an],.inl ⟨rfl,rfl⟩,aG.single.2 rfl,λv g=>by simp at g;subst g;rfl,rfl⟩
    ·cases l;have F:a.spot=none:=C D _ (List.mem_singleton_self _);obtain⟨af,vs,Q,O,N,M,h5,h6⟩:=VL (R:=gU P f e) F (λc I p u q=>GF J f e m c I p r (λ_ v g=>by
      obtain⟨j,L⟩:=art.1 g;obtain⟨o,ho⟩:=u j v L;exact J D _ _ _ ho) q) len (by omega) V
     refine⟨[.sl af false],.inr ⟨es.map (·.1),rest.map (·.1),af,rfl,rfl,by simp[W,Q],by omega,λi x b l Y=>?_⟩,aG.single.2 ?_,λv g=>by simp at g;subst g;rfl,rfl⟩
     ·rw[aeA,aeh]at l;obtain⟨y,S,rfl⟩:=l;exact O i y b S Y
     ·refine⟨a.block,a.off,cap,P.cellsOf e,vs,?_,by omega,(λu=>absurd u (by decide)),λel G=>?_,h6,M,bq.iff.2 N⟩
      ·rw[Q];obtain⟨b,o,s⟩:=a;simp at F;subst F;rfl
      ·obtain⟨j,L⟩:=art.1 G;have hjl:=(abQ.1 L).1;exact(O j es[j] el (acJ (by omega)) L).1
   |struct fs=>
    obtain⟨ys,m,rfl,l,K,A,z⟩:=DataW.trod_struct B h;cases l;obtain⟨xs,x1,x2,x3,x4⟩:=MS (R:=gU P f) (cs:=cs) (λt' c I p hg u q=>GF J f t' m c I p hg (λD v g=>C D v (u v g)) q) _ K fs.toList ys 0 r (by simpa using A) (λi fl hi=>z i fl (by simpa using hi));exact⟨xs,⟨_,rfl,x1⟩,by simpa using x2,by simpa using x3,by simpa using x4⟩
   |array k e=>
    simp only[afJ,aul]at r;obtain⟨U,u⟩:=r;obtain⟨ys,m,rfl,l,K,A,z⟩:=DataW.trod_array B h;cases l;obtain⟨af,Q,O,N,M,h5⟩:=VM (R:=gU P f e) (cs:=cs) (λc I p X q=>GF J f e m c I p U (λD v g=>C D v (X v g)) q) k (by rw[K,u];exact aeg _) (by omega) z;have E:k*P.cellsOf e=cs.length:=by rw[K,u]
    rw[E,aeo]at N M;exact⟨af.flatten,⟨_,af,rfl,rfl,by simpa using A,Q,λi a b Z Y=>by
     rw[aeA,aeh]at Z;obtain⟨y,S,rfl⟩:=Z;exact O i y b S Y⟩,N,M,by rw[h5,E]⟩
   |_=>cases r
theorem VN{W j:World}(g:laidOutB P=true)(i:Below W.heap.size W j): ∀ {ts:List TypeId} {vs:List Value} {e:List (DataW H)} {ps:List MemPlace},(ts.all λt=>P.readableRec t&&decide (t<P.types.size))=true->
  DataW.TrodAll enc P W 0 (λ_=>true) true ts vs e ps->(∀x∈ps,x.block<W.heap.size)->DataW.TrodAll enc P j 0 (λb=>decide (b<W.heap.size)) true ts vs e ps
 | [],[],[],_,_,h,_=>h
 |t::ts,v::vs,d::e,ps,c,h,f=>by
  simp only[auk,afJ,aje]at c;obtain⟨p,q,l,k,rfl⟩:=h;exact⟨p,q,Below.trod g c.1.1 c.1.2 l i (λx a=>f x (List.mem_append_left _ a)),VN g i (by grind) k (λx a=>f x (List.mem_append_right _ a)),rfl⟩
 | [],[],_::_,_,_,h,_=>h.elim
 | [],_::_,_,_,_,h,_=>h.elim
 |_::_,[],_,_,_,h,_=>h.elim
 |_::_,_::_,[],_,_,h,_=>h.elim
end
def am5{P:Program}{X:Ctx}(n:fk X w.heap.size w)(r:ow P X)(s: ∀f p,X.bU f=some p->gg P w.heap.size w f p){fn:Func}(j:P.funcs[f]?=some fn)(q:fn.body.isSome=true)
  (d: (fn.name== "runtime.NumGoroutine")=false) {args:lA} {a:Array Value} (m:aG (Gh.start w) args a.toList)  {l:AS} (h:D X (.fn (.func f) [] []) args ⟨[],none⟩=some (.ret v l)):
  Calls P f a w λe w'=> ∃G v',e= .returned v'/\ak G v v'/\Below w.heap.size w w':=by
 have k:=MQ n r s _ _ _ _ h (Gh.start w) w (.func (.func f) #[] #[]) a (.start w) ⟨_,_,_,rfl,rfl,rfl,rfl⟩ m;have b: (vo (.func (.func f) #[] #[]) a).run P w= .ok (.enter f a) w:=by
  have g: ¬fn.name= "runtime.NumGoroutine" :=by grind
  obtain⟨c,o⟩:=aqH.1 q;simp[vo,Deferred.ofValue,invoke,callFunc,aoG,j,g,o]
 rw[b]at k;have i:CallsIn Fence.wide 0 P f a w (Ends P w.heap.size w (Gh.start w) {heap:=[],lo:=none} (.ret v l)):=k;refine callsIn_wide.1 (i.mono λe w' he=>?_);cases e with
 |returned v'=>
  obtain⟨x,y,u,t,_⟩:=he;exact⟨x,v',rfl,t,u.la⟩
 |panicked _=>trivial
 |outgrown=>trivial
section
abbrev bQ:=Ex->Fr->AS->Prop
variable(X:Ctx)
def wp(f:FuncId)(rd:Bool)(c:PC)(fr:Fr)(E:AS)(Q:bQ):Prop:=
 ∃ex a b,bc X (D X) Lw f rd c fr E=some (ex,a,b)/\Q ex a b
def dn(os:List aP)(fr:Fr)(E:AS)(Q:bQ):Prop:=
 ∃ex a b,eH X (D X) os fr E=some (ex,a,b)/\Q ex a b
def gr(b:List FP)(os:List (aP×lN))(fr:Fr)(E:AS)(Q:bQ):Prop:=
 ∃ex a c,gb X (D X) b os fr E=some (ex,a,c)/\Q ex a c
def qb(K Kp:AV->AS->Prop):Option Out->Prop
 |some (.ok v E)=>K v E
 |some (.panic v E)=>Kp v E
 |none=>False
def aQ(i:I)(e:Env)(E:AS)(K Kp:AV->AS->Prop):Prop:=qb K Kp (exec X (D X) i e E)
def CN(f:FuncId)(rd:Bool)(b:PC)(Q:bQ):bQ
 |.normal,fr,E=>wp X f rd b fr E Q
 |ex,fr,E=>Q ex fr E
def xN(id:Nat)(Q:bQ):bQ
 |.exit i,fr,E=>if i=id then Q .normal fr E else Q (.exit i) fr E
 |ex,fr,E=>Q ex fr E
def GG(K Kp:AV->AS->Prop):Option aT->Prop
 |some (.ret v E)=>K v E
 |some (.panic v E)=>Kp v E
 |none=>False
def dE(n:Nat)(lo:oN)(b:List RV)(R:aT->Prop):bQ
 |.normal,fr,E|.ret,fr,E=> ∃a v,dC E fr.marks=some a/\fA X a fr.env b=some v/\R (.ret (finish n lo v a).1 (finish n lo v a).2)
 |.panic v,fr,E=> ∃a,dC E fr.marks=some a/\R (.panic (finish n lo v a).1 (finish n lo v a).2)
 |.exit _,_,_=>False
def GH(c:AV)(b:Bool)(A B:Prop):Prop:=
 match c with
 |.bool t=>(t=b->A)/\ (t=(!b)->B)
 |_=>False
variable{X}{f:FuncId}{rd:Bool}{fr:Fr}{E:AS}{Q:bQ}{e:Env}{ms:lN}{K Kp:AV->AS->Prop}
def ayI{a:Ex}{b:Fr}{c:AS}: (∃ex d g,(some (a,b,c):iW)=some (ex,d,g)/\Q ex d g)↔Q a b c:=
 by grind
def xO(c:AV)(b:Bool)(A B C:Prop):Prop:=
 match c with
 |.bool t=>(t=b->A)/\ (t=(!b)->B)
 |_=>C
def wp_skip:wp X f rd .skip fr E Q=Q .normal fr E:=propext (by simp only[wp,bc];grind)
def wp_exit{id:Nat}:wp X f rd (.exit id) fr E Q=Q (.exit id) fr E:=propext (by simp only[wp,bc];grind)
def wp_ret:wp X f rd .ret fr E Q=Q .ret fr E:=propext (by simp only[wp,bc];grind)
def wp_seq{a:PC}:wp X f rd (.seq a b) fr E Q=wp X f rd a fr E (CN X f rd b Q):=by
 apply propext;simp only[wp,bc];constructor
 ·rintro⟨ex,d,j,h,c⟩;split at h
  ·rename_i g i k;exact⟨_,_,_,k,ex,d,j,h,c⟩
  ·refine⟨_,_,_,h,?_⟩;cases ex with
   |normal=>grind
   |_=>exact c
 ·rintro⟨ex,d,j,h,c⟩;rw[h];cases ex with
  |normal=>exact c
  |exit _=>exact⟨_,_,_,rfl,c⟩
  |ret=>exact⟨_,_,_,rfl,c⟩
  |panic _=>exact⟨_,_,_,rfl,c⟩
def wp_block{id:Nat}:wp X f rd (.block id b) fr E Q=wp X f rd b fr E (xN id Q):=by
 apply propext;simp only[wp,bc];constructor
 ·rintro⟨ex,c,d,h,a⟩;split at h
  ·simp only[xN]
   grind
  ·refine⟨_,_,_,h,?_⟩;cases ex with
   |exit i=>grind
   |_=>exact a
 ·rintro⟨ex,c,d,h,a⟩;rw[h];cases ex with
  |normal=>exact⟨_,_,_,rfl,a⟩
  |exit i=>
   simp only[xN]at a
   grind
  |ret=>exact⟨_,_,_,rfl,a⟩
  |panic _=>exact⟨_,_,_,rfl,a⟩
def wp_cond{c:ao}{a:PC}:wp X f rd (.cond c a b) fr E Q=GH (c.get fr.env) true (wp X f rd a fr E Q) (wp X f rd b fr E Q):=by
 apply propext;simp only[wp,bc,GH];constructor
 ·grind
 ·intro h;cases d:c.get fr.env<;>rw[d]at h<;>simp only at h<;>try rfl
  rename_i t;cases t
  ·grind
  grind
theorem MT{os:List aP}:wp X f rd (.aN os) fr E Q=dn X os fr E Q:=by rfl
theorem am6{os:List (aP×lN)}:wp X f rd (.sM os) fr E Q=gr X [] (gS E.heap.length os) fr (E.lK (ds os)) Q:=by rfl
def wp_loop{S:Type}(I:S->Fr->AS->Prop)(μ:S->Nat)(s:S)(k:I s fr E)
  (j: ∀s fr E,I s fr E->wp X f rd b fr E (λex a c=>match ex with|.normal=> ∃d,μ d<μ s/\I d a c|ex=>Q ex a c)):wp X f rd (.loop b) fr E Q:=by
 have key: ∀n s fr E,μ s<n->I s fr E-> ∃ex a c,Lw (bc X (D X) Lw f rd b) fr E=some (ex,a,c)/\Q ex a c:=by
  intro n
  induction n with
  |zero=>simp
  |succ n l=>
   intro s fr E m i;obtain⟨ex,a,c,g,h⟩:=j s fr E i;rw[amZ,g]
   grind
 obtain⟨ex,a,c,g,h⟩:=key _ s fr E (asD _) k;exact⟨ex,a,c,by trivial,h⟩
def wp_mono{c:PC}{d:bQ}(h:wp X f rd c fr E Q)(i: ∀ex fr E,Q ex fr E->d ex fr E):wp X f rd c fr E d:=by
 obtain⟨ex,b,j,g,a⟩:=h;exact⟨ex,b,j,g,i _ _ _ a⟩
theorem VO:CN X f rd b Q .normal fr E=wp X f rd b fr E Q:=rfl
theorem VP:CN X f rd b Q (.exit i) fr E=Q (.exit i) fr E:=rfl
theorem VQ:CN X f rd b Q .ret fr E=Q .ret fr E:=rfl
theorem VS:CN X f rd b Q (.panic v) fr E=Q (.panic v) fr E:=rfl
theorem VT{id:Nat}:xN id Q .normal fr E=Q .normal fr E:=rfl
theorem VU{id:Nat}:xN id Q (.exit i) fr E=if i=id then Q .normal fr E else Q (.exit i) fr E:=rfl
theorem VV{id:Nat}:xN id Q .ret fr E=Q .ret fr E:=rfl
theorem VW{id:Nat}:xN id Q (.panic v) fr E=Q (.panic v) fr E:=rfl
theorem xP{b:List RV}{R:aT->Prop}:dE X n lo b R .ret fr E= ∃a v,dC E fr.marks=some a/\fA X a fr.env b=some v/\R (.ret (finish n lo v a).1 (finish n lo v a).2):=rfl
theorem GJ{t b:Bool}{A B:Prop}:GH (.bool t) b A B=((t=b->A)/\ (t=(!b)->B)):=rfl
theorem VX:GG K Kp (some (.ret v E))=K v E:=rfl
theorem VY:GG K Kp (some (.panic v E))=Kp v E:=rfl
def VZ:dn X [] fr E Q=Q .normal fr E:=propext (by simp only[dn,eH];grind)
theorem Fr.V0{d:Nat}:Fr.put ⟨e,ms⟩ (some d) v=⟨e.set d v,ms⟩:=rfl
theorem Fr.V4:Fr.put ⟨e,ms⟩ none v=⟨e,ms⟩:=rfl
def MU{i:I}{os:List aP}:dn X (⟨none,d,i⟩::os) fr E Q=aQ X i fr.env E (λv a=>dn X os (fr.put d v) a Q) (λv a=>Q (.panic v) fr a):=by
 simp only[dn,aQ,eH,fO,aeE];cases b:exec X (D X) i fr.env E with
 |none=>simp[qb]
 |some o=>
  cases o with
  |ok v a=>rfl
  |panic v a=>simp only[qb];grind
def Env.MV{e:Env}:e.set t (e t)=e:=by
 unfold Env.set;grind
def V5{b:Bool}{i:I}{os:List aP}:dn X (⟨some (t,b),d,i⟩::os) ⟨e,ms⟩ E Q=
  xO (e t) b (aQ X i (e.set t (.bool b)) E (λv l=>dn X os (Fr.put ⟨e.set t (.bool b),ms⟩ d v) l Q) (λv l=>Q (.panic v) ⟨e.set t (.bool b),ms⟩ l))
   (dn X os (Fr.put ⟨e.set t (.bool (!b)),ms⟩ d .undef) E Q) (dn X os (Fr.put ⟨e,ms⟩ d .undef) E Q):=by
 cases g:e t with
 |bool c=>
  have p:c=b->dn X (⟨some (t,b),d,i⟩::os) ⟨e,ms⟩ E Q=dn X (⟨none,d,i⟩::os) ⟨e,ms⟩ E Q:=by
   intro h;subst h;simp only[dn,eH,fO,g,aqg,aeE]
  have o:c=(!b)->dn X (⟨some (t,b),d,i⟩::os) ⟨e,ms⟩ E Q=dn X os (Fr.put ⟨e,ms⟩ d .undef) E Q:=by
   intro h;subst h;have: ((!b)==b)=false:=by simp
   simp only[dn,eH,fO,g,this,aek,ahz]
  have m:e.set t (.bool c)=e:=by rw[<-g];exact Env.MV
  apply propext;simp only[xO];by_cases j:c=b
  ·have n: ¬c=(!b):=by subst j;cases c<;>simp
   rw[p j,MU];subst j;rw[m];exact⟨λh=>⟨λ_=>h,λk=>absurd k n⟩,λh=>h.1 rfl⟩
  ·have a:c=(!b):=by cases c<;>cases b<;>simp_all
   rw[o a,<-a,m];exact⟨λh=>⟨λk=>absurd k j,λ_=>h⟩,λh=>h.2 rfl⟩
 |_=>simp only[dn,eH,fO,g,xO,aek,ahz]
theorem MW{f:FuncId}{first cap args:lA}{H:List ae}{R:aT->Prop}(j:X.bU f=none)(l:X.code f=some pf)(n: (first++args++cap).length<=pf.ntmps)
  (h:wp X f false pf.body ⟨c9 (first++args++cap),[]⟩ ⟨H,none⟩ (dE X H.length lo pf.results R)): ∃b,D X (.fn (.func f) first cap) args ⟨H,lo⟩=some b/\R b:=by
 obtain⟨ex,fr,E,m,g⟩:=h;have key: ∀b,leave X H.length lo pf (some (ex,fr,E))=some b->D X (.fn (.func f) first cap) args ⟨H,lo⟩=some b:=by
  intro b k;refine GC ?_;simp only[step,j,l]
  grind
 cases ex with
 |normal=>obtain⟨a,v,d,i,c⟩:=g;exact⟨_,key _ (by simp only[leave,pO,d,i]),c⟩
 |ret=>obtain⟨a,v,d,i,c⟩:=g;exact⟨_,key _ (by simp only[leave,pO,d,i]),c⟩
 |panic v=>obtain⟨a,d,c⟩:=g;exact⟨_,key _ (by simp only[leave,d]),c⟩
 |exit _=>trivial
theorem V6{f:FuncId}{first cap args:lA}{H:List ae}{a:aT}(b:X.bU f=none)(d:X.code f=some pf)(c: (first++args++cap).length<=pf.ntmps)
 (h:wp X f false pf.body ⟨c9 (first++args++cap),[]⟩ ⟨H,none⟩ (dE X H.length lo pf.results (· =a))):D X (.fn (.func f) first cap) args ⟨H,lo⟩=some a:=by grind [MW]
end
section
variable{X:Ctx}{f:FuncId}{rd:Bool}{fr:Fr}{E:AS}{Q:bQ}{e:Env}{ms:lN}{K Kp:AV->AS->Prop}
def cU{α:Type}(r:Option α)(K:α->Prop):Prop:=
 match r with
 |some a=>K a
 |none=>False
def V7{g:ao}{as:List ao}:aQ X (.call g as) e E K Kp=GG K Kp (D X (g.get e) (as.map (·.get e)) E):=by
 simp only[aQ,exec];cases D X (g.get e) (as.map (·.get e)) E with
 |none=>rfl
 |some r=>cases r<;>rfl
def iZ{r:Option AV}:qb K Kp (fH E r)=cU r (λv=>K v E):=by cases r<;>rfl
def kn(c:BinOp)(x y:AV):Option AV:=match x,y with
 |.int k a,.int _ b=>vg c k a b
 |_,_=>none
theorem ayJ:aQ X (.mov x) e E K Kp=(K (x.get e) E):=by
 rfl
def am7{c:ao}{a:ao}{b:ao}:aQ X (.pick c a b) e E K Kp=(cU (match c.get e with|.bool t=>some t|_=>none) λt=>K (if t then a.get e else b.get e) E):=by
 simp only[aQ,exec];cases c.get e<;>rfl
theorem ayK:aQ X (.alloc z tg) e E K Kp=(K (.ptr E.heap.length 0) (E.push (.box z tg))):=by
 rfl
def am8:aQ X (.box x tg) e E K Kp=(((x.get e).cm=false/\K (.ptr E.heap.length 0) (E.push (.box (x.get e).cells tg)))):=by
 simp only[aQ,exec];cases h: (x.get e).cm<;>simp[qb]
def am9{a:List (Nat×Nat×ao)}:aQ X (.build z a) e E K Kp=(cU (ee z (a.map λp=>(p.1,p.2.1,p.2.2.get e))) λcs=>K (.agg cs) E):=by
 simp only[aQ,exec];cases ee z (a.map λp=>(p.1,p.2.1,p.2.2.get e))<;>rfl
def ana{len:Nat}{a:List (Nat×Nat×ao)}:aQ X (.bslice z len a) e E K Kp=(cU (ee (List.replicate len z).flatten (a.map λp=>(p.1,p.2.1,p.2.2.get e))) λcs=>K (.sl (chunks z.length len cs) true) E):=by
 simp only[aQ,exec];cases ee (List.replicate len z).flatten (a.map λp=>(p.1,p.2.1,p.2.2.get e))<;>rfl
def anb{ty:TypeId}{len:Nat}{a:List (Nat×Nat×ao)}:aQ X (.re ty z len a) e E K Kp=(cU (ee (List.replicate len z).flatten (a.map λp=>(p.1,p.2.1,p.2.2.get e))) λcs=>K (.ref E.heap.length 0 z.length 0 len false) (E.push (.row 0 z.length ty (chunks z.length len cs)))):=by
 simp only[aQ,exec];cases ee (List.replicate len z).flatten (a.map λp=>(p.1,p.2.1,p.2.2.get e))<;>rfl
theorem ane{agg:Bool}{a:ao}:aQ X (.load agg n a) e E K Kp=(cU (bW X E agg n (a.get e)) λv=>K v E):=by
 simp only[aQ,exec,iZ]
theorem anf{a:ao}{v:ao}:aQ X (.store n a v) e E K Kp=(cU (jM E n (a.get e) (v.get e)) λb=>K .undef b):=by
 simp only[aQ,exec];cases jM E n (a.get e) (v.get e)<;>rfl
theorem ang:aQ X (.nilck x) e E K Kp=(cU (vl (x.get e)) λv=>K v E):=by
 simp only[aQ,exec,iZ]
theorem anh{a:BinOp}:aQ X (.bin a x y) e E K Kp=(cU (dh a (x.get e) (y.get e)) λv=>K v E):=by
 simp only[aQ,exec,iZ]
theorem ani{a:BinOp}:aQ X (.shf a x y) e E K Kp=(cU (kn a (x.get e) (y.get e)) λv=>K v E):=by
 simp only[aQ,exec,kn];cases x.get e<;>first|rfl| (cases y.get e<;>first|rfl|exact iZ)
def anj{k:EK}:aQ X (.eq k x y) e E K Kp=(cU (dA k (x.get e) (y.get e)) λb=>K (.bool b) E):=by
 simp only[aQ,exec];cases dA k (x.get e) (y.get e)<;>rfl
def ank{k:EK}:aQ X (.ne k x y) e E K Kp=(cU (dA k (x.get e) (y.get e)) λb=>K (.bool !b) E):=by
 simp only[aQ,exec];cases dA k (x.get e) (y.get e)<;>rfl
theorem anl{a:UnOp}:aQ X (.un a x) e E K Kp=(cU (xf a (x.get e)) λv=>K v E):=by
 simp only[aQ,exec,iZ]
def anm{k:IntKind}:aQ X (.conv k x) e E K Kp=(cU (rf (x.get e)) λn=>K (.int k (k.wrap n)) E):=by
 simp only[aQ,exec];cases x.get e<;>rfl
def ann:aQ X (.s2b x) e E K Kp=(cU (match x.get e with|.str s=>if s.size<=room then some s else none|_=>none) λs=>K (.sl (rh s) false) E):=by
 simp only[aQ,exec];cases x.get e<;>first|rfl| (simp only[];split<;>rfl)
theorem ayL{t:TypeId}:aQ X (.mki t x) e E K Kp=(K (.c8 t (x.get e)) E):=by
 rfl
theorem ayM{f:Fn}{first:List ao}{cap:List ao}:aQ X (.mkf f first cap) e E K Kp=(K (.fn f (first.map (·.get e)) (cap.map (·.get e))) E):=by
 rfl
theorem ayN:aQ X (.nf) e E K Kp=(K (.mp E.heap.length) (E.push (.map []))):=by
 rfl
theorem ano{lo:Option ao}{a:Option ao}:aQ X (.slstr x lo a) e E K Kp=(cU (sO (x.get e) (lo.map (·.get e)) (a.map (·.get e))) λv=>K v E):=by
 simp only[aQ,exec,iZ]
theorem anp{lo:Option ao}{b:Option ao}{a:Option ao}:aQ X (.slsl n x lo b a) e E K Kp=(cU (fZ n (x.get e) (lo.map (·.get e)) (b.map (·.get e)) (a.map (·.get e))) λv=>K v E):=by
 simp only[aQ,exec,iZ]
theorem anq{lo:Option ao}{a:Option ao}:aQ X (.slarr n sz x lo a) e E K Kp=(cU (pK X n sz (x.get e) (lo.map (·.get e)) (a.map (·.get e))) λv=>K v E):=by
 simp only[aQ,exec,iZ]
theorem anr:aQ X (.faddr n x) e E K Kp=(cU (vk X n (x.get e)) λv=>K v E):=by
 simp only[aQ,exec,iZ]
def ans{agg:Bool}{off:Nat}:aQ X (.fld agg n off x) e E K Kp=(cU (match x.get e with|.agg cs=>part agg n cs off|_=>none) λv=>K v E):=by
 simp only[aQ,exec];cases x.get e<;>first|rfl|exact iZ
theorem ant{i:ao}:aQ X (.iaddra n sz x i) e E K Kp=(cU (sP X n sz (x.get e) (i.get e)) λv=>K v E):=by
 simp only[aQ,exec,iZ]
theorem anu{i:ao}:aQ X (.iaddrs sz x i) e E K Kp=(cU (iG sz (x.get e) (i.get e)) λv=>K v E):=by
 simp only[aQ,exec,iZ]
theorem anv{agg:Bool}{i:ao}:aQ X (.idxa agg n sz x i) e E K Kp=(cU (pM agg n sz (x.get e) (i.get e)) λv=>K v E):=by
 simp only[aQ,exec,iZ]
theorem anw{i:ao}:aQ X (.idxs x i) e E K Kp=(cU (xg (x.get e) (i.get e)) λv=>K v E):=by
 simp only[aQ,exec,iZ]
theorem anx{b:EK}{z:AV}{m:ao}{k:ao}{a:Bool}:aQ X (.lookup b z m k a) e E K Kp=(cU (iV X.fG E b z (m.get e) (k.get e) a) λv=>K v E):=by
 simp only[aQ,exec,iZ]
theorem anz{a:EK}{m:ao}{k:ao}{v:ao}:aQ X (.om a m k v) e E K Kp=(cU (lJ E a (m.get e) (k.get e) (v.get e)) λb=>K .undef b):=by
 simp only[aQ,exec];cases lJ E a (m.get e) (k.get e) (v.get e)<;>rfl
theorem anA{z:AV}{t:TypeId}{a:Bool}:aQ X (.ta z x t a) e E K Kp=(cU (zF z (x.get e) t a) λv=>K v E):=by
 simp only[aQ,exec,iZ]
def anB:aQ X (.ext x i) e E K Kp=(cU (match x.get e with|.av vs=>vs[i]?|_=>none) λv=>K v E):=by
 simp only[aQ,exec];cases x.get e<;>first|rfl|exact iZ
theorem anC{k:EK}:aQ X (.len k x) e E K Kp=(cU (fb E k (x.get e)) λv=>K v E):=by
 simp only[aQ,exec,iZ]
def anD{ty:TypeId}{bytes:Nat}{s:ao}:aQ X (.append ty sz bytes s x) e E K Kp=(cU (elems E sz (x.get e)) λys=>cU (dm E ty sz bytes (s.get e) ys) λp=>K p.1 p.2):=by
 simp only[aQ,exec];cases elems E sz (x.get e)with
 |none=>rfl
 |some ys=>simp only[cU];cases dm E ty sz bytes (s.get e) ys<;>rfl
theorem anE{d:ao}{s:ao}:aQ X (.copy sz d s) e E K Kp=(cU (ri E sz (d.get e) (s.get e)) λp=>K p.1 p.2):=by
 simp only[aQ,exec];cases ri E sz (d.get e) (s.get e)<;>rfl
theorem anF:aQ X (.clear z x) e E K Kp=(cU (rj E z (x.get e)) λa=>K .undef a):=by
 simp only[aQ,exec];cases rj E z (x.get e)<;>rfl
theorem anG{xs:List ao}:aQ X (.max xs) e E K Kp=(cU (ga pL (xs.map (·.get e))) λv=>K v E):=by
 simp only[aQ,exec,iZ]
theorem anH{xs:List ao}:aQ X (.min xs) e E K Kp=(cU (ga vi (xs.map (·.get e))) λv=>K v E):=by
 simp only[aQ,exec,iZ]
def anI:aQ X (.panic x) e E K Kp=(cU (match x.get e with|.c8 t v=>some (AV.c8 t v)|_=>none) λv=>Kp v E):=by
 simp only[aQ,exec];cases x.get e<;>rfl
def GK(b:Bool)(v:AV)(e:Env)(t:Nat):AV:=match b with|true=>v|false=>e t
theorem V8:GK true v e t=v:=rfl
theorem V9:GK false v e t=e t:=rfl
def Wb{d:Nat}: (e.set d v) t=GK (d==t) v e t:=by
 unfold Env.set GK
 grind
theorem GL{t b:Bool}{A B C:Prop}:xO (.bool t) b A B C=((t=b->A)/\ (t=(!b)->B)):=rfl
theorem push_mk{H:List ae}{o:ae}:AS.push ⟨H,lo⟩ o=⟨H++[o],lo⟩:=rfl
theorem set_mk{H:List ae}{id:Nat}{o:ae}:AS.set ⟨H,lo⟩ id o r=⟨H.set id o,if r<=id+1 then lo else cK lo id⟩:=rfl
end
section
variable{H L:List ae}{n k:Nat}
def di(h:H.length=n): (H++L)[n]?=L[0]?:=by grind
def bE(h:H.length=n): (H++L)[n+k]?=L[k]?:=by grind
theorem GM{o:ae}(h:H.length=n): (H++L).set n o=H++L.set 0 o:=by grind
theorem mA{o:ae}(h:H.length=n): (H++L).set (n+k) o=H++L.set k o:=by grind
def lh(h:H.length=n): (H++L).take n=H:=by grind
end
def GN{v':AV}{H:List ae}(a: (match aj with|none=>true|some j=>decide (n<=j))=true)(b:freeze ⟨H,aj⟩ n 12 v=some v'):finish n lo v ⟨H,aj⟩=(v',⟨H.take n,lo⟩):=by
 cases aj with
 |none=>simp[finish,b]
 |some j=>simp[finish,a,b]
def xQ{E:AS}(h:v.refs<=n):freeze E n (k+1) v=some v:=by
 unfold freeze;grind
def Wc{H:List ae}(a: (match aj with|none=>true|some j=>decide (n<=j))=true)(b:v.refs<=n):finish n lo v ⟨H,aj⟩=(v,⟨H.take n,lo⟩):=
 GN a (xQ b)
def wrap_i64{n:Int}(h: -9223372036854775808<=n)(a:n<=9223372036854775807):IntKind.wrap .i64 n=n:=by
 unfold IntKind.wrap IntKind.bits IntKind.signed;grind
def wrap_u64{n:Int}(h:0<=n)(a:n<=18446744073709551615):IntKind.wrap .u64 n=n:=by
 unfold IntKind.wrap IntKind.bits IntKind.signed;grind
def wrap_u32{n:Int}(h:0<=n)(a:n<=4294967295):IntKind.wrap .u32 n=n:=by
 unfold IntKind.wrap IntKind.bits IntKind.signed;grind
def wrap_i32{n:Int}(h: -2147483648<=n)(a:n<=2147483647):IntKind.wrap .i32 n=n:=by
 unfold IntKind.wrap IntKind.bits IntKind.signed;grind
def wrap_u16{n:Int}(h:0<=n)(a:n<=65535):IntKind.wrap .u16 n=n:=by
 unfold IntKind.wrap IntKind.bits IntKind.signed;grind
def wrap_u8{n:Int}(h:0<=n)(a:n<=255):IntKind.wrap .u8 n=n:=by
 unfold IntKind.wrap IntKind.bits IntKind.signed;grind
def S(l:lB):AV:=.str ⟨l.toArray⟩
theorem anJ(l:lB): (⟨l.toArray⟩:ByteArray).size=l.length:=by rfl
def o(d:Nat)(i:I):aP:=⟨none,some d,i⟩
def u(i:I):aP:=⟨none,none,i⟩
def gt(t:Nat)(d:oN)(i:I):aP:=⟨some (t,true),d,i⟩
def gf(t:Nat)(d:oN)(i:I):aP:=⟨some (t,false),d,i⟩
def ci(n:Int):ao:=.c (.int .i64 n)
def cf(f:Nat):ao:=.c (.fn (.func f) [] [])
def ko(P:Program)(f:Nat)(pf:PF):Prop:= ∃rows fn,P.funcs[f]?=some fn/\Cc P rows fn=some pf
section
variable{X:Ctx}{f:FuncId}{rd:Bool}{fr:Fr}{E:AS}{Q:bQ}{e:Env}{ms:lN}{K Kp:AV->AS->Prop}
def anK{i:I}{os:List aP}:dn X (gt t d i::os) ⟨e,ms⟩ E Q=
 xO (e t) true (aQ X i (e.set t (.bool true)) E (λv a=>dn X os (Fr.put ⟨e.set t (.bool true),ms⟩ d v) a Q) (λv a=>Q (.panic v) ⟨e.set t (.bool true),ms⟩ a))
  (dn X os (Fr.put ⟨e.set t (.bool false),ms⟩ d .undef) E Q) (dn X os (Fr.put ⟨e,ms⟩ d .undef) E Q):=V5
def anL{i:I}{os:List aP}:dn X (gf t d i::os) ⟨e,ms⟩ E Q=
 xO (e t) false (aQ X i (e.set t (.bool false)) E (λv a=>dn X os (Fr.put ⟨e.set t (.bool false),ms⟩ d v) a Q) (λv a=>Q (.panic v) ⟨e.set t (.bool false),ms⟩ a))
  (dn X os (Fr.put ⟨e.set t (.bool true),ms⟩ d .undef) E Q) (dn X os (Fr.put ⟨e,ms⟩ d .undef) E Q):=V5
end
theorem Wd:ao.get e (.t i)=e i:=rfl
theorem We:ao.get e (.c v)=v:=rfl
theorem Wg{n:Int}:ao.get e (ci n)= .int .i64 n:=rfl
theorem Wh{f:Nat}:ao.get e (cf f)= .fn (.func f) [] []:=rfl
def MX{X:Ctx}(pf:PF){args:lA}{H:List ae}{a:aT}(b:X.bU f=none)(g:X.code f=some pf)(c:Nat.ble args.length pf.ntmps=true)
 (h: ∀n,H.length=n->wp X f false pf.body ⟨c9 args,[]⟩ ⟨H,none⟩ (dE X n lo pf.results (· =a))):D X (.fn (.func f) [] []) args ⟨H,lo⟩=some a:=by grind [Nat.le_of_ble_eq_true,V6]
def anM{X:Ctx}(pf:PF){args:lA}{H:List ae}{R:aT->Prop}(b:X.bU f=none)(g:X.code f=some pf)(c:Nat.ble args.length pf.ntmps=true)
 (h: ∀n,H.length=n->wp X f false pf.body ⟨c9 args,[]⟩ ⟨H,none⟩ (dE X n lo pf.results R)): ∃a,D X (.fn (.func f) [] []) args ⟨H,lo⟩=some a/\R a:=by simp_all[anV,MW]
theorem Wi{X:Ctx}{E:AS}:fA X E e [.t t]=some (e t):=rfl
theorem anN{X:Ctx}{E:AS}{u:Nat}:fA X E e [.t t,.t u]=some (.av [e t,e u]):=rfl
theorem anO{X:Ctx}{E:AS}{u v:Nat}:fA X E e [.t t,.t u,.t v]=some (.av [e t,e u,e v]):=rfl
theorem xR{E:AS}:dC E []=some E:=rfl
def CO(x:AV)(i:Nat):Option AV:=match x with|.av vs=>vs[i]?|_=>none
def Wj(agg:Bool)(n off:Nat)(x:AV):Option AV:=match x with|.agg cs=>part agg n cs off|_=>none
def rF(E:AS)(x:AV)(tg:Option TypeId):Option (AV×AS):=if x.cm=false then some (.ptr E.heap.length 0,E.push (.box x.cells tg))else none
def MY(z:lA)(a:List (Nat×Nat×AV)):Option AV:=(ee z a).map .agg
def MZ(z:lA)(len:Nat)(a:List (Nat×Nat×AV)):Option AV:=(ee (List.replicate len z).flatten a).map λcs=>.sl (chunks z.length len cs) true
def M3(E:AS)(ty:TypeId)(z:lA)(len:Nat)(a:List (Nat×Nat×AV)):Option (AV×AS):=
 (ee (List.replicate len z).flatten a).map λcs=>(.ref E.heap.length 0 z.length 0 len false,E.push (.row 0 z.length ty (chunks z.length len cs)))
def Wk(x:AV):Option AV:=match x with|.c8 t v=>some (.c8 t v)|_=>none
def GO(x:AV):Option AV:=match x with|.str s=>if s.size<=room then some (.sl (rh s) false)else none|_=>none
section
variable(X:Ctx)
def kV(os:List aP)(d:Nat)(e:Env)(ms:lN)(Q:bQ):AV->AS->Prop:=λv E=>dn X os ⟨e.set d v,ms⟩ E Q
def kU(os:List aP)(e:Env)(ms:lN)(Q:bQ):AV->AS->Prop:=λ_ E=>dn X os ⟨e,ms⟩ E Q
def kP(e:Env)(ms:lN)(Q:bQ):AV->AS->Prop:=λv E=>Q (.panic v) ⟨e,ms⟩ E
def okV(r:Option AV)(K:AV->AS->Prop)(E:AS):Prop:=match r with|some v=>K v E|none=>False
def nr(r:Option AS)(K:AV->AS->Prop):Prop:=match r with|some E=>K .undef E|none=>False
def s5(r:Option (AV×AS))(K:AV->AS->Prop):Prop:=match r with|some p=>K p.1 p.2|none=>False
def okB(r:Option Bool)(a:Bool)(K:AV->AS->Prop)(E:AS):Prop:=match r with|some b=>K (.bool (if a then !b else b)) E|none=>False
def Wl(k:IntKind)(x:AV)(K:AV->AS->Prop)(E:AS):Prop:=match x with|.int _ n=>K (.int k (k.wrap n)) E|_=>False
def M4(c a b:AV)(K:AV->AS->Prop)(E:AS):Prop:=match c with|.bool t=>K (if t then a else b) E|_=>False
def Wm(r:Option (List lA))(ty:TypeId)(sz bytes:Nat)(s:AV)(K:AV->AS->Prop)(E:AS):Prop:=match r with|some ys=>s5 (dm E ty sz bytes s ys) K|none=>False
def ns(f:FuncId)(rd:Bool)(a b:PC)(fr:Fr)(E:AS)(Q:bQ)(c:AV):Prop:=GH c true (wp X f rd a fr E Q) (wp X f rd b fr E Q)
def gK(t:Nat)(b:Bool)(d:oN)(i:I)(os:List aP)(e:Env)(ms:lN)(E:AS)(Q:bQ)(c:AV):Prop:=
 xO c b (aQ X i (e.set t (.bool b)) E (match d with|some d=>kV X os d (e.set t (.bool b)) ms Q|none=>kU X os (e.set t (.bool b)) ms Q) (kP (e.set t (.bool b)) ms Q))
  (dn X os (Fr.put ⟨e.set t (.bool (!b)),ms⟩ d .undef) E Q) (dn X os (Fr.put ⟨e,ms⟩ d .undef) E Q)
end
section
variable{X:Ctx}{f:FuncId}{rd:Bool}{fr:Fr}{E:AS}{Q:bQ}{e:Env}{ms:lN}{K Kp:AV->AS->Prop}{t:Nat}{d:oN}{i:I}{os:List aP}{dd:Nat}
theorem ja{r:Option AV}:cU r (λv=>K v E)=okV r K E:=by cases r<;>rfl
theorem M5{r:Option AS}:cU r (λa=>K .undef a)=nr r K:=by cases r<;>rfl
theorem Wn{r:Option (AV×AS)}:cU r (λp=>K p.1 p.2)=s5 r K:=by cases r<;>rfl
def Wo:dn X (o dd i::os) ⟨e,ms⟩ E Q=aQ X i e E (kV X os dd e ms Q) (kP e ms Q):=MU
def Wp:dn X (u i::os) ⟨e,ms⟩ E Q=aQ X i e E (kU X os e ms Q) (kP e ms Q):=MU
def M6:dn X (gt t d i::os) ⟨e,ms⟩ E Q=gK X t true d i os e ms E Q (e t):=by
 rw[anK];cases d<;>rfl
def M7:dn X (gf t d i::os) ⟨e,ms⟩ E Q=gK X t false d i os e ms E Q (e t):=by
 rw[anL];cases d<;>rfl
theorem Wq:kV X os dd e ms Q v E=dn X os ⟨e.set dd v,ms⟩ E Q:=rfl
theorem Wr:kU X os e ms Q v E=dn X os ⟨e,ms⟩ E Q:=rfl
theorem Ws:kP e ms Q v E=Q (.panic v) ⟨e,ms⟩ E:=rfl
theorem Wt:okV (some v) K E=K v E:=rfl
def Wu{c:Prop}[Decidable c]{v:Option AV}:okV (if c then v else none) K E=(c/\okV v K E):=by split<;>simp[*,okV]
theorem Wv:nr (some E) K=K .undef E:=rfl
def Ww{c:Prop}[Decidable c]{v:Option AS}:nr (if c then v else none) K=(c/\nr v K):=by split<;>simp[*,nr]
theorem Wx:s5 (some (v,E)) K=K v E:=rfl
theorem Wy{b:Bool}:okB (some b) false K E=K (.bool b) E:=rfl
theorem Wz{b:Bool}:okB (some b) true K E=K (.bool (!b)) E:=rfl
theorem WA{k:IntKind}{n:Int}:Wl k (.int k' n) K E=K (.int k (k.wrap n)) E:=rfl
theorem WB{a b:AV}:M4 (.bool true) a b K E=K a E:=rfl
theorem WC{a b:AV}:M4 (.bool false) a b K E=K b E:=rfl
theorem WD{ys:List lA}{ty:TypeId}{bytes:Nat}{s:AV}:Wm (some ys) ty sz bytes s K E=s5 (dm E ty sz bytes s ys) K:=rfl
def M8{c:ao}{a:PC}:wp X f rd (.cond c a b) fr E Q=ns X f rd a b fr E Q (c.get fr.env):=wp_cond
def WE{a:PC}:ns X f rd a b fr E Q (.bool true)=wp X f rd a fr E Q:=by simp[ns,GJ]
def WG{a:PC}:ns X f rd a b fr E Q (.bool false)=wp X f rd b fr E Q:=by simp[ns,GJ]
def cg{a:PC}{p:Prop}[Decidable p]:ns X f rd a b fr E Q (.bool (decide p))=((p->wp X f rd a fr E Q)/\ (¬p->wp X f rd b fr E Q)):=by simp[ns,GJ]
def WH{a:PC}:ns X f rd a b fr E Q (.bool (!c))=ns X f rd b a fr E Q (.bool c):=by cases c<;>simp[ns,GJ]
theorem WI{b:Bool}{c:lA}:gK X t b (some dd) i os e ms E Q (.av c)=dn X os ⟨e.set dd .undef,ms⟩ E Q:=rfl
theorem WJ{b:Bool}{c:lA}:gK X t b none i os e ms E Q (.av c)=dn X os ⟨e,ms⟩ E Q:=rfl
def WK:gK X t true (some dd) i os e ms E Q (.bool true)=aQ X i (e.set t (.bool true)) E (kV X os dd (e.set t (.bool true)) ms Q) (kP (e.set t (.bool true)) ms Q):=by simp[gK,GL]
def WL:gK X t false (some dd) i os e ms E Q (.bool false)=aQ X i (e.set t (.bool false)) E (kV X os dd (e.set t (.bool false)) ms Q) (kP (e.set t (.bool false)) ms Q):=by simp[gK,GL]
def WM:gK X t true d i os e ms E Q (.bool false)=dn X os (Fr.put ⟨e.set t (.bool false),ms⟩ d .undef) E Q:=by simp[gK,GL]
def WN:gK X t false d i os e ms E Q (.bool true)=dn X os (Fr.put ⟨e.set t (.bool true),ms⟩ d .undef) E Q:=by simp[gK,GL]
def WO{b:Bool}{p:Prop}[Decidable p]:gK X t b d i os e ms E Q (.bool (decide p))=((p->gK X t b d i os e ms E Q (.bool true))/\ (¬p->gK X t b d i os e ms E Q (.bool false))):=by
 by_cases h:p<;>simp[h]
theorem WQ:aQ X (.mov x) e E K Kp=(K (x.get e) E):=by rfl
def WR{c:ao}{a:ao}{b:ao}:aQ X (.pick c a b) e E K Kp=(M4 (c.get e) (a.get e) (b.get e) K E):=by
 first|rfl|rfl|rfl|rfl| (rw[am7];cases c.get e<;>rfl)
theorem WS:aQ X (.alloc z tg) e E K Kp=(K (.ptr E.heap.length 0) (E.push (.box z tg))):=by rfl
def WT{agg:Bool}{a:ao}:aQ X (.load agg n a) e E K Kp=(okV (bW X E agg n (a.get e)) K E):=by grind [ane,ja]
def WU{a:ao}{v:ao}:aQ X (.store n a v) e E K Kp=(nr (jM E n (a.get e) (v.get e)) K):=by grind [anf,M5]
def WV:aQ X (.nilck x) e E K Kp=(okV (vl (x.get e)) K E):=by grind [ang,ja]
def WW{a:BinOp}:aQ X (.bin a x y) e E K Kp=(okV (dh a (x.get e) (y.get e)) K E):=by grind [anh,ja]
def WX{a:BinOp}:aQ X (.shf a x y) e E K Kp=(okV (kn a (x.get e) (y.get e)) K E):=by grind [ani,ja]
def WY{k:EK}:aQ X (.eq k x y) e E K Kp=(okB (dA k (x.get e) (y.get e)) false K E):=by
 first|rfl|rfl|rfl|rfl| (rw[anj];cases dA k (x.get e) (y.get e)<;>rfl)
def WZ{k:EK}:aQ X (.ne k x y) e E K Kp=(okB (dA k (x.get e) (y.get e)) true K E):=by
 first|rfl|rfl|rfl|rfl| (rw[ank];cases dA k (x.get e) (y.get e)<;>rfl)
def W4{a:UnOp}:aQ X (.un a x) e E K Kp=(okV (xf a (x.get e)) K E):=by grind [anl,ja]
def W5{k:IntKind}:aQ X (.conv k x) e E K Kp=(Wl k (x.get e) K E):=by
 first|rfl|rfl|rfl|rfl| (rw[anm];cases x.get e<;>rfl)
theorem W7{t:TypeId}:aQ X (.mki t x) e E K Kp=(K (.c8 t (x.get e)) E):=by rfl
theorem W8{f:Fn}{first:List ao}{cap:List ao}:aQ X (.mkf f first cap) e E K Kp=(K (.fn f (first.map (ao.get e)) (cap.map (ao.get e))) E):=by rfl
theorem W9:aQ X (.nf) e E K Kp=(K (.mp E.heap.length) (E.push (.map []))):=by rfl
def Xa{lo:Option ao}{a:Option ao}:aQ X (.slstr x lo a) e E K Kp=(okV (sO (x.get e) (lo.map (ao.get e)) (a.map (ao.get e))) K E):=by grind [ano,ja]
def Xb{lo:Option ao}{b:Option ao}{a:Option ao}:aQ X (.slsl n x lo b a) e E K Kp=(okV (fZ n (x.get e) (lo.map (ao.get e)) (b.map (ao.get e)) (a.map (ao.get e))) K E):=by grind [anp,ja]
def Xc{lo:Option ao}{a:Option ao}:aQ X (.slarr n sz x lo a) e E K Kp=(okV (pK X n sz (x.get e) (lo.map (ao.get e)) (a.map (ao.get e))) K E):=by grind [anq,ja]
def Xd:aQ X (.faddr n x) e E K Kp=(okV (vk X n (x.get e)) K E):=by grind [anr,ja]
def Xe{i:ao}:aQ X (.iaddra n sz x i) e E K Kp=(okV (sP X n sz (x.get e) (i.get e)) K E):=by grind [ant,ja]
def Xf{i:ao}:aQ X (.iaddrs sz x i) e E K Kp=(okV (iG sz (x.get e) (i.get e)) K E):=by grind [anu,ja]
def Xg{agg:Bool}{i:ao}:aQ X (.idxa agg n sz x i) e E K Kp=(okV (pM agg n sz (x.get e) (i.get e)) K E):=by grind [anv,ja]
def Xh{i:ao}:aQ X (.idxs x i) e E K Kp=(okV (xg (x.get e) (i.get e)) K E):=by grind [anw,ja]
def Xi{b:EK}{z:AV}{m:ao}{k:ao}{a:Bool}:aQ X (.lookup b z m k a) e E K Kp=(okV (iV X.fG E b z (m.get e) (k.get e) a) K E):=by grind [anx,ja]
def Xj{a:EK}{m:ao}{k:ao}{v:ao}:aQ X (.om a m k v) e E K Kp=(nr (lJ E a (m.get e) (k.get e) (v.get e)) K):=by grind [anz,M5]
def Xk{z:AV}{t:TypeId}{a:Bool}:aQ X (.ta z x t a) e E K Kp=(okV (zF z (x.get e) t a) K E):=by grind [anA,ja]
def Xl{k:EK}:aQ X (.len k x) e E K Kp=(okV (fb E k (x.get e)) K E):=by grind [anC,ja]
def Xm{ty:TypeId}{bytes:Nat}{s:ao}:aQ X (.append ty sz bytes s x) e E K Kp=(Wm (elems E sz (x.get e)) ty sz bytes (s.get e) K E):=by
 first|rfl|rfl|rfl|rfl| (rw[anD];cases elems E sz (x.get e)<;>first|rfl|exact Wn)
def Xn{d:ao}{s:ao}:aQ X (.copy sz d s) e E K Kp=(s5 (ri E sz (d.get e) (s.get e)) K):=by grind [anE,Wn]
def Xo:aQ X (.clear z x) e E K Kp=(nr (rj E z (x.get e)) K):=by grind [anF,M5]
def Xp{xs:List ao}:aQ X (.max xs) e E K Kp=(okV (ga pL (xs.map (ao.get e))) K E):=by grind [anG,ja]
def Xq{xs:List ao}:aQ X (.min xs) e E K Kp=(okV (ga vi (xs.map (ao.get e))) K E):=by grind [anH,ja]
def Xr{i:Nat}:aQ X (.ext x i) e E K Kp=(okV (CO (x.get e) i) K E):=by
 first|rfl| (rw[anB];exact ja)|rfl|rfl|rfl
def Xs{agg:Bool}{off:Nat}:aQ X (.fld agg n off x) e E K Kp=(okV (Wj agg n off (x.get e)) K E):=by
 first|rfl| (rw[ans];exact ja)|rfl|rfl|rfl
def Xt:aQ X (.box x tg) e E K Kp=(s5 (rF E (x.get e) tg) K):=by
 first|rfl|rfl|rfl|rfl| (rw[am8];unfold rF;cases h: (x.get e).cm<;>simp[s5])
def Xu{a:List (Nat×Nat×ao)}:aQ X (.build z a) e E K Kp=(okV (MY z (a.map λp=>(p.1,p.2.1,p.2.2.get e))) K E):=by
 first|rfl|rfl|rfl|rfl| (rw[am9];unfold MY;cases ee z (a.map λp=>(p.1,p.2.1,p.2.2.get e))<;>rfl)
def Xv{len:Nat}{a:List (Nat×Nat×ao)}:aQ X (.bslice z len a) e E K Kp=(okV (MZ z len (a.map λp=>(p.1,p.2.1,p.2.2.get e))) K E):=by
 first|rfl|rfl|rfl|rfl| (rw[ana];unfold MZ;cases ee (List.replicate len z).flatten (a.map λp=>(p.1,p.2.1,p.2.2.get e))<;>rfl)
def Xw{ty:TypeId}{len:Nat}{a:List (Nat×Nat×ao)}:aQ X (.re ty z len a) e E K Kp=(s5 (M3 E ty z len (a.map λp=>(p.1,p.2.1,p.2.2.get e))) K):=by
 first|rfl|rfl|rfl|rfl| (rw[anb];unfold M3;cases ee (List.replicate len z).flatten (a.map λp=>(p.1,p.2.1,p.2.2.get e))<;>rfl)
def Xx:aQ X (.panic x) e E K Kp=(okV (Wk (x.get e)) Kp E):=by
 first|rfl|rfl|rfl|rfl| (rw[anI];cases x.get e<;>rfl)
def Xy:aQ X (.s2b x) e E K Kp=(okV (GO (x.get e)) K E):=by
 first|rfl|rfl|rfl|rfl| (rw[ann];cases x.get e<;>first|rfl| (rename_i q;simp only[GO];by_cases a:q.size<=room<;>simp only[a,aeE,ahz]<;>rfl))
end
def R1:=gG @wp_skip<|gG @wp_exit<|gG @wp_ret<|gG @wp_seq<|gG @wp_block<|gG @M8<|gG @MT<|gG @VO<|gG @VP<|gG @VQ<|gG @VS<|gG @VT<|gG @VU<|gG @VV<|gG @VW<|gG @VZ<|gG @Wo<|gG @Wp<|gG @M6<|gG @M7<|gG @Wq<|gG @Wr<|gG @Ws<|gG @V7<|gG @WQ<|gG @WR<|gG @WS<|gG @WT<|gG @WU<|gG @WV<|gG @WW<|gG @WX<|gG @WY<|gG @WZ<|gG @W4<|gG @W5<|gG @W7<|gG @W8<|gG @W9<|gG @Xa<|gG @Xb<|gG @Xc<|gG @Xd<|gG @Xe<|gG @Xf<|gG @Xg<|gG @Xh<|gG @Xi<|gG @Xj<|gG @Xk<|gG @Xl<|gG @Xm<|gG @Xn<|gG @Xo<|gG @Xp<|gG @Xq<|gG @Xr<|gG @Xs<|gG @Xt<|gG @Xu<|gG @Xv<|gG @Xw<|gG @Xx @Xy
def R2:=gG @VX<|gG @VY<|gG @Wt<|gG @Wu<|gG @Wv<|gG @Ww<|gG @Wx<|gG @Wy<|gG @Wz<|gG @WA<|gG @WB<|gG @WC<|gG @WD<|gG @WE<|gG @WG<|gG @WH<|gG @WI<|gG @WJ<|gG @WK<|gG @WL<|gG @WM<|gG @WN<|gG @Fr.V0<|gG @Fr.V4<|gG @Wd<|gG @We<|gG @Wg<|gG @Wh<|gG @push_mk @set_mk
def R4:=gG @WO @cg
section
variable{X:Ctx}{f:FuncId}{rd:Bool}{E:AS}{Q:bQ}{e:Env}{ms:lN}{K Kp:AV->AS->Prop}{k:IntKind}{a b c:Int}{l m:lB}{n:Nat}{lo:oN}{H L:List ae}{R:aT->Prop}
def Xz:dh .add (.int k a) (.int k b)=some (.int k (k.wrap (a+b))):=by simp[dh,lI]
def XD:dh .sub (.int k a) (.int k b)=some (.int k (k.wrap (a-b))):=by simp[dh,lI]
def XE:dh .mul (.int k a) (.int k b)=some (.int k (k.wrap (a*b))):=by simp[dh,lI]
def XF:dh .quo (.int k a) (.int k b)=if b≠0 then some (.int k (k.wrap (a.tdiv b)))else none:=by
 by_cases h:b=0<;>simp[dh,lI,h]
def XG:dh .rem (.int k a) (.int k b)=if b≠0 then some (.int k (a.tmod b))else none:=by
 by_cases h:b=0<;>simp[dh,lI,h]
def XH:dh .lss (.int k a) (.int k b)=some (.bool (decide (a<b))):=by simp[dh,lI]
def XI:dh .leq (.int k a) (.int k b)=some (.bool (decide (a<=b))):=by simp[dh,lI]
def XJ:dh .gtr (.int k a) (.int k b)=some (.bool (decide (b<a))):=by simp[dh,lI]
def XK:dh .geq (.int k a) (.int k b)=some (.bool (decide (b<=a))):=by simp[dh,lI]
def CP:dh .and (.int k a) (.int k b)=some (.int k (k.wrap (BitVec.ofInt k.bits a&&&BitVec.ofInt k.bits b).toNat)):=by simp[dh,lI,vf]
def GP:dh .or (.int k a) (.int k b)=some (.int k (k.wrap (BitVec.ofInt k.bits a|||BitVec.ofInt k.bits b).toNat)):=by simp[dh,lI,vf]
def M9:dh .xor (.int k a) (.int k b)=some (.int k (k.wrap (BitVec.ofInt k.bits a^^^BitVec.ofInt k.bits b).toNat)):=by simp[dh,lI,vf]
def Na:dh .andNot (.int k a) (.int k b)=some (.int k (k.wrap (BitVec.ofInt k.bits a&&& ~~~ (BitVec.ofInt k.bits b)).toNat)):=by simp[dh,lI,vf]
def z9:kn .shl (.int k a) (.int k' b)=if 0<=b then some (.int k (k.wrap (a*2^(min b.toNat k.bits))))else none:=by
 by_cases h:0<=b
 ·have: ¬b<0:=by omega
  simp[kn,vg,h,this]
 ·have:b<0:=by omega
  simp[kn,vg,h,this]
def CQ:kn .shr (.int k a) (.int k' b)=if 0<=b then some (.int k (a.fdiv (2^(min b.toNat k.bits))))else none:=by
 by_cases h:0<=b
 ·have: ¬b<0:=by omega
  simp[kn,vg,h,this]
 ·have:b<0:=by omega
  simp[kn,vg,h,this]
def eq_int:dA .int (.int k a) (.int k b)=some (decide (a=b)):=by
 simp only[dA,pJ,aeE];grind
theorem XL{x y:Bool}:dA .bool (.bool x) (.bool y)=some (x==y):=rfl
theorem XM{x:Bool}:xf .not (.bool x)=some (.bool !x):=rfl
theorem XN:xf .neg (.int k a)=some (.int k (k.wrap (0-a))):=rfl
theorem XO:fb E .str (S l)=some (.int .i64 l.length):=by rfl
def XP:xg (S l) (.int k a)=if 0<=a/\a<l.length then some (.int .u8 (l.getD a.toNat 0).toNat)else none:=by
 simp only[xg,rf,S]
 grind
def anP(i j:Nat): (⟨l.toArray⟩:ByteArray).extract i j=⟨((l.take j).drop i).toArray⟩:=by
 apply ByteArray.ext;simp[ByteArray.data_extract,avG]
def GQ:sO (S l) (some (.int k a)) none=if 0<=a/\a<=l.length then some (S (l.drop a.toNat))else none:=by
 simp only[sO,S,fY,k0,anJ];by_cases h:0<=a/\a<=l.length
 ·simp_all[acE,anP]
 grind
theorem XQ: (S l).cm=false:=rfl
theorem XR: (S l).cells=[S l]:=rfl
theorem XS: (S l).refs=0:=rfl
def XT:dE X n lo [.t t] R .ret ⟨e,[]⟩ E=R (.ret (finish n lo (e t) E).1 (finish n lo (e t) E).2):=by
 simp[dE,dC,Wi]
def XU{u:Nat}:dE X n lo [.t t,.t u] R .ret ⟨e,[]⟩ E=R (.ret (finish n lo (.av [e t,e u]) E).1 (finish n lo (.av [e t,e u]) E).2):=by
 simp[dE,dC,anN]
def XV{u v:Nat}:dE X n lo [.t t,.t u,.t v] R .ret ⟨e,[]⟩ E=R (.ret (finish n lo (.av [e t,e u,e v]) E).1 (finish n lo (.av [e t,e u,e v]) E).2):=by
 simp[dE,dC,anO]
def XW:dE X n lo [] R .ret ⟨e,[]⟩ E=R (.ret (finish n lo (.av []) E).1 (finish n lo (.av []) E).2):=by
 simp[dE,dC,fA,jO]
def XX:dE X n lo [] R .normal ⟨e,[]⟩ E=R (.ret (finish n lo (.av []) E).1 (finish n lo (.av []) E).2):=by
 simp[dE,dC,fA,jO]
def Aa:finish n lo v ⟨H,none⟩=if v.refs<=n then(v,⟨H.take n,lo⟩)else match freeze ⟨H,none⟩ n 12 v with|some v'=>(v',⟨H.take n,lo⟩)|none=>(v,⟨H,fX lo none⟩):=by
 by_cases h:v.refs<=n
 ·rw[acE h,Wc rfl h]
 ·rw[acz h];rfl
def CR:finish n lo v ⟨H,some j⟩=if n<=j then(if v.refs<=n then(v,⟨H.take n,lo⟩)else match freeze ⟨H,some j⟩ n 12 v with|some v'=>(v',⟨H.take n,lo⟩)|none=>(v,⟨H,fX lo (some j)⟩))else(v,⟨H,fX lo (some j)⟩):=by
 by_cases d:n<=j
 ·rw[acE d];by_cases h:v.refs<=n
  ·rw[acE h,Wc (by grind) h]
  ·rw[acz h];simp only[finish,aje,acE d];rfl
 ·simp only[finish,aje,acz d]
def XY(h:H.length=n):H.take n=H:=by grind
theorem XZ{agg:Bool}{m id off:Nat}{lo:oN}:bW X ⟨H,lo⟩ agg m (.ptr id off)=match H[id]? with
 |some (.box cs _)=>part agg m cs off
 |_=>none:=rfl
theorem X7{agg:Bool}{m off:Nat}{cs:lA}:bW X E agg m (.eN cs off)=part agg m cs off:=rfl
theorem X8{m id off:Nat}{v:AV}{lo:oN}:jM ⟨H,lo⟩ m (.ptr id off) v=match H[id]? with
 |some (.box cs tg)=>if v.cm=false/\v.cells.length=m/\off+m<=cs.length then some (AS.set ⟨H,lo⟩ id (.box (aM cs off v.cells) tg) v.refs)else none
 |_=>none:=rfl
theorem X9{m:Nat}{cs:lA}{off:Nat}:part false m cs off=cs[off]?:=rfl
theorem Ya{m:Nat}{cs:lA}{off:Nat}:part true m cs off=if off+m<=cs.length then some (.agg ((cs.drop off).take m))else none:=rfl
theorem Yb{id off:Nat}:vl (.ptr id off)=some (.ptr id off):=rfl
theorem Yc{id off:Nat}:vl (.dc id ai i off)=some (.dc id ai i off):=rfl
theorem Yd{cs:lA}{off:Nat}:vl (.eN cs off)=some (.eN cs off):=rfl
theorem Ye{id off m:Nat}:vk X m (.ptr id off)=some (.ptr id (off+m)):=rfl
theorem Yf{id off m:Nat}:vk X m (.dc id ai i off)=some (.dc id ai i (off+m)):=rfl
theorem Yg{cs:lA}{off m:Nat}:vk X m (.eN cs off)=some (.eN cs (off+m)):=rfl
theorem Yh:rF E (.int k a) tg=some (.ptr E.heap.length 0,E.push (.box [.int k a] tg)):=rfl
theorem Yi{b:Bool}:rF E (.bool b) tg=some (.ptr E.heap.length 0,E.push (.box [.bool b] tg)):=rfl
theorem Yj:rF E (S l) tg=some (.ptr E.heap.length 0,E.push (.box [S l] tg)):=rfl
theorem Yk{cs:lA}:rF E (.agg cs) tg=some (.ptr E.heap.length 0,E.push (.box cs tg)):=rfl
def Yl{cs:lA}:aM cs 0 vs=vs++cs.drop vs.length:=by simp[aM]
def Ym{cs:lA}{c:AV}{off:Nat}:aM (c::cs) (off+1) vs=c::aM cs off vs:=by
 simp[aM,Nat.add_right_comm]
theorem Yn{k:IntKind}{n:Int}:AV.cm (.int k n)=false:=rfl
theorem Yo{k:IntKind}{n:Int}:AV.cells (.int k n)=[.int k n]:=rfl
theorem Yp{b:Bool}:AV.cm (.bool b)=false:=rfl
theorem Yq{b:Bool}:AV.cells (.bool b)=[.bool b]:=rfl
theorem Yr{o:Nat}:AV.cm (.ptr i o)=false:=rfl
theorem Ys{o:Nat}:AV.cells (.ptr i o)=[.ptr i o]:=rfl
theorem Yt{v o:Nat}:AV.cm (.dc i v j o)=false:=rfl
theorem Yu{v o:Nat}:AV.cells (.dc i v j o)=[.dc i v j o]:=rfl
theorem Yv{cs:lA}{o:Nat}:AV.cm (.eN cs o)=false:=rfl
theorem Yw{cs:lA}{o:Nat}:AV.cells (.eN cs o)=[.eN cs o]:=rfl
theorem Yx:AV.cm (.dP)=false:=rfl
theorem Yy:AV.cells (.dP)=[.dP]:=rfl
theorem Yz:AV.cm (.an)=false:=rfl
theorem YA:AV.cells (.an)=[.an]:=rfl
theorem YB{c:Bool}:AV.cm (.sl af c)=false:=rfl
theorem YC{c:Bool}:AV.cells (.sl af c)=[.sl af c]:=rfl
theorem YD{v z o l:Nat}{c:Bool}:AV.cm (.ref i v z o l c)=false:=rfl
theorem YE{v z o l:Nat}{c:Bool}:AV.cells (.ref i v z o l c)=[.ref i v z o l c]:=rfl
theorem YF{z o l:Nat}:AV.cm (.fa i z o l)=false:=rfl
theorem YG{z o l:Nat}:AV.cells (.fa i z o l)=[.fa i z o l]:=rfl
theorem YH:AV.cm (.lH)=false:=rfl
theorem YI:AV.cells (.lH)=[.lH]:=rfl
theorem YJ:AV.cm (.mp i)=false:=rfl
theorem YK:AV.cells (.mp i)=[.mp i]:=rfl
theorem YL{f:Fn}{a b:lA}:AV.cm (.fn f a b)=false:=rfl
theorem YM{f:Fn}{a b:lA}:AV.cells (.fn f a b)=[.fn f a b]:=rfl
theorem YN:AV.cm (.dg)=false:=rfl
theorem YO:AV.cells (.dg)=[.dg]:=rfl
theorem YP{t:TypeId}:AV.cm (.c8 t v)=false:=rfl
theorem YQ{t:TypeId}:AV.cells (.c8 t v)=[.c8 t v]:=rfl
theorem YR:AV.cm (.eC)=false:=rfl
theorem YS:AV.cells (.eC)=[.eC]:=rfl
theorem YT{g:Nat}:AV.cm (.dy g)=false:=rfl
theorem YU{g:Nat}:AV.cells (.dy g)=[.dy g]:=rfl
theorem YW{cs:lA}:AV.cm (.agg cs)=false:=rfl
theorem YX{cs:lA}:AV.cells (.agg cs)=cs:=rfl
theorem YY{k:IntKind}{n:Int}:AV.refs (.int k n)=0:=by rfl
theorem YZ{b:Bool}:AV.refs (.bool b)=0:=by rfl
theorem Y0{o:Nat}:AV.refs (.ptr i o)=i+1:=by rfl
theorem Y1:AV.refs (.an)=0:=by rfl
theorem Y2{v z o l:Nat}{c:Bool}:AV.refs (.ref i v z o l c)=i+1:=by rfl
theorem Y3:AV.refs (.mp i)=i+1:=by rfl
theorem Y4{f:Nat}{a b:lA}:AV.refs (.fn (.func f) a b)=max (aI a) (aI b):=by rfl
theorem Y5{t:TypeId}:AV.refs (.c8 t v)=v.refs:=by rfl
theorem Y6{cs:lA}:AV.refs (.agg cs)=aI cs:=by rfl
theorem Y7{cs:lA}:AV.refs (.av cs)=aI cs:=by rfl
theorem Y8{c:Bool}:AV.refs (.sl af c)=bT af:=by rfl
theorem Y9:aI []=0:=by rfl
theorem Za{a:AV}{as:lA}:aI (a::as)=max a.refs (aI as):=by rfl
theorem Zb{a:AV}{as:lA}:c9 (a::as) 0=a:=rfl
theorem Zc{a:AV}{as:lA}{n:Nat}:c9 (a::as) (n+1)=c9 as n:=rfl
theorem Zd{n:Nat}:c9 [] n= .undef:=rfl
theorem Ze: (!true)=false:=rfl
theorem Zf: (!false)=true:=rfl
end
structure Rd(E:AS)(v:AV)(sz:Nat)(af:List lA):Prop where
 kind:match v with|.an|.sl .. |.ref .. =>True|_=>False
 eq:elems E sz v=some af
 ayO: ∀el∈af,el.length=sz
def eh(v:AV)(j off:Nat):AV:=
 match v with
 |.sl af _=>.eN (af.getD j []) off
 |.ref id ai _ o _ _=>.dc id ai (o+j) off
 |_=>.pG
section
variable{X:Ctx}{E:AS}{v:AV}{sz:Nat}{af:List lA}{k:IntKind}{a:Int}
def Rd.len(h:Rd E v sz af):fb E .sl v=some (.int .i64 af.length):=by
 obtain⟨i,d,j⟩:=h;cases v<;>simp only[]at i
 ·cases d;rfl
 ·simp only[elems]at d;split at d<;>cases d;rfl
 ·simp only[elems]at d;split at d
  ·split at d
   ·simp only[fb];grind
   grind
  grind
def Rd.addr(h:Rd E v sz af):iG sz v (.int k a)=if 0<=a/\a<af.length then some (eh v a.toNat 0)else none:=by
 obtain⟨o,d,p⟩:=h;cases v<;>simp only[]at o
 ·cases d;have: ¬(0<=a/\a< (([]:List lA).length:Int)):=by simp
  rw[acz this];rfl
 ·simp only[elems]at d;simp only[iG,rf,eh]
  grind
 ·rename_i id ai z off len cI;simp only[elems]at d;split at d
  ·split at d
   ·rename_i j;cases d;simp only[iG,rf,eh];have e: ((List.take len (List.drop off (by assumption))).length:Nat)=len:=by rw[aeD,alN];omega
    rw[e];by_cases i:0<=a/\a<len
    ·rw[acE ⟨i.1,i.2,j.2.2.1⟩,acE i]
    ·rw[acz (λh=>i ⟨h.1,h.2.1⟩),acz i]
   grind
  grind
def Rd.load(h:Rd E v sz af){off:Nat}{agg:Bool}(r:j<af.length):bW X E agg n (eh v j off)=part agg n (af.getD j []) off:=by
 obtain⟨q,d,s⟩:=h;cases v<;>simp only[]at q
 ·simp only[elems]at d;grind
 ·simp only[elems]at d;split at d<;>cases d;rfl
 ·simp only[elems]at d;split at d
  ·rename_i v' o ty i p;split at d
   ·simp only[eh,bW,p]
    grind
   grind
  grind
theorem Rd.sl{af:List lA}(h: ∀el∈af,el.length=sz):Rd E (.sl af c) sz af:=
 ⟨trivial,by simp only[elems];grind,h⟩
theorem Rd.an:Rd E .an sz []:=⟨trivial,rfl,by simp⟩
def Rd.ext{H L:List ae}(h:Rd ⟨H,lo⟩ v sz af):Rd ⟨H++L,aj⟩ v sz af:=by
 obtain⟨i,d,j⟩:=h;refine⟨i,?_,j⟩;cases v<;>simp only[]at i
 ·exact d
 ·exact d
 ·simp only[elems]at d⊢
  grind
end
def Nb{f:AV->AV->Option AV}{x:AV}:ga f [x]=some x:=by rw[ga]
def Zg{f:AV->AV->Option AV}{x y z:AV}{r:lA}(h:f x y=some z):ga f (x::y::r)=ga f (z::r):=by rw[ga,h]
def Nc{k:IntKind}{a b:Int}{r:lA}:ga pL (.int k a:: .int k' b::r)=ga pL (.int k (max a b)::r):=by
 refine Zg ?_;simp only[pL];grind
def Zh{k:IntKind}{a b:Int}{r:lA}:ga vi (.int k a:: .int k' b::r)=ga vi (.int k (min a b)::r):=by
 refine Zg ?_;simp only[vi];grind
def Rd.mono{H H':List ae}(h:Rd ⟨H,lo⟩ v sz af)(d:H<+:H'):Rd ⟨H',aj⟩ v sz af:=by
 obtain⟨L,rfl⟩:=d;exact h.ext
def Rv(v:AV)(sz:Nat)(af:List lA):Prop:= ∀E,Rd E v sz af
def Rv.len(h:Rv v sz af){E:AS}:fb E .sl v=some (.int .i64 af.length):=(h E).len
def Rv.addr(h:Rv v sz af){k:IntKind}{a:Int}:iG sz v (.int k a)=if 0<=a/\a<af.length then some (eh v a.toNat 0)else none:=(h ⟨[],none⟩).addr
theorem Rv.load{X:Ctx}(h:Rv v sz af){E:AS}{off:Nat}{agg:Bool}(d:j<af.length):bW X E agg n (eh v j off)=part agg n (af.getD j []) off:=(h E).load d
theorem Rv.sl(h: ∀el∈af,el.length=sz):Rv (.sl af c) sz af:=λ_=>.sl h
theorem Rv.an:Rv .an sz []:=λ_=>.an
def de{v':AV}{H H':List ae}(h:v=v')(d:H=H'):aT.ret v ⟨H,lo⟩=aT.ret v' ⟨H',lo⟩:=by grind
theorem Zi: ((k+m:Nat):Int)=(k:Int)+(m:Int):=by rfl
theorem cast_zero: ((0:Nat):Int)=0:=rfl
def Zj{α:Type}[Inhabited α]{g:α->lA}{l:List α}(h:j<l.length): (l.map g).getD j []=g (l.getD j default):=by grind
section
variable{α:Type}{g:α->lA}{l:List α}{v:AV}{sz:Nat}
def Rv.bK(h:Rv v sz (l.map g)){E:AS}:fb E .sl v=some (.int .i64 l.length):=by rw[h.len,aej]
def Rv.cG(h:Rv v sz (l.map g)){k:IntKind}{a:Int}:iG sz v (.int k a)=if 0<=a/\a<l.length then some (eh v a.toNat 0)else none:=by rw[h.addr,aej]
def Rv.cS[Inhabited α]{X:Ctx}(h:Rv v sz (l.map g)){E:AS}{off:Nat}{agg:Bool}(d:j<l.length):bW X E agg n (eh v j off)=part agg n (g (l.getD j default)) off:=by
 rw[h.load (by grind),Zj d]
def Rd.bK{E:AS}(h:Rd E v sz (l.map g)):fb E .sl v=some (.int .i64 l.length):=by rw[h.len,aej]
def Rd.cG{E:AS}(h:Rd E v sz (l.map g)){k:IntKind}{a:Int}:iG sz v (.int k a)=if 0<=a/\a<l.length then some (eh v a.toNat 0)else none:=by rw[h.addr,aej]
def Rd.cS[Inhabited α]{X:Ctx}{E:AS}(h:Rd E v sz (l.map g)){off:Nat}{agg:Bool}(d:j<l.length):bW X E agg n (eh v j off)=part agg n (g (l.getD j default)) off:=by
 rw[h.load (by grind),Zj d]
end
def V1:=gG @Xz<|gG @XD<|gG @XE<|gG @XF<|gG @XG<|gG @XH<|gG @XI<|gG @XJ<|gG @XK<|gG @CP<|gG @GP<|gG @M9<|gG @Na<|gG @z9<|gG @CQ<|gG @eq_int<|gG @XL<|gG @XM<|gG @XN<|gG @XO<|gG @XP<|gG @GQ<|gG @XQ<|gG @XR<|gG @XS<|gG @XT<|gG @XU<|gG @XV<|gG @XW<|gG @XX<|gG @XZ<|gG @X7<|gG @X8<|gG @X9<|gG @Ya<|gG @Yb<|gG @Yc<|gG @Yd<|gG @Ye<|gG @Yf<|gG @Yg<|gG @Yh<|gG @Yi<|gG @Yj<|gG @Yk<|gG @Yl<|gG @Ym<|gG @Wb<|gG @V8 @V9
def V3:type_of% @Zb/\type_of% @cast_zero/\type_of% @Zi/\type_of% @Int.toNat_natCast/\type_of% @Int.natCast_nonneg/\type_of% @Nb/\type_of% @Nc/\type_of% @Zh/\type_of% @Zc/\type_of% @Zd/\type_of% @Ze/\type_of% @Zf/\type_of% @Option.map_some.{0,0}/\type_of% @Option.map_none.{0,0}/\type_of% @List.map_cons.{0,0}/\type_of% @List.map_nil.{0,0}/\type_of% @not_false_eq_true/\type_of% @true_and/\type_of% @and_true/\type_of% @Nat.zero_le/\type_of% @List.length_cons.{0}/\type_of% @List.length_nil.{0}/\type_of% @List.length_append.{0}/\type_of% @List.length_map.{0,0}/\type_of% @if_true.{1}/\type_of% @if_false.{1}/\type_of% @if_true.{0}/\type_of% @if_false.{0}/\type_of% @ne_eq.{1}/\type_of% @List.cons_append.{0}/\type_of% @List.nil_append.{0}/\type_of% @List.append_nil.{0}/\type_of% @Nat.zero_add/\type_of% @List.length_set.{0}/\type_of% @List.append_assoc.{0}/\type_of% @List.getElem?_cons_zero.{0}/\type_of% @List.getElem?_cons_succ.{0}/\type_of% @List.set_cons_zero.{0}/\type_of% @List.set_cons_succ.{0}/\type_of% @List.drop_succ_cons.{0}/\type_of% @List.drop_zero.{0}/\type_of% @List.take_succ_cons.{0}/\type_of% @List.take_zero.{0}/\type_of% @Nat.max_self/\type_of% @Nat.zero_max/\type_of% @Nat.max_zero:=
 ⟨@Zb,@cast_zero,@Zi,@ayr,@Int.natCast_nonneg,@Nb,@Nc,@Zh,@Zc,@Zd,@Ze,@Zf,@aei.{0,0},@Option.map_none.{0,0},@alM.{0,0},@avb.{0,0},@not_false_eq_true,@axg,@akq,@ac7,@aep.{0},@alQ.{0},@ac6.{0},@aej.{0,0},@aeE.{1},@ahz.{1},@aeE.{0},@ahz.{0},@ne_eq.{1},@af3.{0},@afY.{0},@aeC.{0},@ajg,@aen.{0},@acF.{0},@aos.{0},@avO.{0},@List.set_cons_zero.{0},@List.set_cons_succ.{0},@anc.{0},@aks.{0},@aoo.{0},@List.take_zero.{0},@Nat.max_self,@Nat.zero_max,@Nat.max_zero⟩
def F1:=gG @Aa @CR
def V2:=gG @Yn<|gG @Yp<|gG @Yr<|gG @Yt<|gG @Yv<|gG @Yx<|gG @Yz<|gG @YB<|gG @YD<|gG @YF<|gG @YH<|gG @YJ<|gG @YL<|gG @YN<|gG @YP<|gG @YR<|gG @YT<|gG @YW<|gG @Yo<|gG @Yq<|gG @Ys<|gG @Yu<|gG @Yw<|gG @Yy<|gG @YA<|gG @YC<|gG @YE<|gG @YG<|gG @YI<|gG @YK<|gG @YM<|gG @YO<|gG @YQ<|gG @YS<|gG @YU<|gG @YX<|gG @YY<|gG @YZ<|gG @Y0<|gG @Y1<|gG @Y2<|gG @Y3<|gG @Y4<|gG @Y5<|gG @Y6<|gG @Y7<|gG @Y8<|gG @Y9 @Za
def gu:List aP->lN
 | []=>[]
 |o::os=>match o.dst with
  |some d=>d::gu os
  |none=>gu os
def Fr.Cu{fr:Fr}(h:d≠some t): (fr.put d v).env t=fr.env t:=by
 cases d with
 |none=>rfl
 |some d=>
  simp only[Fr.put,Env.set]
  grind
section
variable{X:Ctx}{C:bw}{L:ef}
theorem Nd: ∀ (os:List aP) (fr a:Fr) (E E':AS) (ex:Ex),eH X C os fr E=some (ex,a,E')-> ∀t,t∉gu os->a.env t=fr.env t
 | [],fr,a,E,E',ex,h,t,j=>by simp only[eH,acy,aof]at h;grind
 |o::os,fr,a,E,E',ex,h,t,j=>by
  have k:o.dst≠some t:=by
   intro e;apply j;simp[gu,e]
  have g:t∉gu os:=by
   intro e;apply j;simp only[gu];grind
  simp only[eH]at h;split at h
  ·split at h
   ·rw[Nd os _ _ _ _ _ h t g,Fr.Cu k]
   ·grind
   grind
  ·rw[Nd os _ _ _ _ _ h t g,Fr.Cu k]
end
def rG:lN->Nat->Bool
 | [],_=>false
 |a::as,t=>a==t||rG as t
theorem Zk{t:Nat}: ∀ {W:lN},rG W t=true↔t∈W
 | []=>by simp[rG]
 |a::as=>by
  simp only[rG,anX,aul,aeB];rw[Zk]
  grind
def Zl(b:Bool)(a e:Env)(t:Nat):AV:=match b with|true=>a t|false=>e t
theorem Zm{a:Env}:Zl true a e t=a t:=rfl
theorem Zn{a:Env}:Zl false a e t=e t:=rfl
section
variable{X:Ctx}{f:FuncId}{rd:Bool}{E nq:AS}{Q:bQ}{e:Env}{ms:lN}{t:Nat}{b c:Bool}{d:oN}{i:I}{os:List aP}
def Nf(r:Nat)(v:AV)(ms:lN)(nq:AS)(Q:bQ):bQ
 |.normal,fr,E'=>fr.env r=v/\fr.marks=ms/\E'=nq
 |ex,fr,E'=>Q ex fr E'
theorem Zo{ms a:lN}:Nf r v ms nq Q .normal ⟨e,a⟩ E=(e r=v/\a=ms/\E=nq):=rfl
end
def vy(e:Env):lN->Env->Env
 | [],a=>a
 |t::ts,a=>(vy e ts a).set t (e t)
theorem Zp{W:lN}{e g:Env}(h: ∀t,t∉W->g t=e t): ∀a:lN,a.all (λk=>!rG W k)=true->vy e a g=g
 | [],_=>rfl
 |k::a,j=>by
  simp only[auk,afJ]at j;have l:k∉W:=by
   intro hm;have:=Zk.2 hm
   grind
  simp only[vy];rw[Zp h a j.2,<-h k l,Env.MV]
section
variable{X:Ctx}{f:FuncId}{rd:Bool}{E:AS}{Q:bQ}{e:Env}{ms:lN}{t:Nat}{b c:Bool}{d:oN}{i:I}{os:List aP}
def anQ(nq:AS)(r:Nat)(v:AV)(g:lN)(l:g.all (λk=>!rG (gu os) k)=true)(u:dn X os ⟨e,ms⟩ E (Nf r v ms nq Q))(q: ∀w,Q .normal ⟨(vy e g w).set r v,ms⟩ nq):dn X os ⟨e,ms⟩ E Q:=by
 obtain⟨ex,a,E',h,j⟩:=u;have m:=Nd os _ _ _ _ _ h;refine⟨ex,a,E',h,?_⟩;cases ex with
 |normal=>
  obtain⟨p,o,n⟩:=j;have:=q a.env;rw[Zp m g l,<-p,Env.MV,<-o,<-n]at this;omega
 |_=>exact j
def vz(r:Nat)(v:AV)(a:lN){g:AV}(l:e t=g)(j:a.all (λk=>!rG (gu (⟨none,d,i⟩::os)) k)=true)(h:gK X t b d i os e ms E (Nf r v ms E Q) g)(m: ∀n,Q .normal ⟨(vy e a n).set r v,ms⟩ E):gK X t b d i os e ms E Q g:=by
 subst l;have key: ∀Q,gK X t b d i os e ms E Q (e t)=dn X (⟨some (t,b),d,i⟩::os) ⟨e,ms⟩ E Q:=by
  intro Q;cases b
  ·exact M7.symm
  ·exact M6.symm
 rw[key]at h⊢;exact anQ E r v a j h m
def anR(r:Nat)(v:AV)(ms:lN)(P:AS->Prop)(Q:bQ):bQ
 |.normal,fr,E'=>fr.env r=v/\fr.marks=ms/\P E'
 |ex,fr,E'=>Q ex fr E'
theorem Zq{ms a:lN}{P:AS->Prop}:anR r v ms P Q .normal ⟨e,a⟩ E=(e r=v/\a=ms/\P E):=rfl
def Ng(P:Env->List ae->oN->Prop)(Q:bQ):bQ
 |.normal,fr,E'=>fr.marks=[]/\P fr.env E'.heap E'.lo
 |ex,fr,E'=>Q ex fr E'
def GR{P:Env->List ae->oN->Prop}{H:List ae}:Ng P Q .normal ⟨e,[]⟩ ⟨H,lo⟩=P e H lo:=by simp[Ng]
def Zr{p q:PC}{a:AV}(P:Env->List ae->oN->Prop)(g:ns X f rd p q ⟨e,[]⟩ E (Ng P Q) a)(l: ∀e H lo,P e H lo->Q .normal ⟨e,[]⟩ ⟨H,lo⟩):ns X f rd p q ⟨e,[]⟩ E Q a:=by
 have key: ∀Q,ns X f rd p q ⟨e,[]⟩ E Q a=wp X f rd (.cond (.c a) p q) ⟨e,[]⟩ E Q:=λQ=>by rw[M8];rfl
 rw[key]at g⊢;refine wp_mono g ?_;rintro ex ⟨m,ms⟩ ⟨H,lo⟩ h;cases ex with
 |normal=>obtain⟨k,j⟩:=h;grind
 |_=>exact h
end
def nu(n:Nat)(a:AV):FP:=match a with
 |.ptr id off=>.rd id off (Nat.max n 1)
 |.dc .. =>.rr
 |.eN .. =>.no
 |.dy _=>.no
 |_=>.all
def GS(n:Nat)(a:AV):FP:=match a with
 |.ptr id off=>.wr id off n
 |.dc .. =>.app
 |_=>.all
noncomputable def Nh(E E':AS):FP:=open Classical in if E'=E then .q else if E'.heap.take E.heap.length=E.heap then .new E.heap.length else .all
section
variable{e:Env}{E E':AS}
theorem Zs:aX (.mov x) e E E'= .no:=rfl
theorem Zt{c:ao}{a:ao}{b:ao}:aX (.pick c a b) e E E'= .no:=rfl
theorem Zu{a:List (Nat×Nat×ao)}:aX (.build z a) e E E'= .no:=rfl
theorem Zv{a:List (Nat×Nat×ao)}:aX (.bslice z n a) e E E'= .no:=rfl
theorem Zw:aX (.nilck x) e E E'= .no:=rfl
theorem Zx{a:BinOp}:aX (.bin a x y) e E E'= .no:=rfl
theorem Zy{a:BinOp}:aX (.shf a x y) e E E'= .no:=rfl
theorem ZA{k:EK}:aX (.eq k x y) e E E'= .no:=rfl
theorem ZB{k:EK}:aX (.ne k x y) e E E'= .no:=rfl
theorem ZC{a:UnOp}:aX (.un a x) e E E'= .no:=rfl
theorem ZD{a:IntKind}:aX (.conv a x) e E E'= .no:=rfl
theorem ZE:aX (.s2b x) e E E'= .no:=rfl
theorem ZF{ty:TypeId}:aX (.mki ty x) e E E'= .no:=rfl
theorem ZG{fn:Fn}{g:List ao}{a:List ao}:aX (.mkf fn g a) e E E'= .no:=rfl
theorem ZH{lo:Option ao}{a:Option ao}:aX (.slstr x lo a) e E E'= .no:=rfl
theorem ZI{lo:Option ao}{g:Option ao}{a:Option ao}:aX (.slsl n x lo g a) e E E'= .no:=rfl
theorem ZJ{lo:Option ao}{a:Option ao}:aX (.slarr n m x lo a) e E E'= .no:=rfl
theorem ZK:aX (.faddr n x) e E E'= .no:=rfl
theorem ZL:aX (.fld ag n m x) e E E'= .no:=rfl
theorem ZM:aX (.iaddra n m x y) e E E'= .no:=rfl
theorem ZN:aX (.iaddrs n x y) e E E'= .no:=rfl
theorem ZO:aX (.idxa ag n m x y) e E E'= .no:=rfl
theorem ZP:aX (.idxs x y) e E E'= .no:=rfl
theorem ZQ{a:AV}{ty:TypeId}{g:Bool}:aX (.ta a x ty g) e E E'= .no:=rfl
theorem ZR:aX (.ext x n) e E E'= .no:=rfl
theorem ZS{a:List ao}:aX (.max a) e E E'= .no:=rfl
theorem ZT{a:List ao}:aX (.min a) e E E'= .no:=rfl
theorem ZU{k:EK}{a:AV}{g:Bool}:aX (.lookup k a x y g) e E E'= .q:=rfl
theorem ZV:aX (.len .sl x) e E E'= .no/\aX (.len .str x) e E E'= .no/\aX (.len .map x) e E E'= .q:=⟨rfl,rfl,rfl⟩
theorem ZW{ty:TypeId}:aX (.append ty n m x y) e E E'= .app:=rfl
theorem ZX:aX (.alloc z tg) e E E'= .all:=rfl
theorem ZY:aX (.box x tg) e E E'= .all:=rfl
theorem ZZ{ty:TypeId}{a:List (Nat×Nat×ao)}:aX (.re ty z n a) e E E'= .all:=rfl
theorem Z0:aX (.nf) e E E'= .all:=rfl
theorem Z1{k:EK}{c:ao}:aX (.om k x y c) e E E'= .all:=rfl
theorem Z2:aX (.copy n x y) e E E'= .all:=rfl
theorem Z3:aX (.clear z x) e E E'= .all:=rfl
theorem Z4:aX (.panic x) e E E'= .all:=rfl
theorem Z5:aX (.load ag n x) e E E'=nu n (x.get e):=by rfl
theorem Z6:aX (.store n x y) e E E'=GS n (x.get e):=by rfl
theorem Z7{a:List ao}:aX (.call x a) e E E'=Nh E E':=rfl
def Z8:Nh E E= .q:=by simp[Nh]
theorem Z9{id off:Nat}:nu n (.ptr id off)= .rd id off (Nat.max n 1)/\nu n (.dc id ai i off)= .rr:=⟨rfl,rfl⟩
theorem aaa{off:Nat}{cs:lA}:nu n (.eN cs off)= .no:=rfl
theorem aab{g:Nat}:nu n (.dy g)= .no:=rfl
theorem aac{id off:Nat}:GS n (.ptr id off)= .wr id off n/\GS n (.dc id ai i off)= .app:=⟨rfl,rfl⟩
theorem Rv.nu(h:Rv v sz af){off:Nat}(k:j<af.length):Den.nu n (eh v j off)= .no:=by
 obtain⟨g,a,l⟩:=h ⟨[],none⟩;cases v<;>simp only[]at g
 ·simp only[Den.elems]at a;grind
 ·rfl
 ·trivial
def Rv.aad{α:Type}{g:α->lA}{l:List α}(h:Rv v sz (l.map g)){off:Nat}(a:j<l.length):Den.nu n (eh v j off)= .no:=h.nu (by grind)
theorem GU{x:FP}:FP.ok .no x=true:=by rfl
def GV{x:FP}:FP.ok x .no=true:=by cases x<;>rfl
theorem GW{b c h g:Nat}:FP.ok (.rd a b c) (.rd a' h g)=true:=rfl
theorem GX{b c:Nat}:FP.ok (.rd a b c) .q=true:=rfl
theorem GY{b c:Nat}:FP.ok .q (.rd a b c)=true:=rfl
theorem GZ:FP.ok .q .q=true:=rfl
theorem aae{b c:Nat}:FP.ok .rr (.rd a b c)=true/\FP.ok (.rd a b c) .rr=true/\FP.ok .rr (.wr a b c)=true/\FP.ok (.wr a b c) .rr=true:=⟨rfl,rfl,rfl,rfl⟩
def aaf:FP.ok .rr .q=true/\FP.ok .q .rr=true/\FP.ok .rr .rr=true:=by decide
theorem G4{b c:Nat}:FP.ok (.rd a b c) .app=true:=rfl
theorem G5{b c:Nat}:FP.ok .app (.rd a b c)=true:=rfl
theorem G6{b c g h:Nat}:FP.ok (.rd a b c) (.wr a' g h)=(a !=a'||b+c<=g||g+h<=b):=rfl
theorem G7{b c g h:Nat}:FP.ok (.wr a b c) (.rd a' g h)=(a !=a'||b+c<=g||g+h<=b):=rfl
end
def qc(bG:List FP)(x:FP):lN->Bool
 | []=>true
 |j::js=>(bG.getD j .all).ok x&&qc bG x js
theorem Ni{bG:List FP}{x:FP}: ∀js:lN,js.all (λj=>(bG.getD j .all).ok x)=qc bG x js
 | []=>rfl
 |j::js=>by simp only[auk,qc,Ni js]
def kD(X:Ctx)(i:I)(cn:AS)(bG:List FP)(js:lN)(os:List (aP×lN))(d:oN)(e:Env)(ms:lN)(Q:bQ):AV->AS->Prop:=λv E=>
 qc bG (aX i e cn E) js=true/\gr X (bG++[aX i e cn E]) os (Fr.put ⟨e,ms⟩ d v) E Q
def kF(bG:List FP)(i:I)(d:oN)(js:lN)(os:List (aP×lN))(e:Env)(ms:lN)(Q:bQ):AV->AS->Prop:=λv E=>Ca bG (⟨none,d,i⟩,js) os=true/\Q (.panic v) ⟨e,ms⟩ E
def aag{X:Ctx}{E:AS}{Q:bQ}{ms:lN}{bG:List FP}{js:lN}{os:List (aP×lN)}{i:I}:gr X bG ((⟨none,d,i⟩,js)::os) ⟨e,ms⟩ E Q=aQ X i e E (kD X i E bG js os d e ms Q) (kF bG i d js os e ms Q):=by
 apply propext;simp only[gr,aQ,gb,fO,aeE];cases g:exec X (D X) i e E with
 |none=>simp[qb]
 |some o=>
  cases o with
  |ok v E'=>
   simp only[qb,Ni];by_cases a:qc bG (aX i e E E') js=true
   ·rw[acE a];exact⟨λh=>⟨a,h⟩,λh=>h.2⟩
   ·simp[kD,a]
  |panic v E'=>
   simp only[qb,kF]
   grind
section
variable{X:Ctx}{f:FuncId}{rd:Bool}{E cn:AS}{Q:bQ}{e:Env}{ms:lN}{bG:List FP}{js:lN}{os:List (aP×lN)}{i:I}{d:Nat}{v:AV}
def aah:gr X bG [] ⟨e,ms⟩ E Q=Q .normal ⟨e,ms⟩ E:=propext (by simp only[gr,gb];grind)
def aai:gr X bG ((o d i,js)::os) ⟨e,ms⟩ E Q=aQ X i e E (kD X i E bG js os (some d) e ms Q) (kF bG i (some d) js os e ms Q):=aag
def aaj:gr X bG ((u i,js)::os) ⟨e,ms⟩ E Q=aQ X i e E (kD X i E bG js os none e ms Q) (kF bG i none js os e ms Q):=aag
theorem aak:kD X i cn bG js os (some d) e ms Q v E=(qc bG (aX i e cn E) js=true/\gr X (bG++[aX i e cn E]) os ⟨e.set d v,ms⟩ E Q):=rfl
theorem aal:kD X i cn bG js os none e ms Q v E=(qc bG (aX i e cn E) js=true/\gr X (bG++[aX i e cn E]) os ⟨e,ms⟩ E Q):=rfl
theorem aam{x:FP}:qc bG x []=true:=rfl
theorem aan{x:FP}:qc bG x (j::js)=((bG.getD j .all).ok x&&qc bG x js):=rfl
def aao{H:List ae}:wp X f rd (.sM os) ⟨e,ms⟩ ⟨H,lo⟩ Q=gr X [] (gS H.length os) ⟨e,ms⟩ ⟨H++ds os,lo⟩ Q:=am6
theorem aap{x y:FP}{l:List FP}: (x::l).getD 0 y=x:=rfl
end
def da:I->Option ae
 |.alloc z tg=>some (.box z tg)
 |_=>none
theorem aaq{d:Nat}{i:I}:aP.fz (o d i)=da i:=by rfl
theorem aar{i:I}:aP.fz (u i)=da i:=by rfl
theorem aas{i:I}:aP.fz (gt t d i)=da i:=by rfl
theorem aat{i:I}:aP.fz (gf t d i)=da i:=by rfl
def iI(n:Nat)(x:aP)(l:lN)(os:List (aP×lN)):Option ae->List (aP×lN)
 |none=>(x,l)::gS n os
 |some _=>({x with i:=.mov (.c (.ptr n 0))},l)::gS (n+1) os
def zC(os:List (aP×lN)):Option ae->List ae
 |none=>ds os
 |some b=>b::ds os
theorem aau:gS n []=[]:=rfl
def aav{x:aP}{l:lN}{os:List (aP×lN)}:gS n ((x,l)::os)=iI n x l os x.fz:=by
 simp only[gS,k7];cases x.fz<;>rfl
theorem aaw{x:aP}{l:lN}{os:List (aP×lN)}:iI n x l os none=(x,l)::gS n os:=rfl
theorem aax{d:Nat}{i:I}{l:lN}{os:List (aP×lN)}{b:ae}:iI n (o d i) l os (some b)=(o d (.mov (.c (.ptr n 0))),l)::gS (n+1) os:=rfl
theorem aay{i:I}{l:lN}{os:List (aP×lN)}{b:ae}:iI n (gt t d i) l os (some b)=(gt t d (.mov (.c (.ptr n 0))),l)::gS (n+1) os:=rfl
theorem aaz{i:I}{l:lN}{os:List (aP×lN)}{b:ae}:iI n (gf t d i) l os (some b)=(gf t d (.mov (.c (.ptr n 0))),l)::gS (n+1) os:=rfl
theorem aaA:ds []=[]:=rfl
def aaB{x:aP}{l:lN}{os:List (aP×lN)}:ds ((x,l)::os)=zC os x.fz:=by
 simp only[ds];cases x.fz<;>rfl
theorem aaC{os:List (aP×lN)}:zC os none=ds os:=rfl
theorem aaD{os:List (aP×lN)}{b:ae}:zC os (some b)=b::ds os:=rfl
theorem aaE:da (.alloc z tg)=some (.box z tg):=rfl
theorem aaF{a:_}:da (.mov a)=none:=rfl
theorem aaG{h:_}{g:_}{a:_}:da (.pick h g a)=none:=rfl
theorem aaH{g:_}{a:_}:da (.box g a)=none:=rfl
theorem aaI{g:_}{a:_}:da (.build g a)=none:=rfl
theorem aaJ{h:_}{g:_}{a:_}:da (.bslice h g a)=none:=rfl
theorem aaK{j:_}{h:_}{g:_}{a:_}:da (.re j h g a)=none:=rfl
theorem aaL{h:_}{g:_}{a:_}:da (.load h g a)=none:=rfl
theorem aaM{h:_}{g:_}{a:_}:da (.store h g a)=none:=rfl
theorem aaN{a:_}:da (.nilck a)=none:=rfl
theorem aaO{h:_}{g:_}{a:_}:da (.bin h g a)=none:=rfl
theorem aaP{h:_}{g:_}{a:_}:da (.shf h g a)=none:=rfl
theorem aaQ{h:_}{g:_}{a:_}:da (.eq h g a)=none:=rfl
theorem aaR{h:_}{g:_}{a:_}:da (.ne h g a)=none:=rfl
theorem aaS{g:_}{a:_}:da (.un g a)=none:=rfl
theorem aaT{g:_}{a:_}:da (.conv g a)=none:=rfl
theorem aaU{a:_}:da (.s2b a)=none:=rfl
theorem aaV{g:_}{a:_}:da (.mki g a)=none:=rfl
theorem aaW{h:_}{g:_}{a:_}:da (.mkf h g a)=none:=rfl
theorem aaX:da .nf=none:=rfl
theorem aaY{h:_}{g:_}{a:_}:da (.slstr h g a)=none:=rfl
theorem aaZ{k:_}{j:_}{h:_}{g:_}{a:_}:da (.slsl k j h g a)=none:=rfl
theorem aa0{k:_}{j:_}{h:_}{g:_}{a:_}:da (.slarr k j h g a)=none:=rfl
theorem aa1{g:_}{a:_}:da (.faddr g a)=none:=rfl
theorem aa2{j:_}{h:_}{g:_}{a:_}:da (.fld j h g a)=none:=rfl
theorem aa3{j:_}{h:_}{g:_}{a:_}:da (.iaddra j h g a)=none:=rfl
theorem aa4{h:_}{g:_}{a:_}:da (.iaddrs h g a)=none:=rfl
theorem aa5{k:_}{j:_}{h:_}{g:_}{a:_}:da (.idxa k j h g a)=none:=rfl
theorem aa6{g:_}{a:_}:da (.idxs g a)=none:=rfl
theorem aa7{k:_}{j:_}{h:_}{g:_}{a:_}:da (.lookup k j h g a)=none:=rfl
theorem aa8{j:_}{h:_}{g:_}{a:_}:da (.om j h g a)=none:=rfl
theorem aa9{j:_}{h:_}{g:_}{a:_}:da (.ta j h g a)=none:=rfl
theorem aba{g:_}{a:_}:da (.ext g a)=none:=rfl
theorem abb{g:_}{a:_}:da (.len g a)=none:=rfl
theorem abc{k:_}{j:_}{h:_}{g:_}{a:_}:da (.append k j h g a)=none:=rfl
theorem abd{h:_}{g:_}{a:_}:da (.copy h g a)=none:=rfl
theorem abe{g:_}{a:_}:da (.clear g a)=none:=rfl
theorem abf{a:_}:da (.max a)=none:=rfl
theorem abg{a:_}:da (.min a)=none:=rfl
theorem abh{g:_}{a:_}:da (.call g a)=none:=rfl
theorem abi{a:_}:da (.panic a)=none:=rfl
def N1:=gG @aaq<|gG @aar<|gG @aas<|gG @aat<|gG @aau<|gG @aav<|gG @aaw<|gG @aax<|gG @aay<|gG @aaz<|gG @aaA<|gG @aaB<|gG @aaC<|gG @aaD<|gG @aaE<|gG @aaF<|gG @aaG<|gG @aaH<|gG @aaI<|gG @aaJ<|gG @aaK<|gG @aaL<|gG @aaM<|gG @aaN<|gG @aaO<|gG @aaP<|gG @aaQ<|gG @aaR<|gG @aaS<|gG @aaT<|gG @aaU<|gG @aaV<|gG @aaW<|gG @aaX<|gG @aaY<|gG @aaZ<|gG @aa0<|gG @aa1<|gG @aa2<|gG @aa3<|gG @aa4<|gG @aa5<|gG @aa6<|gG @aa7<|gG @aa8<|gG @aa9<|gG @aba<|gG @abb<|gG @abc<|gG @abd<|gG @abe<|gG @abf<|gG @abg<|gG @abh @abi
def P1:=gG @aao<|gG @aah<|gG @aai<|gG @aaj<|gG @aak<|gG @aal<|gG @aam<|gG @aan<|gG @aap<|gG @Z5<|gG @Z6<|gG @Z7<|gG @Z8<|gG @Z9<|gG @aaa<|gG @aab<|gG @aac<|gG @GU<|gG @GV<|gG @GW<|gG @GX<|gG @GY<|gG @GZ<|gG @aae<|gG @aaf<|gG @G4<|gG @G5<|gG @G6<|gG @G7<|gG @Zs<|gG @Zt<|gG @Zu<|gG @Zv<|gG @Zw<|gG @Zx<|gG @Zy<|gG @ZA<|gG @ZB<|gG @ZC<|gG @ZD<|gG @ZE<|gG @ZF<|gG @ZG<|gG @ZH<|gG @ZI<|gG @ZJ<|gG @ZK<|gG @ZL<|gG @ZM<|gG @ZN<|gG @ZO<|gG @ZP<|gG @ZQ<|gG @ZR<|gG @ZS<|gG @ZT<|gG @ZU<|gG @ZV<|gG @ZW<|gG @ZX<|gG @ZY<|gG @ZZ<|gG @Z0<|gG @Z1<|gG @Z2<|gG @Z3 @Z4
def anS{X:Ctx}(pf:PF){args cap:lA}{H:List ae}{a:aT}(g:X.bU f=none)(l:X.code f=some pf)(k:Nat.ble (args++cap).length pf.ntmps=true)
  (h: ∀n,H.length=n->wp X f false pf.body ⟨c9 (args++cap),[]⟩ ⟨H,none⟩ (dE X n lo pf.results (· =a))):D X (.fn (.func f) [] cap) args ⟨H,lo⟩=some a:=by
 have j:=anV k;refine V6 g l (by grind) ?_
 grind
def anT{X:Ctx}{rd:Bool}{E:AS}{Q:bQ}(m:Nat)(I:Nat->Env->List ae->Prop){H:List ae}(k:Nat)(g:k<=m)(n:I k e H)
  (l: ∀k,k<=m-> ∀e H,I k e H->wp X f rd b ⟨e,[]⟩ ⟨H,none⟩ (λex a E'=>match ex with|.normal=>k<m/\ ∃h H',a=⟨h,[]⟩/\E'=⟨H',none⟩/\I (k+1) h H'|ex=>Q ex a E')):wp X f rd (.loop b) ⟨e,[]⟩ ⟨H,none⟩ Q:=by
 refine wp_loop (S:=Nat) (λk fr E=>k<=m/\ ∃e H,fr=⟨e,[]⟩/\E=⟨H,none⟩/\I k e H) (λk=>m-k) k ⟨g,e,H,rfl,rfl,n⟩ ?_;rintro k fr E ⟨g,e,H,rfl,rfl,j⟩;refine wp_mono (l k g e H j) ?_
 grind
def Ab(k m:Nat)(I:Nat->Env->List ae->Prop)(Q:bQ):bQ:=λex a E'=>match ex with|.normal=>k<m/\ ∃g H',a=⟨g,[]⟩/\E'=⟨H',none⟩/\I (k+1) g H'|ex=>Q ex a E'
def abj{I:Nat->Env->List ae->Prop}{Q:bQ}{H:List ae}:Ab k m I Q .normal ⟨e,[]⟩ ⟨H,none⟩=(k<m/\I (k+1) e H):=by
 simp only[Ab]
 grind
theorem abk{I:Nat->Env->List ae->Prop}{Q:bQ}{fr:Fr}{E:AS}:Ab k m I Q (.exit i) fr E=Q (.exit i) fr E:=rfl
theorem abl{I:Nat->Env->List ae->Prop}{Q:bQ}{fr:Fr}{E:AS}:Ab k m I Q .ret fr E=Q .ret fr E:=rfl
theorem abm{I:Nat->Env->List ae->Prop}{Q:bQ}{fr:Fr}{E:AS}:Ab k m I Q (.panic v) fr E=Q (.panic v) fr E:=rfl
def ek{X:Ctx}{rd:Bool}{Q:bQ}(m:Nat)(I:Nat->Env->List ae->Prop){H:List ae}(k:Nat)(a:k<=m)(j:I k e H)
  (h: ∀k,k<=m-> ∀e H,I k e H-> ∀n,H.length=n->wp X f rd b ⟨e,[]⟩ ⟨H,none⟩ (Ab k m I Q)):wp X f rd (.loop b) ⟨e,[]⟩ ⟨H,none⟩ Q:=
 anT (E:=⟨H,none⟩) m I k a j λk a e H g=>h k a e H g _ rfl
def Ac(k m:Nat)(I:Nat->Env->List ae->oN->Prop)(Q:bQ):bQ:=λex a E'=>match ex with|.normal=>k<m/\a.marks=[]/\I (k+1) a.env E'.heap E'.lo|ex=>Q ex a E'
def abn{I:Nat->Env->List ae->oN->Prop}{Q:bQ}{H:List ae}:Ac k m I Q .normal ⟨e,[]⟩ ⟨H,lo⟩=(k<m/\I (k+1) e H lo):=by
 simp[Ac]
theorem abo{I:Nat->Env->List ae->oN->Prop}{Q:bQ}{fr:Fr}{E:AS}:Ac k m I Q (.exit i) fr E=Q (.exit i) fr E:=rfl
theorem abp{I:Nat->Env->List ae->oN->Prop}{Q:bQ}{fr:Fr}{E:AS}:Ac k m I Q .ret fr E=Q .ret fr E:=rfl
def iJ{X:Ctx}{rd:Bool}{Q:bQ}(m:Nat)(I:Nat->Env->List ae->oN->Prop){H:List ae}(k:Nat)(g:k<=m)(o:I k e H lo)
  (l: ∀k,k<=m-> ∀e H lo,I k e H lo-> ∀n,H.length=n->wp X f rd b ⟨e,[]⟩ ⟨H,lo⟩ (Ac k m I Q)):wp X f rd (.loop b) ⟨e,[]⟩ ⟨H,lo⟩ Q:=by
 refine wp_loop (S:=Nat) (λk fr E=>k<=m/\fr.marks=[]/\I k fr.env E.heap E.lo) (λk=>m-k) k ⟨g,rfl,o⟩ ?_;rintro k ⟨e,ms⟩ ⟨H,lo⟩ ⟨g,a,j⟩;subst a;refine wp_mono (l k g e H lo j _ rfl) ?_;intro ex fr E h;cases ex with
 |normal=>
  obtain⟨r,q,p⟩:=h
  grind
 |_=>exact h
section
variable{S:Type}{I:S->Env->List ae->Prop}{μ:S->Nat}{s:S}{Q:bQ}
end
def G8(X:Ctx)(f:FuncId)(rd:Bool)(b:PC)(Q:bQ):bQ
 |.normal,fr,E=>wp X f rd (.loop b) fr E Q
 |ex,fr,E=>Q ex fr E
section
variable{X:Ctx}{f:FuncId}{rd:Bool}{b:PC}{fr:Fr}{E:AS}{Q:bQ}{i:Nat}{v:AV}
theorem abq:G8 X f rd b Q .normal fr E=wp X f rd (.loop b) fr E Q:=rfl
theorem abr:G8 X f rd b Q (.exit i) fr E=Q (.exit i) fr E:=rfl
theorem abt:G8 X f rd b Q .ret fr E=Q .ret fr E:=rfl
theorem abu:G8 X f rd b Q (.panic v) fr E=Q (.panic v) fr E:=rfl
end
theorem abv{a:Env}:vy e [] a=a:=rfl
theorem abw{g:Env}{a:lN}:vy e (t::a) g=(vy e a g).set t (e t):=rfl
def abx{p:Prop}[Decidable p]: (!decide p)=decide (¬p):=by simp
theorem aby:gu []=[]:=rfl
theorem abz{i:I}{os:List aP}:gu (o a i::os)=a::gu os:=rfl
theorem abA{i:I}{os:List aP}:gu (u i::os)=gu os:=rfl
theorem abB{i:I}{os:List aP}:gu (gt t (some a) i::os)=a::gu os:=rfl
theorem abC{i:I}{os:List aP}:gu (gf t (some a) i::os)=a::gu os:=rfl
theorem abD{i:I}{os:List aP}:gu (gt t none i::os)=gu os:=rfl
theorem abE{i:I}{os:List aP}:gu (gf t none i::os)=gu os:=rfl
theorem abF{i:I}{os:List aP}:gu (⟨none,some a,i⟩::os)=a::gu os:=rfl
theorem abG{i:I}{os:List aP}:gu (⟨none,none,i⟩::os)=gu os:=rfl
theorem abH:rG [] t=false:=rfl
theorem abI{as:lN}:rG (a::as) t=(a==t||rG as t):=rfl
def ff: (false=true)=False:=by simp
def tt: (true=true)=True:=by simp
def C1:=gG @Zq<|gG @abn<|gG @abo<|gG @abp<|gG @abq<|gG @abr<|gG @abt<|gG @abu<|gG @abj<|gG @abk<|gG @abl<|gG @abm<|gG @Zm<|gG @Zn<|gG @aq9<|gG @ars<|gG @avQ<|gG @aha<|gG @abv<|gG @abw<|gG @abx<|gG @aby<|gG @abz<|gG @abA<|gG @abB<|gG @abC<|gG @abD<|gG @abE<|gG @abF<|gG @abG<|gG @abH<|gG @abI<|gG @ff @Zo
def aH{X:Ctx}(pf:PF){args:lA}{H:List ae}{a:aT}
 (h: ∀n,H.length=n->wp X f false pf.body ⟨c9 args,[]⟩ ⟨H,none⟩ (dE X n lo pf.results (· =a))) (g:X.bU f=none:=by exact rfl) (k:X.code f=some pf:=by exact rfl) (j:Nat.ble args.length pf.ntmps=true:=by exact rfl):D X (.fn (.func f) [] []) args ⟨H,lo⟩=some a:=MX pf g k j h
def cH{X:Ctx}(pf:PF){args:lA}{H:List ae}{R:aT->Prop}
 (h: ∀n,H.length=n->wp X f false pf.body ⟨c9 args,[]⟩ ⟨H,none⟩ (dE X n lo pf.results R)) (g:X.bU f=none:=by exact rfl) (k:X.code f=some pf:=by exact rfl) (j:Nat.ble args.length pf.ntmps=true:=by exact rfl): ∃a,D X (.fn (.func f) [] []) args ⟨H,lo⟩=some a/\R a:=anM pf g k j h
def fe{X:Ctx}(pf:PF){args cap:lA}{H:List ae}{a:aT}
 (h: ∀n,H.length=n->wp X f false pf.body ⟨c9 (args++cap),[]⟩ ⟨H,none⟩ (dE X n lo pf.results (· =a))) (g:X.bU f=none:=by exact rfl) (k:X.code f=some pf:=by exact rfl) (j:Nat.ble (args++cap).length pf.ntmps=true:=by exact rfl):D X (.fn (.func f) [] cap) args ⟨H,lo⟩=some a:=anS pf g k j h
section
variable{P:Program}{X:Ctx}{B:Nat}{ax:World}{cW:List Deferred}
section
variable{C:bw}(hC:fI P B ax C)(hg:fk X B ax){r:oN}{n nt:Nat}{rows:Bool}
include hC hg
theorem Nj{c:Array Oper}(k:lN): ∀ (os:List Oper) (is:lN) (l:List aP),is.map (c[·]?)=os.map some->kh P rows c os=some l->(∀x∈l,∀d,x.dst=some d->d<nt)->
  ∀ (G:Gh) (E:AS) (w:World) (fr:Fr) (a:Act) (res:Ex×Fr×AS) (Q:Exit->Act->World->Prop),aY P B ax G E w->cL G nt fr.env a.tmps->gd cW G fr.marks a.defers->eH X C l fr E=some res->
  (∀a w,res.1= .normal->lO P B ax cW G E nt res .normal a w->wpOpsIn (W r) n P c Q k a w)->(∀e a w,res.1≠ .normal->lO P B ax cW G E nt res e a w->Q e a w)->wpOpsIn (W r) n P c Q (is++k) a w
 | [],is,l,q,p,s,G,E,w,fr,a,res,Q,hw,he,hm,j,A,z=>by
   have:is=[]:=by simp_all
   subst this;simp only[kh,acy]at p;subst p;simp only[eH,acy]at j;subst j;exact A _ _ rfl ⟨G,G.le_refl,hw,he,hm,.refl E,trivial⟩
 |o::os,is,l,q,p,s,G,E,w,fr,a,res,Q,hw,he,hm,j,A,z=>by
  cases is with
  |nil=>grind
  |cons i is=>
   simp only[alM,axc]at q;obtain⟨H,q⟩:=q;simp only[kh]at p;split at p
   ·rename_i x xs g t;cases p;simp only[af3,wpOpsIn,H];have I:guardOf c o=some x.g:=by
     unfold im at g;split at g
     ·rename_i J;cases g;exact J
     ·cases g
    have u:x.dst=o.dst:=by
     unfold im at g;split at g
     ·cases g;rfl
     ·cases g
    have F:=xx he I;simp only[eH]at j;rw[F];split at j
    ·rename_i m;rw[acE m];split at j
     ·rename_i v N hex;refine xy hC hg g (s x (by simp)) hw he hm hex (λb f e Y a' w' M J K U T=>?_) (λb f e=>by cases e);cases e;exact Nj k os is xs q t (λy D=>s y (by simp[D])) Y N w' _ a' res Q J U T j (λa w e h=>A a w e (h.trans M K)) (λe a w V h=>z e a w V (h.trans M K))
     ·rename_i v N hex;cases j;exact xy hC hg g (s x (by simp)) hw he hm hex (λb f e=>by cases e) (λb f e Z a' w' h=>by cases e;exact z _ _ _ (by simp) h)
     ·cases j
    ·rename_i m;rw[acz m];refine⟨λ_ _=>trivial,?_⟩;obtain⟨S,R,O⟩:=pU (a:=a) he (s x (by simp)) (v:=.undef) (v':=undef) xw;rw[<-u];exact Nj k os is xs q t (λy D=>s y (by simp[D])) G E w _ _ res Q hw S (by rw[R,O];exact hm) j A z
   grind
end
structure vA where
 dst:Nat
 pf:PF
 deriving Inhabited
def abJ(o:Oper):Bool:=match o.op with
 |.call c=>match c.callee,c.args.toList,o.guard with
  |.builtin .recover,[],none=>true
  |_,_,_=>false
 |_=>false
def Nk(o:Oper):Bool:=match o.op,o.guard with
 |.move _,none=>true
 |.assign _,none=>true
 |_,_=>false
def abK(P:Program)(rows:Bool)(nt:Nat):Code->Option (Nat×PC)
 |.seq (.region _ ops false) b=>match ops.toList with
  |o::os=>match o.dst,kh P rows ops os,eI P rows nt b with
   |some d,some xs,some a=>if abJ o=true/\os.all Nk=true/\d<nt/\xs.all (λx=>match x.dst with|some d=>d<nt|none=>true)then some (d,.seq (.aN xs) a)else none
   |_,_,_=>none
  | []=>none
 |_=>none
def Ad(P:Program)(rows:Bool)(fn:Func):Option vA:=
 match fn.body with
 |some c=>match abK P rows fn.ntmps c,ot P fn.results.toList with
  |some (d,b),some rs=>if(fn.name != "runtime.NumGoroutine")then some ⟨d,{ntmps:=fn.ntmps,results:=rs,body:=b}⟩else none
  |_,_=>none
 |none=>none
noncomputable def G9(X:Ctx)(C:bw)(L:ef)(g:FuncId)(pr:vA)(args:lA)(rv:AV)(E:AS):Option AS:=
 if args.length<=pr.pf.ntmps then
  match bc X C L g false pr.pf.body {env:=(c9 args).set pr.dst rv,marks:=[]} {E with lo:=none}with
  |some (.normal,⟨e,[]⟩,a)=>(fA X a e pr.pf.results).map λv=>(finish E.heap.length E.lo v a).2
  |some (.ret,⟨e,[]⟩,a)=>(fA X a e pr.pf.results).map λv=>(finish E.heap.length E.lo v a).2
  |_=>none
 else none
def abL(G:Gh)(u:FrameMode)(rv:AV):Prop:=
 (u= .returning/\rv= .eC)\/ ∃v',u= .panicking [{v:=v',recovered:=false}]/\ak G rv v'
section
variable{C:bw}(hC:fI P B ax C)(hg:fk X B ax)(hX:ow P X)(gq:zS P X B ax){L:ef}(hL:xz L)
include hC hg hX gq hL
omit hC hg hX gq hL in
theorem abM{n nt:Nat}{rows:Bool}{b:Array Oper}{cs:List Frame}: ∀ (os:List Oper) (is:lN) (l:List aP),is.map (b[·]?)=os.map some->kh P rows b os=some l->os.all Nk=true->(∀x∈l,∀d,x.dst=some d->d<nt)->
  ∀ (G:Gh) (E:AS) (w:World) (fr:Fr) (a:Act) (Q:Exit->Act->List Frame->World->Prop) (res:Ex×Fr×AS),aY P B ax G E w->cL G nt fr.env a.tmps->gd [] G fr.marks a.defers->eH X C l fr E=some res->
  (∀a' m,res=(.normal,m,E)->cL G nt m.env a'.tmps->gd [] G m.marks a'.defers->Q .normal a' cs w)->wpOpsSIn (W none) n P b Q is a cs w
 | [],is,l,k,h,_,J,G,E,w,fr,a,Q,res,hw,he,hm,q,K=>by
   have:is=[]:=by simpa using k
   subst this;simp only[kh,acy]at h;subst h;simp only[eH,acy]at q;exact K a fr q.symm he hm
 |o::os,is,l,k,h,e,J,G,E,w,fr,a,Q,res,hw,he,hm,q,K=>by
  cases is with
  |nil=>simp at k
  |cons i is=>
   simp only[alM,axc]at k;obtain⟨I,k⟩:=k;simp only[auk,afJ]at e;obtain⟨j,e⟩:=e;simp only[kh]at h;split at h
   ·rename_i x xs c D;cases h;have s: (∃z,(o.op= .move z\/o.op= .assign z))/\o.guard=none:=by
     unfold Nk at j;split at j
     ·rename_i z v u;exact⟨⟨_,.inl v⟩,u⟩
     ·rename_i z v u;exact⟨⟨_,.inr v⟩,u⟩
     ·cases j
    obtain⟨⟨z,f⟩,t⟩:=s;have F: ∃y,bI z=some y/\x={g:=none,dst:=o.dst,i:=.mov y}:=by
     unfold im at c;have v:guardOf b o=some none:=by unfold guardOf;rw[t]
     rw[v]at c;have u:kg P rows o=(bI z).map .mov:=by
      rcases f with f|f<;>simp only[kg,f]
     rw[u]at c;cases A:bI z with
     |none=>rw[A]at c;cases c
     |some y=>rw[A]at c;cases c;exact⟨y,rfl,rfl⟩
    obtain⟨y,A,rfl⟩:=F;have p: (execOp a.eval o).run P w= .ok (.value (a.eval z)) w:=by
     rcases f with f|f<;>(unfold execOp;simp only[f];rfl)
    simp only[wpOpsSIn,I];have H:Region.wanted o (yielded b a.tmps)=true:=by simp[Region.wanted,t]
    rw[acE H,p];refine⟨λ_ _=>trivial,?_⟩;simp only[eH,fO,aeE,exec]at q;obtain⟨O,N,M⟩:=pU (a:=a) (dst:=o.dst) he (J {g:=none,dst:=o.dst,i:=.mov y} (by simp)) (cF he A);exact abM os is xs k D e (λx c=>J x (by simp[c])) G E w _ _ Q res hw O (by rw[N,M];exact hm) q K
   ·cases h
theorem anU{g:FuncId}{fn:Func}{pr:vA}{rows:Bool}(hfn:P.funcs[g]?=some fn)(q:Ad P rows fn=some pr){args:lA}{E f:AS}{rv:AV}
  (h:G9 X C L g pr args rv E=some f) {G:Gh}  {a:Array Value} (hw:aY P B ax G E w) (hl:aG G args a.toList) {u:FrameMode} (hu:abL G u rv):
  CallsDIn (W none) n P g a u w (λe A w'=>settle A= .returning/\ ∃v K,e= .returned v/\G.le K/\aY P B ax K f w'/\E.Ext f):=by
 unfold Ad at q;split at q
 case h_2=>grind
 rename_i c hb;split at q
 case h_2=>grind
 rename_i d b rs p hrs;split at q
 case isFalse=>grind
 cases q;unfold abK at p;split at p
 case h_2=>cases p
 rename_i id ops b';split at p
 case h_2=>cases p
 rename_i o os y;split at p
 case h_2=>cases p
 rename_i d' xs pb Nl vB hpb;split at p
 case isFalse=>cases p
 rename_i U;cases p;obtain⟨I,hmv,hdn,sY⟩:=U;unfold G9 at h;split at h
 case isFalse=>cases h
 rename_i z;simp only at z h;cases H:bc X C L g false (.seq (.aN xs) pb) {env:=(c9 args).set d rv,marks:=[]} {E with lo:=none}with
 |none=>rw[H]at h;cases h
 |some res=>
 have k:=H;simp only[bc]at k;cases s:eH X C xs {env:=(c9 args).set d rv,marks:=[]} {E with lo:=none}with
 |none=>rw[s]at k;cases k
 |some Y=>
 rw[s]at k;refine callsDIn_of_wpSIn hfn hb trivial λl cs T=>?_
 refine wpSIn_seq (wpSIn_region ?_);have ayP:0<ops.size:=by rw[<-ajR,y];simp
 have M:List.range ops.size=0:: (List.range' 1 (ops.size-1)):=by
  rw[axh,show ops.size=(ops.size-1)+1 by omega,List.range'_succ];simp
 have h0:ops[0]?=some o:=by rw[<-aol,y];rfl
 rw[M];simp only[wpOpsSIn,h0];have an0: (∃c,o.op= .call c/\c.callee= .builtin .recover/\c.args.toList=[])/\o.guard=none:=by
  unfold abJ at I;split at I
  ·rename_i c R;split at I
   ·rename_i h1 h2 h3;exact⟨⟨c,R,h1,h2⟩,h3⟩
   ·cases I
  ·cases I
 obtain⟨⟨cc,R,Nm,ayQ⟩,ir⟩:=an0;have Nn: ∀t:Array Value,Region.wanted o (yielded ops t)=true:=λt=>by simp[Region.wanted,ir]
 have S: ∀ρ,(execOp ρ o).run P w= .ok .recover w:=by
  intro ρ;unfold execOp;simp only[R,resolve,Nm];simp[invoke,builtin]
 rw[acE (Nn _),S];refine⟨λ_ _=>trivial,?_⟩;have he0:cL G fn.ntmps (c9 args) (a++Array.replicate (fn.ntmps-a.size) undef):=Ge hl z;have No: (List.range' 1 (ops.size-1)).map (ops[·]?)=os.map some:=by
  apply al4;intro j;have hos:os.length=ops.size-1:=by
   have:ops.toList.length=os.length+1:=by rw[y];rfl
   rw[ajR]at this;omega
  by_cases hj:j<os.length
  ·have e1: (List.range' 1 (ops.size-1))[j]?=some (1+j):=by
     rw[List.getElem?_range' (by omega)];simp
   simp only[aeA,e1,aei,acJ hj];rw[<-aol,y,Nat.add_comm,avO,acJ hj]
  ·rw[ajP (by simp;omega),ajP (by simp;omega)]
 have an2: ∀x∈xs,∀d,x.dst=some d->d<fn.ntmps:=by
  intro x hx d Z;have:=aes.1 sY x hx;rw[Z]at this;simpa using this
 have key: ∀ (v':Value) (N:List Frame) (A:FrameMode),ak G rv v'->settle A= .returning->N={l with mode:=A}::cs->
   wpOpsSIn (W none) n P ops (Exit.thenS (b'.wpSIn (W none) n P (bodyPostS P fn l cs (λe A w'=>settle A= .returning/\ ∃v K,e= .returned v/\G.le K/\aY P B ax K f w'/\E.Ext f))) (bodyPostS P fn l cs (λe A w'=>settle A= .returning/\ ∃v K,e= .returned v/\G.le K/\aY P B ax K f w'/\E.Ext f)))
    (List.range' 1 (ops.size-1)) (Act.put {tmps:=a++Array.replicate (fn.ntmps-a.size) undef,defers:=[]} o.dst v') N w:=by
  intro v' N A hv O F8;rw[Nl];have he1:cL G fn.ntmps ((c9 args).set d rv) (Act.put {tmps:=a++Array.replicate (fn.ntmps-a.size) undef,defers:=[]} (some d) v').tmps:=he0.set hdn hv;refine abM os _ xs No vB hmv an2 G {E with lo:=none} w {env:=(c9 args).set d rv,marks:=[]} _ _ Y (hw.lo none) he1 rfl s (λa1 Ha Q he2 hm2=>?_);subst Q;simp only at k;simp only[Exit.thenS];refine wpSIn_of_wpIn rfl (vq hC hg hX gq hL (r:=none) rfl b' pb hpb G {E with lo:=none} w Ha a1 res _ (hw.lo none) he2 hm2 k (λe a2 w2 an6=>?_));obtain⟨G2,q1,q2,q3,q4,q5,q6⟩:=an6;obtain⟨ex,⟨e2,ms⟩,V⟩:=res;rw[H]at h;have fin:ms=[]->(∃v,fA X V e2 rs=some v/\ (finish E.heap.length E.lo v V).2=f)->(e= .normal\/e= .ret)->bodyPostS P fn l cs (λe A w'=>settle A= .returning/\ ∃v K,e= .returned v/\G.le K/\aY P B ax K f w'/\E.Ext f) e a2 N w2:=by
   intro hms ⟨v,F,D⟩ hee;subst hms;obtain⟨v2,r1,r2⟩:=Cr hg q2 q3 hrs F;obtain⟨G3,p1,p2,p3,p4⟩:=xv hw q1 q2 q5 r2;rw[D]at p2 p4;have hd2:a2.defers=[]:=q4;rcases hee with rfl|rfl
   ·exact⟨hd2,A,F8,v2,r1,O,v2,G3,rfl,p1,p2,p4⟩
   ·exact⟨hd2,A,F8,v2,r1,O,v2,G3,rfl,p1,p2,p4⟩
  cases ex with
  |normal=>
   cases ms with
   |cons m ms=>cases h
   |nil=>
    obtain⟨v,F,D⟩:=aeh.1 h;cases e<;>simp[fJ]at q6;exact fin rfl ⟨v,F,D⟩ (.inl rfl)
  |ret=>
   cases ms with
   |cons m ms=>cases h
   |nil=>
    obtain⟨v,F,D⟩:=aeh.1 h;cases e<;>simp[fJ]at q6;exact fin rfl ⟨v,F,D⟩ (.inr rfl)
  |exit i=>cases h
  |panic v=>cases h
 rcases hu with⟨rfl,rfl⟩| ⟨v',rfl,hv⟩
 ·have J:recoverD (l::cs)=none:=by simp[recoverD,T]
  simp only[J];refine key .nilIface (l::cs) .returning (by simp[ak]) rfl ?_;rw[<-T]
 ·have J:recoverD (l::cs)=some (v',{l with mode:=.panicking [{v:=v',recovered:=true}]}::cs):=by simp[recoverD,T]
  simp only[J];exact key v' _ _ hv rfl rfl
end
end
section
variable{P:Program}{X:Ctx}{B:Nat}{ax:World}{cW:List Deferred}
inductive CT where
 |here(ops:List aP)(kp:ao)(ft:List ao)(rest:PC)
 |later(pre:PC)(d:CT)
 deriving Inhabited
structure s6 where
 ntmps:Nat
 results:List RV
 body:CT
 deriving Inhabited
def abO(P:Program)(rows:Bool)(nt:Nat):Code->Option (List aP×ao×List ao)
 |.region _ ops false=>match ops.toList.getLast? with
  |some o=>match o.op,o.guard,o.dst with
   |.defer c,none,none=>match c.callee with
    |.value f=>match kh P rows ops ops.toList.dropLast,bI f,ng c.args.toList with
     |some xs,some a,some as=>if xs.all (λx=>match x.dst with|some d=>d<nt|none=>true)then some (xs,a,as)else none
     |_,_,_=>none
    |_=>none
   |_,_,_=>none
  |none=>none
 |_=>none
def CU(P:Program)(rows:Bool)(nt:Nat):Code->Option CT
 |.seq a b=>match abO P rows nt a with
  |some (xs,f,as)=>(eI P rows nt b).map (.here xs f as)
  |none=>match eI P rows nt a,CU P rows nt b with
   |some d,some c=>some (.later d c)
   |_,_=>none
 |_=>none
def Ae(P:Program)(rows:Bool)(fn:Func):Option s6:=
 match fn.body with
 |some c=>match CU P rows fn.ntmps c,ot P fn.results.toList with
  |some b,some rs=>if(fn.name != "runtime.NumGoroutine")then some {ntmps:=fn.ntmps,results:=rs,body:=b}else none
  |_,_=>none
 |none=>none
def AV.Hb:AV->Bool
 |.fn .. =>true
 |_=>false
noncomputable def vC(X:Ctx)(C:bw)(L:ef)(bN:FuncId):CT->Fr->AS->Option (Option (AV×lA)×(Ex×Fr×AS))
 |.here ops a c rest,fr,E=>match eH X C ops fr E with
  |some (.normal,⟨e,[]⟩,f)=>if(a.get e).Hb then(bc X C L bN false rest ⟨e,[]⟩ f).map λr=>(some (a.get e,c.map (·.get e)),r)else none
  |some (.normal,_,_)=>none
  |some r=>some (none,r)
  |none=>none
 |.later pre d,fr,E=>match bc X C L bN false pre fr E with
  |some (.normal,b,f)=>vC X C L bN d b f
  |some r=>some (none,r)
  |none=>none
abbrev oz:=FuncId->Option vA
noncomputable def Af(X:Ctx)(C:bw)(L:ef)(R:oz)(b:AV)(a:lA)(rv:AV)(E:AS):Option AS:=
 match b with
 |.fn (.func g) first cap=>(R g).bind λpr=>G9 X C L g pr (first++a++cap) rv E
 |_=>none
def Ex.Np:Ex->Option AV
 |.normal=>some .eC
 |.ret=>some .eC
 |.panic v=>some v
 |.exit _=>none
noncomputable def Nq(X:Ctx)(C:bw)(L:ef)(R:oz)(n:Nat)(dB:oN)(c:s6):Option (Option (AV×lA)×(Ex×Fr×AS))->Option aT
 |some (none,r)=>leave X n dB {ntmps:=c.ntmps,results:=c.results,body:=.skip} (some r)
 |some (some (tv,d),(ex,fr,E))=>match ex.Np,dC E fr.marks with
  |some rv,some b=>(Af X C L R tv d rv b).bind λa=>(fA X a fr.env c.results).map λv=>.ret (finish n dB v a).1 (finish n dB v a).2
  |_,_=>none
 |none=>none
noncomputable def vD(X:Ctx)(C:bw)(L:ef)(R:oz)(f:FuncId)(a:s6)(args:lA)(E:AS):Option aT:=
 if args.length<=a.ntmps then Nq X C L R E.heap.length E.lo a (vC X C L f a.body {env:=c9 args,marks:=[]} {E with lo:=none})else none
def Nr(P:Program)(R:oz):Prop:= ∀g pr,R g=some pr-> ∃rows fn,P.funcs[g]?=some fn/\Ad P rows fn=some pr
section
variable{C:bw}(hC:fI P B ax C)(hg:fk X B ax)(hX:ow P X)(gq:zS P X B ax){L:ef}(hL:xz L)
include hC hg hX gq hL
theorem an9{rows:Bool}{nt:Nat}{bN:FuncId}: ∀ (c:Code) (pd:CT),CU P rows nt c=some pd->
  ∀ (G:Gh) (E:AS) (w:World) (fr:Fr) (a:Act) (O:Option (AV×lA)) (r:Ex×Fr×AS) (Q:Exit->Act->World->Prop),aY P B ax G E w->cL G nt fr.env a.tmps->gd [] G fr.marks a.defers->vC X C L bN pd fr E=some (O,r)->
  (O=none-> ∀e a w,lO P B ax [] G E nt r e a w->Q e a w)->
  (∀tv J,O=some (tv,J)-> ∀A s G1,G.le G1->ak G1 tv A->aG G1 J s.toList-> ∀d,(∀w:World,(Deferred.ofValue A s).run P w= .ok d w)-> ∀e a w,lO P B ax [d] G1 E nt r e a w->Q e a w)->c.wpIn (W none) n P Q a w:=by
 intro c
 induction c with
 |seq x y ihx ihy=>
  intro pd h G E w fr a O r Q hw he hm i hN hD;rw[CU]at h;split at h
  ·rename_i xs f' as g;obtain⟨rest,M,rfl⟩:=aeh.1 h;unfold abO at g;split at g
   case h_2=>cases g
   rename_i id ops;split at g
   case h_2=>cases g
   rename_i o v;split at g
   case h_2=>cases g
   rename_i cc oy ir Nl;split at g
   case h_2=>cases g
   rename_i fop Nm;split at g
   case h_2=>cases g
   rename_i xs' f'' Gd vB hfo has;split at g
   case isFalse=>cases g
   rename_i sW;cases g;have hd: ∀x∈xs,∀d,x.dst=some d->d<nt:=by
    intro x hx d sY;have:=aes.1 sW x hx;rw[sY]at this;simpa using this
   have q:ops.toList=ops.toList.dropLast++[o]:=by
    rw[List.getLast?_eq_some_iff]at v;obtain⟨ys,Ns⟩:=v;rw[Ns];simp
   have rq:ops.size=ops.toList.dropLast.length+1:=by
    rw[<-ajR];conv=>lhs;rw[q]
    simp
   have D:List.range ops.size=List.range (ops.size-1)++[ops.size-1]:=by
    conv=>lhs;rw[show ops.size=(ops.size-1)+1 by omega,an7]
   have No: (List.range (ops.size-1)).map (ops[·]?)=ops.toList.dropLast.map some:=by
    apply al4;intro j;by_cases hj:j<ops.toList.dropLast.length
    ·have e1: (List.range (ops.size-1))[j]?=some j:=by rw[an8 (by omega)]
     simp only[aeA,e1,aei,acJ hj];rw[<-aol]
     conv=>lhs;rw[q]
     rw[abP hj,acJ hj]
    ·rw[ajP (by simp;simp at hj;omega),ajP (by simpa using hj)]
   have H:ops[ops.size-1]?=some o:=by
    rw[<-aol]
    conv=>lhs;rw[q]
    rw[aet (by omega)];rw[show ops.size-1-ops.toList.dropLast.length=0 by omega];rfl
   refine axw (wpIn_region ?_);rw[D];simp only[vC]at i;cases b:eH X C xs fr E with
   |none=>rw[b]at i;cases i
   |some k=>
   refine Nj hC hg [ops.size-1] _ _ xs No vB hd G E w fr a k _ hw he hm b (λl w1 F f=>?_) (λe l w1 F f=>?_)
   ·obtain⟨ex,⟨e1,ms⟩,t⟩:=k;simp only at F;subst F;obtain⟨G1,q1,q2,S,q4,q5,q6⟩:=f;rw[b]at i;cases ms with
    |cons m ms=>cases i
    |nil=>
    simp only at i;split at i
    case isFalse=>cases i
    rename_i z;obtain⟨r',Nt,Ag⟩:=aeh.1 i;cases Ag;have Nu:l.defers=[]:=q4;have aoc:=xn S has;have I:=cF S hfo;simp only[wpOpsIn,H];have Nn:Region.wanted o (yielded ops l.tmps)=true:=by simp[Region.wanted,ir]
    rw[acE Nn];refine⟨λ_ _=>trivial,?_⟩;have Cz:o.semAt (W none).round l.eval=execOp l.eval o:=Oper.semAt_none _ _;rw[Cz];have aod: ∀d,(∀w:World,(Deferred.ofValue (l.eval fop) (cc.args.map l.eval)).run P w= .ok d w)->(execOp l.eval o).run P w1= .ok (.defer d) w1:=by
     intro d u;unfold execOp;simp only[oy,resolve,Nm];rw[Sem.run_bind,u w1];rfl
    have aoe: ∃d,∀w:World,(Deferred.ofValue (l.eval fop) (cc.args.map l.eval)).run P w= .ok d w:=by
     cases htv:f'.get e1<;>rw[htv]at z<;>simp only[AV.Hb,aek]at z;rw[htv]at I;simp only[ak]at I;obtain⟨f0,fs0,Nv,hfe,_⟩:=I;rw[hfe];exact⟨_,λw=>rfl⟩
    obtain⟨d,u⟩:=aoe;rw[aod d u];simp only[Oper.uponIn,Nl,Act.put,Nu];refine vq hC hg hX gq hL (r:=none) (cW:=[d]) rfl y rest M G1 t w1 ⟨e1,[]⟩ {l with defers:=[d]} r _ q2 S rfl Nt (λe a2 R p=>?_);refine hD _ _ rfl _ _ G1 q1 I (by simpa using aoc) d u e a2 R ?_;obtain⟨G2,Z,Y,V,U,T,K⟩:=p;exact⟨G2,Z,Y,V,U,q5.trans T,K⟩
   ·rw[b]at i;obtain⟨ex,⟨e1,ms⟩,t⟩:=k;have N:some (none,(ex,⟨e1,ms⟩,t))=some (O,r):=by
     cases ex with
     |normal=>exact absurd rfl F
     |_=>exact i
    cases N;have N:=hN rfl e l w1 f;obtain⟨G2,Z,Y,V,U,T,K⟩:=f;cases e<;>first|exact N| (exfalso;cases ex<;>simp[fJ]at K;exact F rfl)
  ·split at h
   ·rename_i px pd' hx hy;cases h;simp only[vC]at i;cases b:bc X C L bN false px fr E with
    |none=>rw[b]at i;cases i
    |some k=>
    rw[b]at i;obtain⟨ex,Ha,t⟩:=k;by_cases F:ex= .normal
    ·subst F;simp only at i;refine axw (vq hC hg hX gq hL (r:=none) rfl x px hx G E w fr a _ _ hw he hm b (λe l w1 f=>?_));obtain⟨G1,q1,q2,S,q4,q5,q6⟩:=f;cases e<;>simp[fJ]at q6;refine ihy pd' hy G1 t w1 Ha l O r Q q2 S q4 i (λaoh e a2 R hh=>hN aoh e a2 R (hh.trans q1 q5)) (λtv J u A s G2 hG2 hv hl d hd e a2 R p=>?_);refine hD tv J u A s G2 (Gh.le_trans q1 hG2) hv hl d hd e a2 R ?_;obtain⟨G3,Z,Y,V,U,T,K⟩:=p;exact⟨G3,Z,Y,V,U,q5.trans T,K⟩
    ·have N:some (none,(ex,Ha,t))=some (O,r):=by
       cases ex with
       |normal=>exact absurd rfl F
       |_=>exact i
     cases N;refine axw (vq hC hg hX gq hL (r:=none) rfl x px hx G E w fr a _ _ hw he hm b (λe l w1 f=>?_));have N:=hN rfl e l w1 f;obtain⟨G2,Z,Y,V,U,T,K⟩:=f;cases e<;>first|exact N| (exfalso;cases ex<;>simp[fJ]at K;exact F rfl)
   ·cases h
 |_=>intro pd h;simp[CU]at h
omit hC hX gq hL in
theorem aoj{fn:Func}{G:Gh}{E:AS}{w':World}{r:Ex×Fr×AS}{k:aT}{e:Exit}{a:Act}(g:ot P fn.results.toList=some pf.results)(y:aY P B ax G E w)
  (h:leave X E.heap.length E.lo pf (some r)=some k) (F:lO P B ax [] G {heap:=E.heap,lo:=none} fn.ntmps r e a w'):bodyPostM (W none) 0 P fn (Ends P B ax G E k) e a w':=by
 obtain⟨H,x,u,A,t,s,j⟩:=F;obtain⟨ex,fr,q⟩:=r;have f:pO X E.heap.length E.lo pf fr q=some k->LeavesInM (W none) 0 P fn a.tmps (Ends P B ax G E k) a.defers .returning w':=by
  intro h;unfold pO at h;split at h
  ·rename_i d i;split at h
   ·rename_i v D;cases h;refine xB (by simp) fr.marks a.defers q d w' t u i (λl b=>?_);obtain⟨v',e1,z⟩:=Cr hg b A g D;refine⟨v',e1,?_⟩;obtain⟨c,p,o,n,m⟩:=xv y x b (s.trans (xA _ _ _ i)) z;exact⟨c,p,o,n,m⟩
   ·cases h
  ·cases h
 cases ex with
 |normal=>cases e<;>simp[fJ]at j;exact f h
 |ret=>cases e<;>simp[fJ]at j;exact f h
 |exit id=>simp[leave]at h
 |panic v=>
  cases e<;>simp[fJ]at j;rename_i chain;obtain⟨v',rfl,rv⟩:=j;simp only[leave]at h;split at h
  ·rename_i d i;cases h;refine xB (by simp) fr.marks a.defers q d w' t u i (λl b=>?_);obtain⟨c,p,o,n,m⟩:=xv y x b (s.trans (xA _ _ _ i)) rv;exact⟨c,v',rfl,p,o,n,m⟩
  ·cases h
theorem aok{R:oz}(hR:Nr P R){fn:Func}{pd:s6}{rows:Bool}(O:P.funcs[f]?=some fn)(n:Ae P rows fn=some pd):gg P B ax f (vD X C L R f pd):=by
 intro args E cr h G w l hw hl;unfold Ae at n;split at n
 case h_2=>grind
 rename_i c hb;split at n
 case h_2=>grind
 rename_i bd rs D y;split at n
 case isFalse=>grind
 rename_i ayW;cases n;unfold vD at h;split at h
 case isFalse=>cases h
 rename_i q;simp only at q h;have x: ¬fn.name= "runtime.NumGoroutine" :=by grind
 have Q: (callFunc f l).run P w= .ok (.enter f l) w:=by
  simp[callFunc,aoG,O,x,hb]
 rw[Q];show CallsIn (W none) 0 P f l w _;have he:cL G fn.ntmps (c9 args) (l++Array.replicate (fn.ntmps-l.size) undef):=Ge hl q;cases t:vC X C L f bd {env:=c9 args,marks:=[]} {E with lo:=none}with
 |none=>rw[t]at h;cases h
 |some res=>
 obtain⟨dr,r⟩:=res;rw[t]at h;refine avU O hb trivial (an9 hC hg hX gq hL c bd D G {E with lo:=none} w {env:=c9 args,marks:=[]} _ dr r _ (hw.lo none) he rfl t ?_ ?_) rfl
 ·rintro rfl e a w' hr;exact aoj hg (pf:={ntmps:=fn.ntmps,results:=rs,body:=.skip}) y hw h hr
 ·rintro tv T rfl tv' m G1 hG1 hv hld d hd e a w' ⟨G',Y,q2,q3,q4,q5,V⟩;obtain⟨ex,fr,I⟩:=r;simp only[Nq]at h;have ar: ∀ (rv:AV) (j:AS) (u:FrameMode),dC I fr.marks=some j->abL G' u rv->u≠ .run->
    ((Af X C L R tv T rv j).bind λs=>(fA X s fr.env rs).map λv=>aT.ret (finish E.heap.length E.lo v s).1 (finish E.heap.length E.lo v s).2)=some cr->
    LeavesInM (W none) 0 P fn a.tmps (Ends P B ax G E cr) a.defers u w':=by
   intro rv j u o A hu hcr;refine xB hu fr.marks a.defers I j w' q4 q2 o (λw'' J=>?_);obtain⟨s,p,N⟩:=al3.1 hcr;obtain⟨v,hv1,rfl⟩:=aeh.1 N;unfold Af at p;split at p
   case h_2=>cases p
   rename_i g first cap
   obtain⟨pr,hpr,Ag⟩:=al3.1 p;obtain⟨amg,S,z,b⟩:=hR g pr hpr;have hgb: ∃Z,S.body=some Z/\ ¬S.name= "runtime.NumGoroutine" :=by
    unfold Ad at b;split at b
    case h_2=>cases b
    rename_i Z F;split at b
    case h_2=>cases b
    split at b
    case isFalse=>cases b
    rename_i hn;exact⟨Z,F,by simpa using hn⟩
   obtain⟨Z,F,hgn⟩:=hgb;have K:=hv;simp only[ak,mz]at K;obtain⟨f',i,k,rfl,rfl,hf,hc⟩:=K;have xH:d={target:=.fn (.func g) k,args:=i++m}:=by
    have h1:=hd w;have h2: (Deferred.ofValue (.func (.func g) i k) m).run P w= .ok {target:=.fn (.func g) k,args:=i++m} w:=rfl;rw[h2]at h1;simpa using h1.symm
   subst xH;have H:aG G' (first++T++cap) (i++m++k).toList:=by
    simp only[Array.toList_append];exact((hf.mono Y).append (hld.mono Y)).append (hc.mono Y)
   refine⟨hu,.inr ⟨λh=>by simp[W]at h,.func g,k,g,i++m++k,rfl,?_,λ_ _=>trivial,?_⟩⟩
   ·show(callFunc g (i++m++k)).run P w''=_;simp[callFunc,aoG,z,hgn,F]
   ·refine(anU hC hg hX gq hL z b Ag J H A).mono ?_;rintro e2 u2 w3 ⟨M,v3,G3,rfl,g1,g2,g3⟩;show LeavesInM (W none) 0 P fn a.tmps _ [] (settle u2) w3;rw[M];obtain⟨v',e1,r1⟩:=Cr hg g2 (q3.mono g1) y hv1;refine⟨v',e1,?_⟩;obtain⟨U,p1,p2,p3,p4⟩:=xv hw (Gh.le_trans hG1 (Gh.le_trans Y g1)) g2 ((q5.trans (xA _ _ _ o)).trans g3) r1;exact⟨U,p1,p2,p3,p4⟩
  cases ex with
  |normal=>
   cases e<;>simp[fJ]at V;cases o:dC I fr.marks with
   |none=>rw[o]at h;cases h
   |some j=>rw[o]at h;exact ar .eC j .returning o (.inl ⟨rfl,rfl⟩) (by simp) h
  |ret=>
   cases e<;>simp[fJ]at V;cases o:dC I fr.marks with
   |none=>rw[o]at h;cases h
   |some j=>rw[o]at h;exact ar .eC j .returning o (.inl ⟨rfl,rfl⟩) (by simp) h
  |exit id=>
   cases o:dC I fr.marks<;>rw[o]at h<;>cases h
  |panic v=>
   cases e<;>simp[fJ]at V;obtain⟨v',rfl,rv⟩:=V;cases o:dC I fr.marks with
   |none=>rw[o]at h;cases h
   |some j=>rw[o]at h;exact ar v j (.panicking [{v:=v',recovered:=false}]) o (.inr ⟨v',rfl,rv⟩) (by simp) h
end
def abR:xz Lw:=λ_ _ _ _ h=>CM h
def Nw(hg:fk X B ax)(hX:ow P X)(e: ∀f p,X.bU f=some p->gg P B ax f p){R:oz}(d:Nr P R){fn:Func}{c:s6}{rows:Bool}(b:P.funcs[f]?=some fn)(a:Ae P rows fn=some c):
 gg P B ax f (vD X (D X) Lw R f c):=aok (MQ hg hX e) hg hX (Mx hg) abR d b a
end
def aR(N:Nat)(H:List ae)(v:AV)(sz:Nat)(ty:TypeId)(af:List lA):Prop:=
 (∀el∈af,el.length=sz)/\ ((v= .an/\af=[])\/ ∃id ai,N<=id/\v= .ref id ai sz 0 af.length false/\H[id]?=some (.row ai sz ty af))
def bu(v:AV)(af:List lA):AV:=match v with
 |.an=>.an
 |_=>.sl af false
section
variable{N:Nat}{H H':List ae}{v:AV}{sz bytes:Nat}{ty:TypeId}{af ys:List lA}{lo:oN}
theorem aR.an:aR N H .an sz ty []:=⟨by simp,.inl ⟨rfl,rfl⟩⟩
def aR.mono(h:aR N H v sz ty af)(b:H<+:H'):aR N H' v sz ty af:=by
 obtain⟨c,a⟩:=h;refine⟨c,?_⟩;rcases a with a| ⟨id,ai,f,d,e⟩
 ·grind
 ·obtain⟨L,rfl⟩:=b
  grind
def aR.ext{L:List ae}(h:aR N H v sz ty af):aR N (H++L) v sz ty af:=h.mono (anY _ _)
def aR.rd(h:aR N H v sz ty af):Rd ⟨H,lo⟩ v sz af:=by
 obtain⟨c,b⟩:=h;rcases b with⟨rfl,rfl⟩| ⟨id,ai,d,rfl,a⟩
 ·exact .an
 ·refine⟨trivial,?_,c⟩;simp only[elems,a,axg]
  grind
def aot{H0:List ae}{id:Nat}{o:ae}(a:H0<+:H)(b:H0.length<=id):H0<+:H.set id o:=by
 obtain⟨L,rfl⟩:=a
 grind
def aR.append{H0:List ae}(h:aR N H v sz ty af)(b:H0<+:H)(o:H0.length=N)(i:0<sz)(k: ∀el∈ys,el.length=sz)(l:bT ys=0)(f: (af.length+ys.length)*bytes<=room):
  ∃v' H',dm ⟨H,lo⟩ ty sz bytes v ys=some (v',⟨H',lo⟩)/\aR N H' v' sz ty (af++ys)/\H0<+:H'/\H.length<=H'.length/\ (∀id,id<N->H'[id]?=H[id]?):=by
 have e:0<sz/\ys.all (λel=>el.length==sz)=true:=⟨i,by grind⟩;obtain⟨q,g⟩:=h;have p: ∀el∈af++ys,el.length=sz:=by grind
 by_cases he:ys.length=0
 ·have d:ys=[]:=ahK.1 he;subst d;refine⟨v,H,?_,by simpa using⟨q,g⟩,b,aeg _,λ_ _=>rfl⟩;unfold dm
  grind
 rcases g with⟨rfl,rfl⟩| ⟨id,ai,m,rfl,a⟩
 ·refine⟨.ref H.length 0 sz 0 ys.length false,H++[.row 0 sz ty ys],?_,⟨by simpa using k,.inr ⟨H.length,0,?_,by simp,by simp⟩⟩,b.trans (anY _ _),by simp,λid n=>?_⟩
  ·unfold dm;rw[acE e];simp only[acz he];rw[acE (by simpa using f)];rfl
  ·rw[<-o];exact b.length_le
  ·rw[abP (by have:=b.length_le;omega)]
 ·have c:=(abQ.1 a).1;refine⟨.ref id (ai+1) sz 0 (af.length+ys.length) false,H.set id (.row (ai+1) sz ty (af++ys)),?_,⟨p,.inr ⟨id,ai+1,m,by simp,by simp[c]⟩⟩,aot b (by omega),by simp,λj r=>?_⟩
  ·unfold dm;rw[acE e];simp only[a];rw[acE ⟨trivial,trivial,trivial,trivial,by omega,f⟩,acz he];simp[AS.set,l]
  ·rw[abN (by omega)]
def oA{K:AV->AS->Prop}{H0:List ae}(h:aR N H v sz ty af)(d:H0<+:H)(f:H0.length=N)(a:0<sz)(b: ∀el∈ys,el.length=sz)(c:bT ys=0)(e: (af.length+ys.length)*bytes<=room)
  (g: ∀v' H',aR N H' v' sz ty (af++ys)->H0<+:H'->K v' ⟨H',lo⟩):s5 (dm ⟨H,lo⟩ ty sz bytes v ys) K:=by
 obtain⟨v',H',k,j,i,_⟩:=h.append d f a b c e;rw[k];exact g v' H' j i
def aR.abS(h:aR N H v sz ty af)(w:N<=H.length)(k:0<sz)(l: ∀el∈ys,el.length=sz)(m:bT ys=0)(q: (af.length+ys.length)*bytes<=room):
  ∃v' H',dm ⟨H,lo⟩ ty sz bytes v ys=some (v',⟨H',lo⟩)/\aR N H' v' sz ty (af++ys)/\H.length<=H'.length/\ (∀id,id<N->H'[id]?=H[id]?)/\ (∀ (id:Nat) o,(∀a d,o≠ .row a sz ty d)->H[id]?=some o->H'[id]?=some o):=by
 have n:H.take N<+:H:=List.take_prefix _ _;obtain⟨v',H',b,t,x,s,r⟩:=h.append n (by grind) k l m q;refine⟨v',H',b,t,s,r,λid o f e=>?_⟩;have p:=(abQ.1 e).1;unfold dm at b;have i:0<sz/\ys.all (λel=>el.length==sz)=true:=⟨k,by grind⟩;rw[acE i]at b;rcases h.2 with⟨rfl,rfl⟩| ⟨j,ai,u,rfl,c⟩
 ·simp only at b;split at b
  ·grind
  ·split at b
   ·simp only[AS.push,acy,aof,AS.mk.injEq]at b
    grind
   grind
 ·simp only[c]at b;split at b
  ·split at b
   ·simp only[acy,aof,AS.mk.injEq]at b;rw[<-b.2.1];exact e
   ·simp only[aek,ahz,AS.set,acy,aof,AS.mk.injEq]at b;rw[<-b.2.1];have g:j≠id:=by rintro rfl;rw[c]at e;cases e;exact f _ _ rfl
    rw[abN g];exact e
  ·cases b
def Hc{E:AS}:freeze E n (k+1) (.av vs)=if(AV.av vs).refs<=n then some (.av vs)else match ik E n k vs with|some a=>some (.av a)|none=>none:=by
 rw[freeze]
 grind
theorem Nx{E:AS}{n k:Nat}: ∀l:lA,aI l<=n->ik E n (k+2) l=some l
 | [],_=>by rw[ik]
 |b::bs,a=>by
  simp only[aI]at a;rw[ik,xQ (by omega)];rw[Nx bs (by omega)]
theorem Ny{E:AS}{n k:Nat}: ∀af:List lA,bT af<=n->rk E n (k+3) af=some af
 | [],_=>by rw[rk]
 |a::as,h=>by
  simp only[bT]at h;rw[rk,Nx a (by omega)];rw[Ny as (by omega)]
theorem aR.freeze(h:aR N H v sz ty af)(c:bT af<=N):Den.freeze ⟨H,lo⟩ N (k+4) v=some (bu v af):=by
 obtain⟨f,d⟩:=h;rcases d with⟨rfl,rfl⟩| ⟨id,ai,e,rfl,a⟩
 ·exact xQ (ac7 _)
 ·have b: ¬(AV.ref id ai sz 0 af.length false).refs<=N:=by simp only[AV.refs];omega
  rw[Den.freeze,acz b];simp only[a];rw[acE ⟨trivial,trivial,by omega⟩];simp only[aks,aeo];rw[Ny af c];rfl
theorem aR.Hd(h:aR N H v sz ty af)(a:bT af<=N):finish N lo v ⟨H,none⟩=(bu v af,⟨H.take N,lo⟩):=
 GN rfl (h.freeze a)
def aR.abT{b:AV}(h:aR N H v sz ty af)(d:bT af<=N)(e:b.refs<=N):finish N lo (.av [v,b]) ⟨H,none⟩=(.av [bu v af,b],⟨H.take N,lo⟩):=by
 refine GN rfl ?_;rw[Hc];have e1:ik ⟨H,none⟩ N 11 [v,b]=some [bu v af,b]:=by
  rw[ik,h.freeze d];rw[ik,xQ e];rw[ik]
 rw[e1];split
 ·rename_i hle;have a:bu v af=v:=by
   obtain⟨i,f⟩:=h;rcases f with⟨rfl,rfl⟩| ⟨id,ai,g,rfl,c⟩
   ·rfl
   ·simp only[AV.refs,aI]at hle;omega
  rw[a]
 ·rfl
def aR.qd(h:aR N H v sz ty af):Rv (bu v af) sz af:=by
 obtain⟨c,b⟩:=h;rcases b with⟨rfl,rfl⟩| ⟨id,ai,d,rfl,a⟩
 ·exact .an
 ·exact .sl c
theorem bp{α:Type}{g:α->lA}(a: ∀x,aI (g x)=0): ∀l:List α,bT (l.map g)=0
 | []=>rfl
 |x::xs=>by simp only[alM,bT,a,bp a xs];rfl
def aou{E:AS}(h:af.all (λel=>el.length==sz)=true):Den.elems E sz (.sl af c)=some af:=by
 simp only[Den.elems];grind
end
def Nz{k:IntKind}{a b:Int}{c:List EK}{as bs:lA}:ij (.int::c) (.int k a::as) (.int k b::bs)=if a=b then ij c as bs else some false:=by
 simp only[ij,pJ,aeE]
 grind
def abU{a b:Bool}{c:List EK}{as bs:lA}:ij (.bool::c) (.bool a::as) (.bool b::bs)=if a=b then ij c as bs else some false:=by
 simp only[ij,pJ]
 grind
theorem abV:ij [] [] []=some true:=rfl
def abW{N:Nat}{H:List ae}(b: ¬v.refs<=N)(a:freeze ⟨H,none⟩ N 12 v=none):finish N lo v ⟨H,none⟩=(v,⟨H,lo⟩):=by
 rw[Aa,acz b,a];rfl
def NA{N id o:Nat}{E:AS}(h:N<=id):freeze E N k (.ptr id o)=none:=by
 cases k with
 |zero=>rw[freeze]
 |succ k=>
  have a: ¬(AV.ptr id o).refs<=N:=by simp only[AV.refs];omega
  simp[freeze,a]
def CV{X:Ctx}{p:lA->AS->Option aT}{args:lA}{E:AS}{a:aT}(b:X.bU f=some p)(h:p args E=some a):D X (.fn (.func f) [] []) args E=some a:=by
 refine GC ?_;simp only[step,b,afY,aeC];exact h
theorem abX{cs:lA}:ee cs []=some cs:=rfl
theorem abY{cs:lA}{off:Nat}{r:List (Nat×Nat×AV)}:ee cs ((off,n,v)::r)=if v.cm=false/\v.cells.length=n/\off+n<=cs.length then ee (aM cs off v.cells) r else none:=rfl
theorem abZ{len:Nat}{a:List (Nat×Nat×AV)}:MZ z len a=(ee (List.replicate len z).flatten a).map λcs=>.sl (chunks z.length len cs) true:=rfl
theorem ab0{E:AS}{ty:TypeId}{len:Nat}{a:List (Nat×Nat×AV)}:M3 E ty z len a=(ee (List.replicate len z).flatten a).map λcs=>(.ref E.heap.length 0 z.length 0 len false,E.push (.row 0 z.length ty (chunks z.length len cs))):=rfl
theorem ab1{a:List (Nat×Nat×AV)}:MY z a=(ee z a).map .agg:=rfl
theorem ab2{cs:lA}:chunks sz 0 cs=[]:=rfl
theorem ab3{cs:lA}:chunks sz (k+1) cs=cs.take sz::chunks sz k (cs.drop sz):=rfl
theorem ab4{E:AS}:Den.elems E sz (.sl af c)=if af.all (λel=>el.length==sz)then some af else none:=rfl
theorem ab5{X:Ctx}{id off:Nat}{k:IntKind}{a:Int}:sP X n sz (.ptr id off) (.int k a)=if 0<=a/\a<n then some (.ptr id (off+a.toNat*sz))else none:=rfl
theorem ab6{X:Ctx}{id off:Nat}{k:IntKind}{a:Int}:sP X n sz (.dc id ai j off) (.int k a)=if 0<=a/\a<n then some (.dc id ai j (off+a.toNat*sz))else none:=rfl
theorem ab7{X:Ctx}{off:Nat}{cs:lA}{k:IntKind}{a:Int}:sP X n sz (.eN cs off) (.int k a)=if 0<=a/\a<n then some (.eN cs (off+a.toNat*sz))else none:=rfl
theorem ab8{X:Ctx}{g:Nat}{k:IntKind}{a:Int}:sP X n sz (.dy g) (.int k a)=if 0<=a/\a<n then(match X.dy g with|some cs=>some (.eN cs (a.toNat*sz))|none=>none)else none:=rfl
theorem ab9{off:Nat}{cs:lA}:Wj ag n off (.agg cs)=Den.part ag n cs off:=rfl
theorem aca:CO (.av vs) i=vs[i]?:=rfl
theorem acb{E:AS}:fb E .sl (.sl af c)=some (.int .i64 af.length):=rfl
theorem acd{E:AS}:fb E .sl .an=some (.int .i64 0):=rfl
theorem ace{E:AS}{id v z o:Nat}:fb E .sl (.ref id v z o n c)=some (.int .i64 n):=rfl
theorem acf{E:AS}{id off:Nat}:fb E .sl (.fa id sz off n)=some (.int .i64 n):=rfl
theorem NB{id off:Nat}{k:IntKind}{a:Int}:iG m (.fa id sz off n) (.int k a)=if 0<=a/\a<n/\sz=m then some (.ptr id (off+a.toNat*m))else none:=rfl
def acg{X:Ctx}{id off:Nat}{b:Int}:pK X n sz (.ptr id off) none (some (.int k' b))=if 0<=b/\b<=n then some (.fa id sz off b.toNat)else none:=by
 simp only[pK,fY,k0]
 grind
theorem ach{H:List ae}{lo:oN}{id sz m off n:Nat}:Den.elems ⟨H,lo⟩ m (.fa id sz off n)=match H[id]? with
 |some (.box cs _)=>if sz=m/\off+n*m<=cs.length then some (chunks m n (cs.drop off))else none
 |_=>none:=rfl
theorem aci:vh []=some []:=rfl
theorem acj{n:Int}{r:List lA}:vh ([.int .u8 n]::r)=(vh r).map (UInt8.ofNat n.toNat:: ·):=rfl
def ack{H:List ae}{x:ae}(h:H.length=n)(a:m=n+1): (H++[x]).take m=H++[x]:=by grind
def dT{h:Decidable True}: @decide True h=true:=by simp
def dF{h:Decidable False}: @decide False h=false:=by simp
def O1:=gG @abX<|gG @abY<|gG @abZ<|gG @ab0<|gG @ab1<|gG @ab2<|gG @ab3<|gG @ab4<|gG @ab9<|gG @acf<|gG @acb<|gG @acd<|gG @ace<|gG @NB<|gG @acg<|gG @ach<|gG @aci<|gG @acj<|gG @dT<|gG @dF<|gG @List.getD_cons_zero.{0}<|gG @List.getD_cons_succ.{0}<|gG @ab5<|gG @ab6<|gG @ab7<|gG @ab8<|gG @Nat.mul_one<|gG @aca<|gG @aqG.{0}<|gG @List.replicate_zero.{0}<|gG @am4.{0}<|gG @List.flatten_nil.{0}<|gG @auk.{0} @List.all_nil.{0}
section
variable{X:Ctx}{n:Nat}{lo:oN}{e:Env}{E:AS}{R:aT->Prop}{a b c d m k:Nat}{ag ah:Bool}
def nv(n:Nat)(lo:oN)(R:aT->Prop):AV->AS->Prop:=λv E=>R (.ret (finish n lo v E).1 (finish n lo v E).2)
theorem acm:nv n lo R v E=R (.ret (finish n lo v E).1 (finish n lo v E).2):=rfl
def Ah:dE X n lo [.cell a ag m] R .ret ⟨e,[]⟩ E=okV (bW X E ag m (e a)) (nv n lo R) E:=by
 simp only[xP,xR,fA,jO,oq];cases h:bW X E ag m (e a)with
 |none=>simp[okV,h]
 |some v=>simp[okV,nv,h]
def oB:dE X n lo [.cell a ag m,.t b] R .ret ⟨e,[]⟩ E=okV (bW X E ag m (e a)) (λv E=>nv n lo R (.av [v,e b]) E) E:=by
 simp only[xP,xR,fA,jO,oq];cases h:bW X E ag m (e a)with
 |none=>simp[okV,h]
 |some v=>simp[okV,nv,h]
def acn:dE X n lo [.cell a ag m,.t b,.t c] R .ret ⟨e,[]⟩ E=okV (bW X E ag m (e a)) (λv E=>nv n lo R (.av [v,e b,e c]) E) E:=by
 simp only[xP,xR,fA,jO,oq];cases h:bW X E ag m (e a)with
 |none=>simp[okV,h]
 |some v=>simp[okV,nv,h]
def aco:dE X n lo [.cell a ag m,.cell b ah k] R .ret ⟨e,[]⟩ E=okV (bW X E ag m (e a)) (λv E=>okV (bW X E ah k (e b)) (λu E=>nv n lo R (.av [v,u]) E) E) E:=by
 simp only[xP,xR,fA,jO,oq];cases h:bW X E ag m (e a)with
 |none=>simp[okV,h]
 |some v=>
  cases f:bW X E ah k (e b)with
  |none=>simp[okV,h,f]
  |some u=>simp[okV,nv,h,f]
def Q1:=gG @acm<|gG @Ah<|gG @oB<|gG @acn @aco
end
section
variable{X:Ctx}{R:oz}
def qe(X:Ctx)(R:oz)(tv:AV)(ft:lA)(rv:AV)(E:AS)(K:AS->Prop):Prop:= ∃a,Af X (D X) Lw R tv ft rv E=some a/\K a
def dK(X:Ctx)(R:oz)(n:Nat)(lo:oN)(res:List RV)(P:aT->Prop)(tv:AV)(ft:lA):bQ
 |.normal,fr,E=> ∃a,dC E fr.marks=some a/\qe X R tv ft .eC a λb=>dE X n lo res P .ret ⟨fr.env,[]⟩ b
 |.ret,fr,E=> ∃a,dC E fr.marks=some a/\qe X R tv ft .eC a λb=>dE X n lo res P .ret ⟨fr.env,[]⟩ b
 |.panic v,fr,E=> ∃a,dC E fr.marks=some a/\qe X R tv ft v a λb=>dE X n lo res P .ret ⟨fr.env,[]⟩ b
 |.exit _,_,_=>False
section
variable{n:Nat}{lo:oN}{res:List RV}{P:aT->Prop}{tv:AV}{ft:lA}{e:Env}{E:AS}{v:AV}
def CW:dK X R n lo res P tv ft .ret ⟨e,[]⟩ E=qe X R tv ft .eC E λa=>dE X n lo res P .ret ⟨e,[]⟩ a:=by
 simp[dK,dC]
def nw:dK X R n lo res P tv ft (.panic v) ⟨e,[]⟩ E=qe X R tv ft v E λa=>dE X n lo res P .ret ⟨e,[]⟩ a:=by
 simp[dK,dC]
end
def He(X:Ctx)(R:oz)(f:FuncId)(n:Nat)(lo:oN)(res:List RV)(P:aT->Prop)(kp:ao)(ft:List ao)(rest:PC):bQ:=λex fr E=>
 ex= .normal/\fr.marks=[]/\ (kp.get fr.env).Hb=true/\wp X f false rest ⟨fr.env,[]⟩ E (dK X R n lo res P (kp.get fr.env) (ft.map (·.get fr.env)))
def NC(X:Ctx)(R:oz)(f:FuncId)(n:Nat)(lo:oN)(res:List RV)(P:aT->Prop)(ops:List aP)(kp:ao)(ft:List ao)(rest:PC):bQ:=λex fr E=>
 ex= .normal/\wp X f false (.aN ops) fr E (He X R f n lo res P kp ft rest)
section
variable{f:FuncId}{n:Nat}{lo:oN}{res:List RV}{P:aT->Prop}{ops:List aP}{kp:ao}{ft:List ao}{rest:PC}{e:Env}{fr:Fr}{E:AS}
def jP:He X R f n lo res P kp ft rest .normal ⟨e,[]⟩ E=((kp.get e).Hb=true/\wp X f false rest ⟨e,[]⟩ E (dK X R n lo res P (kp.get e) (ft.map (·.get e)))):=by simp[He]
def jQ:NC X R f n lo res P ops kp ft rest .normal fr E=wp X f false (.aN ops) fr E (He X R f n lo res P kp ft rest):=by simp[NC]
end
def ND(i:s6){k:PC}{ops:List aP}{kp:ao}{ft:List ao}{rest:PC}(y:i.body= .later k (.here ops kp ft rest)){args:lA}{H:List ae}{P:aT->Prop}(w:Nat.ble args.length i.ntmps=true)
  (h: ∀n,H.length=n->wp X f false k ⟨c9 args,[]⟩ ⟨H,none⟩ (NC X R f n lo i.results P ops kp ft rest)): ∃m,vD X (D X) Lw R f i args ⟨H,lo⟩=some m/\P m:=by
 obtain⟨ex,fr,E,u,rfl,hw⟩:=h _ rfl;rw[MT]at hw;obtain⟨B,⟨j,t⟩,s,p,rfl,hm,x,d,c,g,o,q⟩:=hw;subst hm;have l:vC X (D X) Lw f i.body ⟨c9 args,[]⟩ ⟨H,none⟩=some (some (kp.get j,ft.map (·.get j)),(d,c,g)):=by
  rw[y];simp only[vC,u,p,x,aeE,o,aei]
 unfold vD;rw[acE (anV w)];simp only[l,Nq];have key: ∀rv,d.Np=some rv->(∃b,dC g c.marks=some b/\qe X R (kp.get j) (ft.map (·.get j)) rv b λa=>dE X H.length lo i.results P .ret ⟨c.env,[]⟩ a)->
   ∃m,(match d.Np,dC g c.marks with
    |some rv,some b=>(Af X (D X) Lw R (kp.get j) (ft.map (·.get j)) rv b).bind λa=>(fA X a c.env i.results).map λv=>aT.ret (finish H.length lo v a).1 (finish H.length lo v a).2
    |_,_=>none)=some m/\P m:=by
  rintro rv C ⟨b,J,a,I,A⟩;obtain⟨r,v,z,G,F⟩:=A;simp only[dC,acy]at z
  grind
 cases d with
 |normal=>exact key _ rfl q
 |ret=>exact key _ rfl q
 |panic v=>exact key _ rfl q
 |exit _=>trivial
def Hf{g:FuncId}{pr:vA}(c:R g=some pr){cap ft:lA}{rv:AV}{H:List ae}{K:AS->Prop}(b:Nat.ble (ft++cap).length pr.pf.ntmps=true)
  (h: ∀n,H.length=n->wp X g false pr.pf.body ⟨(c9 (ft++cap)).set pr.dst rv,[]⟩ ⟨H,none⟩ (λex fr E=>fr.marks=[]/\ (ex= .normal\/ex= .ret)/\ ∃v,fA X E fr.env pr.pf.results=some v/\K (finish n lo v E).2)):
  qe X R (.fn (.func g) [] cap) ft rv ⟨H,lo⟩ K:=by
 obtain⟨ex,⟨e,ms⟩,E,i,hm,hex,v,j,d⟩:=h _ rfl;have a:=anV b;refine⟨_,?_,d⟩;simp only[Af,c,an1,G9,afY]
 grind
end
section
structure Ext(X X':Ctx):Prop where
 dy:X'.dy=X.dy
 fG:X'.fG=X.fG
 code:X'.code=X.code
 bU: ∀f,X'.bU f=X.bU f\/ (X.bU f=none/\X.code f=none)
variable{X X':Ctx}
def aov(h:Ext X X'):bW X'=bW X:=by
 unfold bW;rw[h.dy]
def acp(h:Ext X X'){C:bw}(i:I)(e:Env)(E:AS):exec X' C i e E=exec X C i e E:=by
 obtain⟨g,j,c,m'⟩:=X';obtain⟨b,a,f,d⟩:=h;subst b a;cases i<;>rfl
theorem acq(h:Ext X X'){C:bw}: ∀ (os:List aP),eH X' C os=eH X C os
 | []=>by rfl
 |o::os=>by
  simp only[eH,acp h,acq h os]
theorem acr(h:Ext X X'){C:bw}: ∀ (os:List (aP×lN)) (a:List FP),gb X' C a os=gb X C a os
 | [],a=>by rfl
 |o::os,a=>by
  simp only[gb,acp h,acr h os]
def aow(h:Ext X X')(a:pN X v=true):pN X' v=true:=by
 unfold pN at a⊢;split at a
 ·rename_i f _ _;rw[h.code];rcases h.bU f with b| ⟨_,c⟩
  ·grind
  grind
 omega
theorem rH(h:Ext X X'){C:bw}{L:ef}(e:ef.le L L)(bN:FuncId)(rd:Bool): ∀k,pZ (bc X C L bN rd k) (bc X' C L bN rd k)
 |.skip,_,_,_,d=>by trivial
 |.seq a b,fr,E,r,d=>by
  simp only[bc]at d⊢;split at d
  ·rename_i l;rw[rH h e bN rd a _ _ _ l];exact rH h e bN rd b _ _ _ d
  ·cases f:bc X C L bN rd a fr E with
   |none=>grind
   |some q=>
    rw[rH h e bN rd a _ _ _ f]
    grind
 |.cond c a b,fr,E,r,d=>by
  simp only[bc]at d⊢;split at d
  ·rename_i t n;split at d
   ·rename_i i;rw[acE i];exact rH h e bN rd a _ _ _ d
   ·rename_i i;rw[acz i];exact rH h e bN rd b _ _ _ d
  omega
 |.block id body,fr,E,r,d=>by
  simp only[bc]at d⊢;cases f:bc X C L bN rd body fr E with
  |none=>rw[f]at d;cases d
  |some q=>rw[rH h e bN rd body _ _ _ f];rw[f]at d;exact d
 |.loop body,fr,E,r,d=>by
  simp only[bc]at d⊢;exact e _ _ (rH h e bN rd body) _ _ _ d
 |.exit id,_,_,_,d=>by simpa only[bc]using d
 |.ret,_,_,_,d=>by simpa only[bc]using d
 |.aN ops,fr,E,r,d=>by
  simp only[bc]at d⊢;rw[acq h];exact d
 |.sM ops,fr,E,r,d=>by
  simp only[bc]at d⊢;rw[acr h];exact d
 |.gR g ps as bd,fr,E,r,d=>by
  simp only[bc]at d⊢;split at d
  ·cases d
  ·rename_i j;rw[acz j];split at d
   ·rename_i m;rw[acE (aow h m)];exact d
   ·cases d
def aox(h:Ext X X'){C:bw}{L:ef}(m:ef.le L L)(l:Nat)(args:lA)(E:AS)(r:aT)(c:k9 X C L l args E=some r):k9 X' C L l args E=some r:=by
 simp only[k9]at c⊢;split at c
 ·rename_i st j f env ps as bd s;split at c
  ·rename_i a;simp only[a,aeE];split at c
   ·rename_i fr e n;rw[rH h m _ _ _ _ _ _ n];simp only;split at c
    ·rename_i b p d g i iH o;cases k:bc X C L f true bd fr (e.set l (.loop .busy b p d g i iH) 0)with
     |none=>rw[k]at c;cases c
     |some q=>rw[rH h m _ _ _ _ _ _ k];grind
    omega
   grind
  grind
 omega
theorem acs(h:Ext X X')(E:AS)(e:Env): ∀rs,jO X' E e rs=jO X E e rs
 | []=>rfl
 |r::rs=>by
  have:oq X' E e r=oq X E e r:=by
   cases r with
   |t i=>rfl
   |cell a ag n=>simp only[oq,aov h]
  simp only[jO,this,acs h E e rs]
def aoy(h:Ext X X')(n:Nat)(lo:oN)(pf:PF)(r:iW):leave X' n lo pf r=leave X n lo pf r:=by
 have e1: ∀fr E,pO X' n lo pf fr E=pO X n lo pf fr E:=λfr E=>by
  simp only[pO,fA,acs h]
 rcases r with _| ⟨ex,fr,E⟩
 ·rfl
 ·cases ex<;>simp only[leave,e1]
def aoz(h:Ext X X'){C:bw}{L:ef}(d:ef.le L L):bw.le (step X C L) (step X' C L):=by
 intro v args E r b;unfold step at b⊢;split at b
 ·rename_i f first cap
  split at b
  ·rename_i p g;have:X'.bU f=some p:=by
    rcases h.bU f with q| ⟨q,_⟩
    ·grind
    grind
   grind
  ·split at b
   ·rename_i pf e;split at b
    ·rename_i a;have:X'.bU f=none:=by
      rcases h.bU f with q| ⟨_,q⟩
      ·grind
      grind
     rw[this,h.code,e];simp only;rw[acE a,aoy h];cases c:bc X C L f false pf.body {env:=c9 (first++args++cap),marks:=[]} {E with lo:=none}with
     |none=>rw[c]at b;cases b
     |some q=>rw[rH h d _ _ _ _ _ _ c];grind
    grind
   grind
 ·exact aox h d _ _ _ _ b
 omega
theorem acu(h:Ext X X'): ∀n,bw.le (il X n) (il X' n)
 |0=>λf args E r h=>by trivial
 |n+1=>by
  exact bw.le_trans (aoz h (GA n)) (VG (acu h n) (GA n))
def acv(h:Ext X X'):bw.le (D X) (D X'):=λf a s r b=>by
 obtain⟨n,c⟩:=xL b;exact MK (n:=n) _ _ _ _ (acu h n _ _ _ _ c)
end
def rI(a:List (Nat×lB×Nat)):List (AV×AV):=a.map λx=>(.int .u8 x.1,.fn (.func x.2.2) [] [])
theorem NF{n:Int}: ∀l:List (AV×AV),(∀p∈l,∃m:Int,p.1= .int .u8 m)->dU (.int .u8 n) l=some ((l.find? λp=>match p.1 with|.int _ m=>n==m|_=>false).map (·.2))
 | [],_=>rfl
 | (k,v)::l,h=>by
   obtain⟨m,hm⟩:=h (k,v) (by simp);have a:=NF (n:=n) l (λp b=>h p (by grind));simp only[dU,oo,List.find?_cons]
   grind
theorem acw: ∀ {l:List (AV×AV)} {p q:AV×AV},(l.Pairwise λp q=>p.1≠q.1)->p∈l->q∈l->p≠q->p.1≠q.1
 |a::l,p,q,h,f,e,b=>by
  rw[amB]at h;rcases aeB.1 f with d|d
  ·grind
  ·rcases aeB.1 e with c|c
   ·grind
   ·exact acw h.2 d c b
def aoA{α β:Type}{F:α->β}{l g:List β}(h:l.Perm g): ∀m:List α,m.map F=l-> ∃m':List α,m'.Perm m/\m'.map F=g:=by
 induction h with
 |nil=>simp
 |cons x _ j=>
  intro m hm;cases m with
  |nil=>grind
  |cons a m=>
   simp only[alM,axc]at hm;obtain⟨m',f,i⟩:=j m hm.2;exact⟨a::m',f.cons a,by grind⟩
 |swap x y l=>
  intro m hm
  match m,hm with
  |a::b::m,hm=>
   exact⟨b::a::m,.swap a b m,by grind⟩
 |trans _ _ e d=>
  intro m hm;obtain⟨m',f,i⟩:=e m hm;obtain⟨c,n,k⟩:=d m' i;exact⟨c,n.trans f,k⟩
def aoB{l e:List (AV×AV)}(h: ∀p∈l,∃m:Int,p.1= .int .u8 m)(o:l.Perm e)(u:l.Pairwise λp q=>p.1≠q.1){k:AV}{v:Option AV}(f:dU k l=some v):dU k e=some v:=by
 have w: ∀p∈e,∃m:Int,p.1= .int .u8 m:=λp j=>h p (o.mem_iff.2 j)
 cases l with
 |nil=>simp_all
 |cons a l=>
  obtain⟨m,hm⟩:=h a (by simp);obtain⟨z,r⟩:=a;simp only at hm;subst hm;cases k with
  |int q n=>
   by_cases t:q= .u8
   ·subst t;rw[NF _ h]at f;rw[NF _ w];rw[<-f]
    congr 2
    have hu: ∀p q:AV×AV,p∈((AV.int .u8 m,r)::l)->q∈((AV.int .u8 m,r)::l)->(match p.1 with|.int _ m=>n==m|_=>false)=true->(match q.1 with|.int _ m=>n==m|_=>false)=true->p=q:=by
     intro p q c b e1 d;obtain⟨g,y⟩:=h p c;obtain⟨s,x⟩:=h q b;have e3:p.1=q.1:=by grind
     by_cases i:p=q
     ·omega
     ·exact absurd e3 (acw u c b i)
    cases e1: ((AV.int .u8 m,r)::l).find? (λp=>match p.1 with|.int _ m=>n==m|_=>false)with
    |none=>grind
    |some p=>
     have g:=aqd e1;have t1:=List.find?_some e1;cases d:e.find? (λp=>match p.1 with|.int _ m=>n==m|_=>false)with
     |none=>
      rw[avC]at d;exact absurd t1 (d p (o.mem_iff.1 g))
     |some q=>
      have s:=o.mem_iff.2 (aqd d);have t2:=List.find?_some d;rw[hu q p s g t2 t1]
   ·exfalso;simp[dU,oo,t]at f
  |_=>exfalso;simp[dU,oo]at f
section
variable{P:Program}{W:World}
theorem acx{α β:Type}{f:α->Option β}: ∀ {l:List α} {r:List β},l.mapM f=some r->l.length=r.length/\ ∀ (i:Nat) a b,l[i]?=some a->r[i]?=some b->f a=some b
 | [],r,h=>by grind
 |x::l,r,h=>by
  rw[axj]at h;simp only[bind,al3,pure,acy]at h;obtain⟨y,e,d,c,rfl⟩:=h;obtain⟨j,g⟩:=acx c
  grind
def aoC{n:String}{d:DataW Unit}{g e:Nat}{ps rs:Array TypeId}{va:Bool}{a:List (Nat×lB×Nat)}(hfa:funcsAt P W n d)(hd:d.funcsOut= .map (a.map λx=>(.int .u8 x.1,.held x.2.1)))
  (hg:P.globalNamed n=some g) (ht: (P.globals[g]?).map (·.type)=some t) (hu:P.underlying t=some (.map k e)) (hk:P.underlying k=some (.int .u8)) (he:P.underlying e=some (.func ps rs va))
  (S: ∀x∈a,((List.range P.funcs.size).filter λf=>(P.funcs[f]?).any (·.name.toUTF8.data.toList==x.2.1))=[x.2.2]) (rD: ∀x∈a,x.2.1≠[]) (D:a.Pairwise λx y=>x.1≠y.1):
  g<W.heap.size/\ ∃es' r ms clock,r<W.heap.size/\W.cell? ⟨g,0,none⟩=some (.map (some r))/\W.heap[r]?=some (.map ms clock)/\fB (G0 W.heap.size W) es' ms.toList/\ ∀k v,dU k (rI a)=some v->dU k es'=some v:=by
 obtain⟨g',t',cs,fuel,p,h1,h2,h3,u⟩:=hfa;obtain rfl:g'=g:=ahJ (h1.symm.trans hg);obtain rfl:t'=t:=ahJ (h2.symm.trans ht);rw[hd]at u;cases fuel with
 |zero=>simp[DataW.trod]at u
 |succ fuel=>
 unfold DataW.trod at u;rw[hu]at u;obtain⟨b,K⟩: ∃b,cs.toList=[.map (some b)]:=by
  split at u<;>simp_all
 rw[K]at u;simp only at u;split at u
 case h_2=>cases u
 rename_i es clock hb;split at u
 case isFalse=>cases u
 obtain⟨entries,hm,hs⟩:=al3.1 u;split at hs
 case isFalse=>cases hs
 rename_i ayY;simp only[acy,aof,DataW.map.injEq]at hs;obtain⟨G,_⟩:=hs;obtain⟨E,aoE⟩:=acx hm;have z: (entries.map (·.1)).Perm (a.map λx=>(Lit.int .u8 x.1,DataW.held x.2.1)):=by
  rw[<-G];exact(WideShapes.sorted_perm _).symm
 have B: ∀ (i:Nat) (m:MapEntry),es.toList[i]?=some m-> ∃x∈a,(entries.map (·.1))[i]?=some (Lit.int .u8 x.1,DataW.held x.2.1)/\m.key= .int .u8 x.1/\m.val= .func (.func x.2.2) #[] #[]:=by
  intro i m J;have I:i<entries.length:=by rw[<-E];exact(abQ.1 J).1
  have B:=aoE i m entries[i] J (acJ I);obtain⟨key,l,s⟩:=al3.1 B;have U:entries[i].1∈a.map λx=>(Lit.int .u8 x.1,DataW.held x.2.1):=z.mem_iff.1 (ael.2 ⟨entries[i],as1 I,rfl⟩)
  obtain⟨x,C,q⟩:=ael.1 U;refine⟨x,C,by rw[aeA,acJ I,aei,<-q],?_⟩;split at s
  case isFalse=>cases s
  rename_i A;obtain⟨y,F,N⟩:=aeh.1 s;have hk1:key= .int .u8 x.1:=by rw[<-N]at q;simp only[aof]at q;exact q.1.symm
  have V:y.1= .held x.2.1:=by rw[<-N]at q;simp only[aof]at q;exact q.2.symm
  constructor
  ·subst hk1;unfold keyOf at l;rw[hk]at l;simp only at l;unfold mapKey at l;rw[hk]at l;split at l<;>simp_all
  ·have L:m.val.cells.toList=[m.val]:=by
     cases hv:m.val<;>first|rfl| (rw[hv]at A;simp[Value.formed,he]at A)
   rw[L]at F;obtain⟨y1,y2⟩:=y;simp only at V;subst V;cases H:x.2.1 with
   |nil=>exact absurd H (rD x C)
   |cons c r=>
    rw[H]at F;have ho:=S x C;rw[H]at ho;exact func_of_trod he ho F
 obtain⟨w,R,Q⟩:=aoA z.symm a rfl;have O:g'<W.heap.size:=by
  have hc:W.cell? ⟨g',0,none⟩=some (.map (some b)):=by rw[World.var?_cell hg h3,<-aol,K];rfl
  unfold World.cell? at hc;cases hh:W.heap[g']? with
  |none=>rw[hh]at hc;cases hc
  |some o=>exact(akF.1 hh).1
 have Z: ∀x∈a,∀y∈a,x.1=y.1->x=y:=by
  intro x C y F e;obtain⟨i,J⟩:=atj C;obtain⟨j,Y⟩:=atj F;rw[List.pairwise_iff_getElem]at D;have hi1:=(abQ.1 J).1;have X:=(abQ.1 Y).1;rcases axA i j with h|h|h
  ·have:=D i j hi1 X h;rw[(abQ.1 J).2,(abQ.1 Y).2]at this;exact absurd e this
  ·subst h;rw[J]at Y;cases Y;rfl
  ·have:=D j i X hi1 h;rw[(abQ.1 J).2,(abQ.1 Y).2]at this;exact absurd e.symm this
 refine⟨O,rI w,b,es,clock,(akF.1 hb).1,?_,hb,?_,?_⟩
 ·rw[World.var?_cell hg h3,<-aol,K];rfl
 ·have hl':w.length=es.toList.length:=by
    have:=afW List.length Q;simp only[aej]at this;omega
  have key: ∀ (T:List (Nat×lB×Nat)) (M:List MapEntry),T.length=M.length->(∀ (i:Nat) x m,T[i]?=some x->M[i]?=some m->m.key= .int .u8 x.1/\m.val= .func (.func x.2.2) #[] #[])->fB (G0 W.heap.size W) (rI T) M:=by
   intro T
   induction T with
   |nil=>
    intro M hM _;cases M with
    |nil=>rfl
    |cons m M=>simp at hM
   |cons x T ih=>
    intro M hM hh;cases M with
    |nil=>simp at hM
    |cons m M=>
     obtain⟨e1,e2⟩:=hh 0 x m rfl rfl;refine⟨m,M,rfl,rfl,by rw[e1];rfl,by rw[e2];exact⟨.func x.2.2,#[],#[],rfl,rfl,rfl,rfl⟩,ih M (by simpa using hM) λi x' m' C hm=>hh (i+1) x' m' (by simpa using C) (by simpa using hm)⟩
  refine key w es.toList hl' λi x m C hm=>?_
  obtain⟨y,F,hy1,hy2,hy3⟩:=B i m hm;have e1: (entries.map (·.1))[i]?=some (Lit.int .u8 x.1,DataW.held x.2.1):=by
   rw[<-Q,aeA,C];rfl
  rw[hy1]at e1;simp only[acy,aof,Lit.int.injEq,axg]at e1;have e2:y.1=x.1:=by have:=e1.1;omega
  have:y=x:=Z y F x (R.mem_iff.1 (ajY C)) e2;subst this;exact⟨hy2,hy3⟩
 ·intro k v hf;refine aoB (λp hp=>?_) (R.symm.map _) ?_ hf
  ·obtain⟨x,_,rfl⟩:=ael.1 hp;exact⟨x.1,rfl⟩
  ·rw[ax2];refine D.imp λhab=>?_
   simp only[ne_eq,AV.int.injEq,axg];omega
end
section
variable{X:Ctx}
def aoK{args:lA}{E:AS}{r:aT}(h:k9 X (D X) Lw l args E=some r):D X (.fn (.yield l) [] []) args E=some r:=
 GC (by trivial)
def Ex.code:Ex->PC
 |.ret=>.ret
 |.exit id=>.exit id
 |_=>.skip
end
section
structure YV(S:Type)where
 P:S->List ae->Prop
 row:S->oN
 dp:Nat->Prop
 c:Nat
structure YV.Ok{S:Type}(V:YV S):Prop where
 st: ∀s W W',V.P s W->(∀i,V.dp i\/V.row s=some i->W'[i]?=W[i]?)->V.P s W'
 lt: ∀s W r,V.P s W->V.row s=some r-> ∃v z t af,W[r]?=some (.row v z t af)
def YV.Fr{S:Type}(V:YV S)(s:S)(W a:List ae):Prop:=W.length<=a.length/\ ∀i,i<W.length-> ¬V.dp i->V.row s≠some i->a[i]?=W[i]?
def kq(c b:Nat)(lo aj:oN)(r a:oN):Prop:=(aj=lo/\a=r)\/ ∃j,c<=j/\j<b/\aj=cK lo j
variable{X:Ctx}
def NG(X:Ctx){S:Type}(V:YV S)(b:Nat)(y:AV)(x:lA)(s:S)(Q:Bool->S->Prop):Prop:=
 ∀W,V.P s W->b<=W.length-> ∀lo,∃c a d aj,D X y x ⟨W,lo⟩=some (.ret (.bool c) ⟨d,aj⟩)/\V.P a d/\V.Fr s W d/\ (V.row a=V.row s\/ ∃r,V.row a=some r/\W.length<=r)/\kq V.c b lo aj (V.row s) (V.row a)/\Q c a
def s7(X:Ctx)(g:AV)(a:Nat)(G:List ae)(xs:List lA):Prop:=
 ∀ (S:Type) (V:YV S) (y:AV) (I:Nat->S->Prop) (J:S->Prop) (b:Nat),V.Ok->(∀i,V.dp i->i<b/\ ¬(a<=i/\i<a+G.length))->
   (∀j x s,xs[j]?=some x->I j s->NG X V b y x s (λc d=>if c=true then I (j+1) d else J d))->
   ∀W s,V.P s W->I 0 s->W.length=b->V.row s=none->(∀i,i<G.length->W[a+i]?=G[i]?)-> ∀lo,∃d e aj,
    D X g [y] ⟨W,lo⟩=some (.ret (.av []) ⟨e,aj⟩)/\V.P d e/\ (I xs.length d\/J d)/\b<=e.length/\
    (∀i,i<b-> ¬V.dp i-> ¬(a<=i/\i<a+G.length)->e[i]?=W[i]?)/\kq V.c b lo aj none (V.row d)
def acA(X:Ctx){S:Type}(V:YV S)(b:Nat)(g:AV)(a:Nat)(G:List ae)(xs:List lA):Prop:=
 ∀ (y:Nat) (I:Nat->S->Prop) (J:S->Prop),(∀i,V.dp i->i<b/\ ¬(a<=i/\i<a+G.length))->
   (∀j x s,xs[j]?=some x->I j s->NG X V b (.fn (.yield y) [] []) x s (λc d=>if c=true then I (j+1) d else J d))->
   ∀W s,V.P s W->I 0 s->W.length=b->V.row s=none->(∀i,i<G.length->W[a+i]?=G[i]?)-> ∀lo,∃d e aj,
    D X g [.fn (.yield y) [] []] ⟨W,lo⟩=some (.ret (.av []) ⟨e,aj⟩)/\V.P d e/\ (I xs.length d\/J d)/\b<=e.length/\
    (∀i,i<b-> ¬V.dp i-> ¬(a<=i/\i<a+G.length)->e[i]?=W[i]?)/\kq V.c b lo aj none (V.row d)
theorem CX:cK none j=some j:=rfl
def acB: ∃q,cK (some i) j=some q/\ (q=i\/q=j):=by
 refine⟨Nat.min j i,rfl,?_⟩
 grind
def NH{S:Type}(V:YV S)(b:Nat)(s:S)(W:List ae)(I:S->Prop)(J:Ex->S->Prop):bQ:=λex _ E=>
 ∃a,V.P a E.heap/\V.Fr s W E.heap/\ ((E.lo=none/\V.row a=V.row s)\/ ∃j,V.c<=j/\j<b/\E.lo=some j/\ (V.row a=V.row s\/ ∃r,V.row a=some r/\W.length<=r))/\
  (match ex with|.normal=>I a|.panic _=>False|ex=>J ex a)
def NI{H:List ae}(a:v.refs=0): (finish n lo v ⟨H,aj⟩).2=(match aj with|none=>⟨H.take n,lo⟩|some j=>if n<=j then⟨H.take n,lo⟩else⟨H,cK lo j⟩):=by
 have c: ∀k E,freeze E n (k+1) v=some v:=λk E=>xQ (by omega)
 unfold finish;cases aj with
 |none=>grind
 |some j=>
  simp only[aje];split
  ·grind
  ·rfl
def qf{W:List ae}{o:ae}(h:i≠l): (W.set l o)[i]?=W[i]?:=by grind
def acC{W:List ae}{o:ae}(h:l<W.length): (W.set l o)[l]?=some o:=by grind
def yV{S:Type}(V:YV S)(m:Nat)(f:FuncId)(e:Env)(a:lN)(as d:PC):YV (S×Option Ex)where
 P:=λs W=>V.P s.1 W/\W[m]?=some .fj/\W[m+1]?=some (match s.2 with|none=>.loop .ready none f e a as d|some ex=>.loop .done (some ex.code) f e a as d)
 row:=λs=>V.row s.1
 dp:=λi=>V.dp i\/i=m\/i=m+1
 c:=V.c
def NJ{S:Type}{V:YV S}(c:V.Ok){d:lN}{as n:PC}: (yV V m f e d as n).Ok where
 st:=λs W o ⟨l,k,j⟩ h=>by
  refine⟨c.st _ _ _ l λi a=>h i ?_,?_,?_⟩
  ·rcases a with a|a
   ·exact .inl (.inl a)
   ·exact .inr a
  ·rw[h m (.inl (.inr (.inl rfl)))];exact k
  ·rw[h (m+1) (.inl (.inr (.inr rfl)))];exact j
 lt:=λs W r h g=>c.lt _ _ r h.1 g
def acD{S:Type}(V:YV S)(P:V.Ok){g:ao}{p:lN}{as t:PC}{Q:bQ}(xs:List lA)(a:Nat)(G W0:List ae)(s0:S)
  (hg:pN X (g.get e)=true) (hit:acA X (yV V W0.length f e p as t) (W0.length+2) (g.get e) a G xs) (hG: ∀i,i<G.length->W0[a+i]?=G[i]?) (hGl:a+G.length<=W0.length)
  (q: ∀i,V.dp i->i<W0.length/\ ¬(a<=i/\i<a+G.length)) (hP:V.P s0 W0) (U:V.row s0=none)
  (I:Nat->S->Prop) (J:Ex->S->Prop) (h0:I 0 s0) (hJ: ∀ex s,J ex s-> ∃u,pP ex=some (some u)/\xh u=some ex/\ex.code=u)
  (hb: ∀j x s,xs[j]?=some x->I j s->x.length=p.length/\ ∀W,V.P s W->W0.length+2<=W.length->
    wp X f true as ⟨gT e p x,[]⟩ ⟨W,none⟩ (λex fr Hg=>ex= .normal/\ ∃R1,Hg=⟨W++R1,none⟩/\
     ∀K,K.length=W.length->V.P s K->wp X f true t fr ⟨K++R1,none⟩ (NH V (W0.length+2) s K (I (j+1)) J)))
  (h1: ∀n k aj,I xs.length n->V.P n k->W0.length+2<=k.length->k[W0.length]?=some .fj->(∀i,i<W0.length-> ¬V.dp i-> ¬(a<=i/\i<a+G.length)->k[i]?=W0[i]?)->kq V.c (W0.length+2) none aj none (V.row n)->Q .normal ⟨e,[W0.length]⟩ ⟨k,aj⟩)
  (h2: ∀ex n k aj,J ex n->V.P n k->W0.length+2<=k.length->k[W0.length]?=some .fj->(∀i,i<W0.length-> ¬V.dp i-> ¬(a<=i/\i<a+G.length)->k[i]?=W0[i]?)->kq V.c (W0.length+2) none aj none (V.row n)->Q ex ⟨e,[W0.length]⟩ ⟨k,aj⟩):
  wp X f false (.gR g p as t) ⟨e,[]⟩ ⟨W0,none⟩ Q:=by
 obtain⟨m,hm⟩: ∃m,m=W0.length:=⟨_,rfl⟩;rw[<-hm]at hit
 let B:=yV V m f e p as t
 have hV':B.Ok:=NJ P
 let I':Nat->S×Option Ex->Prop:=λj s=>s.2=none/\I j s.1
 let J':S×Option Ex->Prop:=λs=> ∃ex,s.2=some ex/\J ex s.1
 have xS: ∀s W r,V.P s W->V.row s=some r->r<W.length:=λs W r h1 h2=>by
  obtain⟨_,_,_,_,h⟩:=P.lt s W r h1 h2;exact(abQ.1 h).1
 have aoL: ∀j x s,xs[j]?=some x->I' j s->NG X B (m+2) (.fn (.yield (m+1)) [] []) x s (λc n=>if c=true then I' (j+1) n else J' n):=by
  rintro j x ⟨s,so⟩ hx ⟨z,hI⟩ W ⟨M,hd,hl⟩ hW lo;simp only at z hI M hl;subst z;simp only at hl;obtain⟨pX,hw⟩:=hb j x s hx hI;obtain⟨ex,fr,Hg,CY,rfl,R1,rfl,hbd⟩:=hw W M (by omega);have hnp: ∀i,V.dp i\/V.row s=some i->i≠m/\i≠m+1:=by
   rintro i (d|d)
   ·have:=(q i d).1;omega
   ·obtain⟨_,_,_,_,h⟩:=P.lt s W i M d;refine⟨?_,?_⟩
    ·rintro rfl;rw[hd]at h;cases h
    ·rintro rfl;rw[hl]at h;cases h
  obtain⟨K,F⟩: ∃K,K=W.set (m+1) (.loop .busy none f e p as t):=⟨_,rfl⟩;have z5:K.length=W.length:=by rw[F,aen]
  have NK:V.P s K:=P.st _ _ _ M λi d=>by rw[F,qf (hnp i d).2]
  obtain⟨Hh,fr2,l,NL,n,H,R,O,hex⟩:=hbd K z5 NK;have Hi: (W++R1)[m+1]?=some (.loop .ready none f e p as t):=by rw[abP (by omega)];exact hl
  have aoO:AS.set ⟨W++R1,none⟩ (m+1) (.loop .busy none f e p as t) 0=⟨K++R1,none⟩:=by
   simp only[AS.set,ac7,aeE,F];rw[aqc _ _ (by omega)]
  have aoP:K[m+1]?=some (.loop .busy none f e p as t):=by rw[F];exact acC (by omega)
  have N: ∀i,i=m\/i=m+1-> ¬V.dp i/\V.row s≠some i:=λi d=>⟨λh=>by have:=(q i h).1;omega,λh=>by have:=hnp i (.inr h);omega⟩
  have L:l.heap[m+1]?=some (.loop .busy none f e p as t):=by
   rw[R.2 (m+1) (by omega) (N _ (.inr rfl)).1 (N _ (.inr rfl)).2];exact aoP
  have T:l.heap[m]?=some .fj:=by
   rw[R.2 m (by omega) (N _ (.inl rfl)).1 (N _ (.inl rfl)).2,F,qf (by omega)];exact hd
  have Z: ∀i,V.dp i\/V.row n=some i->i≠m/\i≠m+1:=by
   rintro i (d|d)
   ·have:=(q i d).1;omega
   ·obtain⟨_,_,_,_,h⟩:=P.lt n _ i H d;refine⟨?_,?_⟩
    ·rintro rfl;rw[T]at h;cases h
    ·rintro rfl;rw[L]at h;cases h
  have ay2:W.length<=l.heap.length:=by have:=R.1;omega
  have CA: ∀ (u:Option PC),pP Hh=some u->k9 X (D X) Lw (m+1) x ⟨W,lo⟩=some (.ret (.bool u.isNone)
    (finish W.length lo (.bool u.isNone) ⟨l.heap.set (m+1) (.loop (if u.isNone then .ready else .done) u f e p as t),l.lo⟩).2):=by
   intro u NN;unfold k9;simp only[hl];rw[acE pX,CY];simp only[Hi,aoO,NL];simp only[endRound,NN,L,AS.set,ac7,aeE]
  have key: ∀ (u:Option PC) (w:Option Ex),pP Hh=some u->(match w with|none=>ae.loop .ready none f e p as t|some ex=>.loop .done (some ex.code) f e p as t)= .loop (if u.isNone then .ready else .done) u f e p as t->
    ∃k aj,D X (.fn (.yield (m+1)) [] []) x ⟨W,lo⟩=some (.ret (.bool u.isNone) ⟨k,aj⟩)/\B.P (n,w) k/\B.Fr (s,none) W k/\ (B.row (n,w)=B.row (s,none)\/ ∃r,B.row (n,w)=some r/\W.length<=r)/\kq B.c (m+2) lo aj (B.row (s,none)) (B.row (n,w)):=by
   intro u w NN Y;obtain⟨o,ho⟩: ∃o,o=ae.loop (if u.isNone then .ready else .done) u f e p as t:=⟨_,rfl⟩;rw[<-ho]at Y;have hD:=aoK (CA u NN);rw[<-ho]at hD;have acG: ∀k,(∀i,i<W.length->k[i]?=(l.heap.set (m+1) o)[i]?)->(∀i,V.row n=some i->k[i]?=(l.heap.set (m+1) o)[i]?)->W.length<=k.length->B.P (n,w) k/\B.Fr (s,none) W k:=by
    intro k A hrw y;refine⟨⟨P.st _ _ _ H λi d=>?_,?_,?_⟩,y,λi d hp C=>?_⟩
    ·rcases d with d|d
     ·rw[A i (by have:=(q i d).1;omega),qf (Z i (.inl d)).2]
     ·rw[hrw i d,qf (Z i (.inr d)).2]
    ·rw[A m (by omega),qf (by omega)];exact T
    ·rw[A (m+1) (by omega),acC (by omega)];exact afW some Y.symm
    ·have hp1: ¬V.dp i:=λh=>hp (.inl h)
     have CZ:i≠m/\i≠m+1:=⟨λh=>hp (.inr (.inl h)),λh=>hp (.inr (.inr h))⟩;rw[A i d,qf CZ.2,R.2 i (by omega) hp1 C,F,qf CZ.2]
   rcases O with⟨hn,C⟩| ⟨jj,hc,hj,hn,C⟩
   ·have e1: (finish W.length lo (.bool u.isNone) ⟨l.heap.set (m+1) o,l.lo⟩).2=⟨(l.heap.set (m+1) o).take W.length,lo⟩:=by rw[NI rfl,hn]
    rw[e1]at hD;refine⟨_,_,hD,?_⟩;obtain⟨g1,g2⟩:=acG ((l.heap.set (m+1) o).take W.length) (λi d=>by rw[aez d])
     (λi d=>by rw[aez (xS s W i M (by rw[<-C];exact d))]) (by rw[aeD,aen];omega)
    exact⟨g1,g2,.inl C,.inl ⟨rfl,C⟩⟩
   ·have e1: (finish W.length lo (.bool u.isNone) ⟨l.heap.set (m+1) o,l.lo⟩).2=⟨l.heap.set (m+1) o,cK lo jj⟩:=by
      rw[NI rfl,hn];simp only;rw[acz (by omega)]
    rw[e1]at hD;refine⟨_,_,hD,?_⟩;obtain⟨g1,g2⟩:=acG (l.heap.set (m+1) o) (λi _=>rfl) (λi _=>rfl) (by rw[aen];omega);refine⟨g1,g2,?_,.inr ⟨jj,hc,by omega,rfl⟩⟩;rcases C with C| ⟨r,C,ay3⟩
    ·exact .inl C
    ·exact .inr ⟨r,C,by omega⟩
  cases Hh with
  |normal=>
   obtain⟨k,aj,g1,g2,g3,g4,g5⟩:=key none none rfl rfl;exact⟨true,(n,none),k,aj,g1,g2,g3,g4,g5,by simp only[aeE];exact⟨rfl,hex⟩⟩
  |panic v=>exact hex.elim
  |ret=>
   obtain⟨k,aj,g1,g2,g3,g4,g5⟩:=key (some .ret) (some .ret) rfl rfl;exact⟨false,(n,some .ret),k,aj,g1,g2,g3,g4,g5,by simp only[aek,ahz];exact⟨.ret,rfl,hex⟩⟩
  |exit id=>
   obtain⟨k,aj,g1,g2,g3,g4,g5⟩:=key (some (.exit id)) (some (.exit id)) rfl rfl;exact⟨false,(n,some (.exit id)),k,aj,g1,g2,g3,g4,g5,by simp only[aek,ahz];exact⟨.exit id,rfl,hex⟩⟩
 have aoS: ∀i,B.dp i->i<m+2/\ ¬(a<=i/\i<a+G.length):=by
  rintro i (d|rfl|rfl)
  ·have:=q i d;exact⟨by omega,this.2⟩
  ·exact⟨by omega,by omega⟩
  ·exact⟨by omega,by omega⟩
 have aoT: ∀i,V.dp i\/V.row s0=some i->i<W0.length:=by
  rintro i (d|d)
  ·exact(q i d).1
  ·rw[U]at d;cases d
 have NO:B.P (s0,none) (W0++[.fj,.loop .ready none f e p as t]):=by
  refine⟨P.st _ _ _ hP λi d=>by rw[abP (aoT i d)],?_,?_⟩
  ·rw[hm,di rfl];rfl
  ·rw[hm,bE rfl];rfl
 obtain⟨⟨n,w⟩,k,aj,hD,⟨H,zX,E⟩,hor,y,oC,O⟩:=hit (m+1) I' J' aoS aoL (W0++[.fj,.loop .ready none f e p as t]) (s0,none) NO ⟨rfl,h0⟩ (by simp[hm]) U
  (λi d=>by rw[abP (by omega)];exact hG i d) none
 simp only at H E;have aoU: ∀i,V.dp i\/V.row n=some i->i≠m/\i≠m+1:=by
  rintro i (d|d)
  ·have:=(q i d).1;omega
  ·obtain⟨_,_,_,_,h⟩:=P.lt n _ i H d;refine⟨?_,?_⟩
   ·rintro rfl;rw[zX]at h;cases h
   ·rintro rfl;rw[E]at h;cases w<;>cases h
 have acI: ∀o,V.P n (k.set (m+1) o)/\m+2<=(k.set (m+1) o).length/\ (k.set (m+1) o)[m]?=some .fj/\ (∀i,i<m-> ¬V.dp i-> ¬(a<=i/\i<a+G.length)->(k.set (m+1) o)[i]?=W0[i]?):=by
  intro o;refine⟨P.st _ _ _ H λi d=>by rw[qf (aoU i d).2],by rw[aen];exact y,by rw[qf (by omega)];exact zX,λi d hp hg'=>?_⟩;rw[qf (by omega),oC i (by omega) (λh=>by rcases h with h|h|h;exact hp h;omega;omega) hg',abP (by omega)]
 have aoW: ((AS.push ⟨W0,none⟩ .fj).push (.loop .ready none f e p as t))=(⟨W0++[.fj,.loop .ready none f e p as t],none⟩:AS):=by simp[AS.push]
 have hrc: ∀r,endLoop (m+1) ⟨e,[m]⟩ ⟨k,aj⟩=some r->bc X (D X) Lw f false (.gR g p as t) ⟨e,[]⟩ ⟨W0,none⟩=some r:=by
  intro r C;simp only[bc,aek,ahz];rw[acE hg,<-hm,aoW,hD];exact C
 rcases hor with⟨z,hI⟩| ⟨ex,z,hJx⟩
 ·simp only at z;subst z;simp only at E;obtain⟨q1,q2,q3,q4⟩:=acI (.loop .exhausted none f e p as t);refine⟨.normal,⟨e,[m]⟩,⟨k.set (m+1) (.loop .exhausted none f e p as t),aj⟩,hrc _ ?_,?_⟩
  ·unfold endLoop;simp only[E,AS.set,ac7,aeE];rfl
  ·rw[hm]at q2 q3 q4⊢;exact h1 n _ aj hI (hm ▸ q1) q2 q3 q4 (hm ▸ O)
 ·simp only at z;subst z;simp only at E;obtain⟨u,j1,j2,j3⟩:=hJ ex n hJx;obtain⟨q1,q2,q3,q4⟩:=acI (.loop .exhausted (some ex.code) f e p as t);refine⟨ex,⟨e,[m]⟩,⟨k.set (m+1) (.loop .exhausted (some ex.code) f e p as t),aj⟩,hrc _ ?_,?_⟩
  ·unfold endLoop;simp only[E,j3,j2,AS.set,ac7,aeE];rfl
  ·rw[hm]at q2 q3 q4⊢;exact h2 ex n _ aj hJx (hm ▸ q1) q2 q3 q4 (hm ▸ O)
structure jR{S:Type}(V:YV S)(b:Nat)(W0:List ae)(own:Nat->Prop)(s:S)(W:List ae)(lo:oN):Prop where
 P:V.P s W
 len:b<=W.length
 fr: ∀i,i<b-> ¬V.dp i-> ¬own i->W[i]?=W0[i]?
 lo: (lo=none/\V.row s=none)\/ ∃j,V.c<=j/\j<b/\lo=some j
 row: ∀r,V.row s=some r->b<=r
def NP{S:Type}(V:YV S)(t:V.Ok){g:ao}{o:lN}{as u:PC}{Q:bQ}(xs:List lA)(a:Nat)(G W0:List ae)(l:S)
  (z:pN X (g.get e)=true) (q:s7 X (g.get e) a G xs) (D: ∀i,i<G.length->W0[a+i]?=G[i]?) (r:a+G.length<=W0.length)
  (k: ∀i,V.dp i->i<W0.length/\ ¬(a<=i/\i<a+G.length)) (B:V.P l W0) (h:V.row l=none)
  (I:Nat->S->Prop) (J:Ex->S->Prop) (H:I 0 l) (C: ∀ex s,J ex s-> ∃p,pP ex=some (some p)/\xh p=some ex/\ex.code=p)
  (A: ∀j x s,xs[j]?=some x->I j s->x.length=o.length/\ ∀W,V.P s W->W0.length+2<=W.length->
    wp X f true as ⟨gT e o x,[]⟩ ⟨W,none⟩ (λex fr n=>ex= .normal/\ ∃R1,n=⟨W++R1,none⟩/\
     ∀m,m.length=W.length->V.P s m->wp X f true u fr ⟨m++R1,none⟩ (NH V (W0.length+2) s m (I (j+1)) J)))
  (F: ∀d c aj,I xs.length d->V.P d c->W0.length+2<=c.length->c[W0.length]?=some .fj->(∀i,i<W0.length-> ¬V.dp i-> ¬(a<=i/\i<a+G.length)->c[i]?=W0[i]?)->kq V.c (W0.length+2) none aj none (V.row d)->Q .normal ⟨e,[W0.length]⟩ ⟨c,aj⟩)
  (E: ∀ex d c aj,J ex d->V.P d c->W0.length+2<=c.length->c[W0.length]?=some .fj->(∀i,i<W0.length-> ¬V.dp i-> ¬(a<=i/\i<a+G.length)->c[i]?=W0[i]?)->kq V.c (W0.length+2) none aj none (V.row d)->Q ex ⟨e,[W0.length]⟩ ⟨c,aj⟩):
  wp X f false (.gR g o as u) ⟨e,[]⟩ ⟨W0,none⟩ Q:=
 acD V t xs a G W0 l z (λy I J w v=>q _ _ _ I J _ (NJ t) w v) D r k B h I J H C A F E
section
variable{S:Type}{V:YV S}{b:Nat}{W0 W:List ae}{own:Nat->Prop}{s:S}{lo:oN}
def YV.Ok.Hj(a:V.Ok)(d:V.P s W)(c:V.row s=some r):r<W.length:=by
 obtain⟨_,_,_,_,h⟩:=a.lt s W r d c
 grind
def jR.push(c:V.Ok)(d: ∀i,V.dp i->i<b)(h:jR V b W0 own s W lo)(L:List ae):jR V b W0 own s (W++L) lo where
 P:=c.st _ _ _ h.P λi a=>by
  have:i<W.length:=by
   rcases a with a|a
   ·have:=d i a;have:=h.len;omega
   ·exact c.Hj h.P a
  grind
 len:=by have:=h.len;grind
 fr:=λi a f e=>by rw[abP (by have:=h.len;omega)];exact h.fr i a f e
 lo:=h.lo
 row:=h.row
theorem jR.set(c:V.Ok)(h:jR V b W0 own s W lo){o:ae}(g: ¬V.dp k)(f:V.row s≠some k)(ho:own k\/b<=k):jR V b W0 own s (W.set k o) lo where
 P:=c.st _ _ _ h.P λi a=>by grind
 len:=by rw[aen];exact h.len
 fr:=λi a e d=>by
  rw[qf]
  ·exact h.fr i a e d
  grind
 lo:=h.lo
 row:=h.row
def jR.step(h:jR V b W0 own s W lo){a:S}{d:List ae}(u:V.P a d)(k:V.Fr s W d)(t:V.row a=V.row s\/ ∃r,V.row a=some r/\W.length<=r)(p:kq V.c b lo aj (V.row s) (V.row a)):jR V b W0 own a d aj where
 P:=u
 len:=afI h.len k.1
 fr:=λi g c f=>by
  have x:=h.len;rw[k.2 i (by omega) c (λe=>by have:=h.row i e;omega)];exact h.fr i g c f
 lo:=by
  rcases p with⟨rfl,e⟩| ⟨j,o,m,rfl⟩
  ·rcases h.lo with⟨c,f⟩|q
   ·grind
   grind
  ·rcases h.lo with⟨rfl,_⟩| ⟨i,n,g,rfl⟩
   ·exact .inr ⟨j,o,m,rfl⟩
   ·obtain⟨q,e,w⟩:=acB (i:=i) (j:=j)
    grind
 row:=λr e=>by
  rcases t with q| ⟨v,q,l⟩
  ·exact h.row r (by grind)
  ·rw[q]at e;cases e;exact afI h.len l
def jR.fin(m:V.Ok)(p: ∀i,V.dp i->i<b)(h:jR V b W0 own s W lo){dB:oN}: ∃a aj,(finish b dB (.av []) ⟨W,lo⟩)=(.av [],⟨a,aj⟩)/\V.P s a/\b<=a.length/\
  (∀i,i<b-> ¬V.dp i-> ¬own i->a[i]?=W0[i]?)/\kq V.c b dB aj none (V.row s):=by
 have e: (finish b dB (.av []) ⟨W,lo⟩).1= .av []:=by
  have r:freeze ⟨W,lo⟩ b 12 (.av [])=some (.av []):=xQ (ac7 _);have key: ∀c:Bool,(if c=true then(match freeze ⟨W,lo⟩ b 12 (.av [])with|some v'=>(v',(⟨W.take b,dB⟩:AS))|none=>(.av [],⟨W,fX dB lo⟩))else(.av [],⟨W,fX dB lo⟩)).1= .av []:=by grind
  cases lo with
  |none=>exact key true
  |some j=>exact key (decide (b<=j))
 have o:=NI (n:=b) (lo:=dB) (aj:=lo) (v:=.av []) (H:=W) rfl;rcases h.lo with⟨rfl,q⟩| ⟨j,l,k,rfl⟩
 ·refine⟨W.take b,dB,Prod.ext e o,?_,?_,?_,.inl ⟨rfl,q⟩⟩
  ·refine m.st _ _ _ h.P λi d=>?_
   grind
  ·rw[aeD];have:=h.len;omega
  ·intro i d g f;rw[aez d];exact h.fr i d g f
 ·refine⟨W,cK dB j,Prod.ext e ?_,h.P,h.len,h.fr,.inr ⟨j,l,k,rfl⟩⟩
  grind
end
def SV(p sz:Nat)(ty:TypeId)(W:List ae)(r:oN)(af:List lA):Prop:=
 (r=none/\af=[]/\W[p]?=some (.box [.an] none))\/ ∃id ai,r=some id/\af≠[]/\p<id/\W[p]?=some (.box [.ref id ai sz 0 af.length false] none)/\W[id]?=some (.row ai sz ty af)
def SV.st{ty:TypeId}{W f:List ae}{r:oN}(h:SV p sz ty W r af)(j:f[p]?=W[p]?)(g: ∀i,r=some i->f[i]?=W[i]?):SV p sz ty f r af:=by
 rcases h with⟨a,b,c⟩| ⟨id,ai,a,e,b,c,d⟩
 ·exact .inl ⟨a,b,by grind⟩
 ·exact .inr ⟨id,ai,a,e,b,by grind,by grind⟩
theorem SV.row{ty:TypeId}{W:List ae}{r:oN}(h:SV p sz ty W r af)(e:r=some i): ∃v z t es,W[i]?=some (.row v z t es):=by
 rcases h with⟨a,b,c⟩| ⟨id,ai,a,f,b,c,d⟩
 ·grind
 grind
def acL{H:List ae}{v0:AV}(h:H[p]?=some (.box [v0] tg))(c:v.cm=false)(a:v.cells=[v])(d:p+1<v.refs):jM ⟨H,lo⟩ 1 (.ptr p 0) v=some ⟨H.set p (.box [v] tg),cK lo p⟩:=by
 unfold jM;simp only[h,a];rw[acE ⟨c,rfl,aeg _⟩];simp only[AS.set];rw[acz (by omega)];rfl
def SV.append{bytes:Nat}{ty:TypeId}{W:List ae}{r:oN}{el:lA}(h:SV p sz ty W r af)(l:p<W.length)(t:0<sz)(w:el.length=sz)(u:aI el=0)(n: (af.length+1)*bytes<=room)(lo:oN):
  ∃v v' o a f,W[p]?=some (.box [v] none)/\dm ⟨W,lo⟩ ty sz bytes v [el]=some (v',⟨o,lo⟩)/\jM ⟨o,lo⟩ 1 (.ptr p 0) v'=some ⟨a,cK lo p⟩/\SV p sz ty a f (af++[el])/\
   W.length<=a.length/\ (∀i,i<W.length->i≠p->r≠some i->a[i]?=W[i]?)/\ (f=r\/ ∃q,f=some q/\W.length<=q):=by
 have m:0<sz/\ [el].all (λx=>x.length==sz)=true:=⟨t,by grind⟩;rcases h with⟨rfl,rfl,c⟩| ⟨id,ai,rfl,_,g,c,d⟩
 ·have e1:dm ⟨W,lo⟩ ty sz bytes .an [el]=some (.ref W.length 0 sz 0 1 false,⟨W++[.row 0 sz ty [el]],lo⟩):=by
    unfold dm;rw[acE m];simp only[aep,alQ,ajg,Nat.one_ne_zero,ahz];rw[acE (by simpa using n)];rfl
  have k: (W++[ae.row 0 sz ty [el]])[p]?=some (.box [.an] none):=by rw[abP l];exact c
  refine⟨.an,_,_,(W++[ae.row 0 sz ty [el]]).set p (.box [.ref W.length 0 sz 0 1 false] none),some W.length,c,e1,?_,.inr ⟨W.length,0,rfl,by simp,l,?_,?_⟩,?_,?_,.inr ⟨_,rfl,aeg _⟩⟩
  ·exact acL k rfl rfl (by simp only[AV.refs];omega)
  ·exact ac9 (by rw[ac6];omega)
  ·rw[abN (by omega)];simp
  ·simp
  grind
 ·have j:=(abQ.1 d).1;have e1:dm ⟨W,lo⟩ ty sz bytes (.ref id ai sz 0 af.length false) [el]=some (.ref id (ai+1) sz 0 (af.length+1) false,⟨W.set id (.row (ai+1) sz ty (af++[el])),lo⟩):=by
   unfold dm;rw[acE m];simp only[d];rw[acE ⟨trivial,trivial,trivial,trivial,by omega,by simpa using n⟩];simp[AS.set,bT,u]
  have k: (W.set id (ae.row (ai+1) sz ty (af++[el])))[p]?=some (.box [.ref id ai sz 0 af.length false] none):=by rw[abN (by omega)];exact c
  refine⟨_,_,_,(W.set id (.row (ai+1) sz ty (af++[el]))).set p (.box [.ref id (ai+1) sz 0 (af.length+1) false] none),some id,c,e1,?_,.inr ⟨id,ai+1,rfl,by simp,g,?_,?_⟩,?_,?_,.inl rfl⟩
  ·exact acL k rfl rfl (by simp only[AV.refs];omega)
  ·rw[ac9 (by rw[aen];omega)];simp
  ·rw[abN (by omega),ac9 j]
  ·simp
  ·intro i A z y;rw[abN (λe=>z e.symm),abN (λe=>y (by rw[e]))]
end
section
variable{X:Ctx}{f:FuncId}{rd:Bool}{E:AS}{Q:bQ}{e:Env}{ms:lN}{bG:List FP}{js:lN}{os:List (aP×lN)}{i:I}{d:oN}{dd t:Nat}{v:AV}
def Ai(bG:List FP)(o:aP)(js:lN)(os:List (aP×lN))(e:Env)(ms:lN)(Q:bQ):AV->AS->Prop:=λv E=>Ca bG (o,js) os=true/\Q (.panic v) ⟨e,ms⟩ E
def gD(X:Ctx)(t:Nat)(b:Bool)(d:oN)(i:I)(js:lN)(os:List (aP×lN))(bG:List FP)(e:Env)(ms:lN)(E:AS)(Q:bQ)(c:AV):Prop:=match c with
 |.bool x=>if x=b then aQ X i e E (kD X i E bG js os d e ms Q) (Ai bG ⟨some (t,b),d,i⟩ js os e ms Q)else gr X (bG++[.no]) os (Fr.put ⟨e,ms⟩ d .undef) E Q
 |_=>gr X (bG++[.no]) os (Fr.put ⟨e,ms⟩ d .undef) E Q
def acM{b:Bool}:gr X bG ((⟨some (t,b),d,i⟩,js)::os) ⟨e,ms⟩ E Q=gD X t b d i js os bG e ms E Q (e t):=by
 unfold gD;split
 ·rename_i x a;by_cases h:x=b
  ·subst h;apply propext;simp only[gr,aQ,gb,fO,a,aqg,aeE];cases a:exec X (D X) i e E with
   |none=>simp[qb]
   |some o=>
    cases o with
    |ok v g=>
     simp only[qb,Ni];by_cases c:qc bG (aX i e E g) js=true
     ·rw[acE c];exact⟨λh=>⟨c,h⟩,λh=>h.2⟩
     ·simp[kD,c]
    |panic v g=>
     simp only[qb,Ai]
     grind
  ·rw[acz h];have: (x==b)=false:=by grind
   simp only[gr,gb,fO,a,this,aek,ahz]
 ·have:fO e (some (t,b))=false:=by
    unfold fO;simp only
  simp only[gr,gb,this,aek,ahz]
def acN:gr X bG ((gt t d i,js)::os) ⟨e,ms⟩ E Q=gD X t true d i js os bG e ms E Q (e t):=acM
def acO:gr X bG ((gf t d i,js)::os) ⟨e,ms⟩ E Q=gD X t false d i js os bG e ms E Q (e t):=acM
theorem acP:gD X t true (some dd) i js os bG e ms E Q (.bool true)=aQ X i e E (kD X i E bG js os (some dd) e ms Q) (Ai bG ⟨some (t,true),(some dd),i⟩ js os e ms Q):=rfl
theorem acQ:gD X t true none i js os bG e ms E Q (.bool true)=aQ X i e E (kD X i E bG js os none e ms Q) (Ai bG ⟨some (t,true),none,i⟩ js os e ms Q):=rfl
theorem acR:gD X t false (some dd) i js os bG e ms E Q (.bool false)=aQ X i e E (kD X i E bG js os (some dd) e ms Q) (Ai bG ⟨some (t,false),(some dd),i⟩ js os e ms Q):=rfl
theorem acS:gD X t false none i js os bG e ms E Q (.bool false)=aQ X i e E (kD X i E bG js os none e ms Q) (Ai bG ⟨some (t,false),none,i⟩ js os e ms Q):=rfl
theorem acT:gD X t true (some dd) i js os bG e ms E Q (.bool false)=gr X (bG++[.no]) os ⟨e.set dd .undef,ms⟩ E Q:=rfl
theorem acU:gD X t true none i js os bG e ms E Q (.bool false)=gr X (bG++[.no]) os ⟨e,ms⟩ E Q:=rfl
theorem acV:gD X t false (some dd) i js os bG e ms E Q (.bool true)=gr X (bG++[.no]) os ⟨e.set dd .undef,ms⟩ E Q:=rfl
theorem acW:gD X t false none i js os bG e ms E Q (.bool true)=gr X (bG++[.no]) os ⟨e,ms⟩ E Q:=rfl
theorem acX{b:Bool}{c:lA}:gD X t b (some dd) i js os bG e ms E Q (.av c)=gr X (bG++[.no]) os ⟨e.set dd .undef,ms⟩ E Q:=rfl
theorem acY{b:Bool}{c:lA}:gD X t b none i js os bG e ms E Q (.av c)=gr X (bG++[.no]) os ⟨e,ms⟩ E Q:=rfl
def G1:=gG @acN<|gG @acO<|gG @acP<|gG @acQ<|gG @acR<|gG @acS<|gG @acT<|gG @acU<|gG @acV<|gG @acW<|gG @acX @acY
end
def Fz(E:AS)(N d:Nat)(v v':AV):Prop:= ∀k,freeze E N (k+d) v=some v'
def gV(E:AS)(N d:Nat)(cs rJ:lA):Prop:= ∀k,ik E N (k+d) cs=some rJ
section
variable{E:AS}{N d:Nat}{a a' v v':AV}{cs rJ:lA}
def Fz.low(h:v.refs<=N):Fz E N (d+1) v v:=λk=>xQ h
def gV.nil:gV E N d [] []:=λk=>by cases h:k+d<;>rw[ik]
def gV.cons(h:Fz E N d a a')(b:gV E N (d+1) cs rJ):gV E N (d+1) (a::cs) (a'::rJ):=λk=>by
 have e1:=h k;have c:=b k;rw[<-alL]at c⊢;rw[ik,e1]
 grind
def gV.eq(h:gV E N d cs rJ)(b:aI cs<=N):rJ=cs:=by
 have e1:=h 2;rw[Nat.add_comm 2 d,Nx cs b]at e1
 grind
theorem Fz.agg(h:gV E N d cs rJ):Fz E N (d+1) (.agg cs) (.agg rJ):=λk=>by
 have e1:=h k;rw[<-alL,freeze];split
 ·rename_i b;rw[h.eq b]
 grind
theorem Fz.av(h:gV E N d cs rJ):Fz E N (d+1) (.av cs) (.av rJ):=λk=>by
 have e1:=h k;rw[<-alL,freeze];split
 ·rename_i b;rw[h.eq b]
 grind
def Fz.own{H:List ae}{ty:TypeId}(h:aR N H v sz ty af)(b:bT af<=N):Fz ⟨H,lo⟩ N (d+4) v (bu v af):=λk=>by
 exact h.freeze b
def Fz.mono(h:Fz E N d v v')(b:d<=m):Fz E N m v v':=λk=>by
 have:=h (k+(m-d))
 grind
def s8{H:List ae}(b:aj=none\/ ∃j,N<=j/\aj=some j)(h:Fz ⟨H,aj⟩ N 12 v v'):finish N lo v ⟨H,aj⟩=(v',⟨H.take N,lo⟩):=by
 refine GN ?_ (by simpa using h 0)
 grind
def SV.own{ty:TypeId}{W:List ae}{r:oN}(h:SV p sz ty W r af)(f:N<=p)(b: ∀el∈af,el.length=sz): ∃v,W[p]?=some (.box [v] none)/\aR N W v sz ty af/\v.cm=false/\v.cells=[v]/\ (v= .an\/p+1<v.refs):=by
 rcases h with⟨_,rfl,c⟩| ⟨id,ai,_,_,q,c,e⟩
 ·exact⟨.an,c,aR.an,rfl,rfl,.inl rfl⟩
 ·exact⟨_,c,⟨b,.inr ⟨id,ai,by omega,rfl,e⟩⟩,rfl,rfl,.inr (by simp only[AV.refs];omega)⟩
end
def dX(N:Nat)(lo:oN):Prop:=lo=none\/ ∃j,N<=j/\lo=some j
def dX.min{N:Nat}(h:dX N lo)(b:N<=p)(c:aj=lo\/aj=cK lo p):dX N aj:=by
 rcases c with rfl|rfl
 ·exact h
 ·rcases h with rfl| ⟨j,g,rfl⟩
  ·exact .inr ⟨p,b,rfl⟩
  ·obtain⟨q,e,f⟩:=acB (i:=j) (j:=p);exact .inr ⟨q,by omega,e⟩
section
variable{P:Program}{X:Ctx}{B:Nat}{ax:World}
noncomputable def Aj(X:Ctx)(dB:oN)(pf:PF):iW->Option aT
 |some (.normal,fr,E)=>(dC E fr.marks).bind λa=>(fA X a fr.env pf.results).map λv=>.ret v {heap:=a.heap,lo:=fX dB a.lo}
 |some (.ret,fr,E)=>(dC E fr.marks).bind λa=>(fA X a fr.env pf.results).map λv=>.ret v {heap:=a.heap,lo:=fX dB a.lo}
 |_=>none
noncomputable def ny(X:Ctx)(C:bw)(L:ef)(f:FuncId)(pf:PF)(args:lA)(E:AS):Option aT:=
 if args.length<=pf.ntmps then Aj X E.lo pf (bc X C L f false pf.body {env:=c9 args,marks:=[]} {heap:=E.heap,lo:=none})else none
def aoX{cn:AS}{G:Gh}{E:AS}(c:fP.le G)(d:aY P B ax G E w)(b:AS.Ext {heap:=cn.heap,lo:=none} E){v:AV}{v':Value}(f:ak G v v'):
  ∃a,fP.le a/\aY P B ax a {heap:=E.heap,lo:=fX cn.lo E.lo} w/\ak a v v'/\cn.Ext {heap:=E.heap,lo:=fX cn.lo E.lo}:=by
 refine⟨G,c,d.lo _,f,b.len,λj h=>?_,λj o h=>?_⟩
 ·cases E.lo with
  |none=>exact h
  |some l=>exact zK (.inl h)
 ·obtain⟨o',k,i⟩:=b.obj j o h;refine⟨o',k,i.imp id λ ⟨l,e,g⟩=>?_⟩;simp only[fX,e];exact zK (.inr g)
section
variable{C:bw}(hC:fI P B ax C)(hg:fk X B ax)(hX:ow P X)(gq:zS P X B ax){L:ef}(hL:xz L)
include hC hg hX gq hL
theorem aoY(V:ko P f pf):gg P B ax f (ny X C L f pf):=by
 intro args E t h G w b hw U;unfold ny at h;split at h
 ·rename_i Y;obtain⟨rows,fn,o,n⟩:=V;obtain⟨c,y,l,m,T,q⟩:=Gb n;have k: (callFunc f b).run P w= .ok (.enter f b) w:=by
   have s: ¬fn.name= "runtime.NumGoroutine" :=by grind
   simp[callFunc,aoG,o,s,y]
  rw[k];show CallsIn (W none) 0 P f b w (Ends P B ax G E t);cases g:bc X C L f false pf.body {env:=c9 args,marks:=[]} {heap:=E.heap,lo:=none}with
  |none=>rw[g]at h;simp[Aj]at h
  |some res=>
   rw[g]at h;have he:cL G fn.ntmps (c9 args) (b++Array.replicate (fn.ntmps-b.size) undef):=Ge U (by omega);refine avU o y trivial (vq hC hg hX gq hL (r:=none) rfl c pf.body l G {heap:=E.heap,lo:=none} w {env:=c9 args,marks:=[]} _ res _ (hw.lo none) he rfl g (λe a w' S=>?_)) rfl;obtain⟨Z,K,J,I,H,F,u⟩:=S;obtain⟨ex,fr,z⟩:=res;have j: ((dC z fr.marks).bind λd=>(fA X d fr.env pf.results).map λv=>aT.ret v {heap:=d.heap,lo:=fX E.lo d.lo})=some t->LeavesInM (W none) 0 P fn a.tmps (Ends P B ax G E t) a.defers .returning w':=by
    intro h;rw[al3]at h;obtain⟨d,x,h⟩:=h;rw[aeh]at h;obtain⟨v,R,rfl⟩:=h;refine xB (by simp) fr.marks a.defers z d w' H J x (λA i=>?_);obtain⟨v',e1,D⟩:=Cr hg i I m R;refine⟨v',e1,?_⟩;obtain⟨p,Q,O,N,M⟩:=aoX K i (F.trans (xA _ _ _ x)) D;exact⟨p,Q,O,N,M⟩
   cases ex with
   |normal=>cases e<;>simp[fJ]at u;exact j h
   |ret=>cases e<;>simp[fJ]at u;exact j h
   |exit id=>simp[Aj]at h
   |panic v=>simp[Aj]at h
 grind
end
def vE(hg:fk X B ax)(hX:ow P X)(b: ∀f p,X.bU f=some p->gg P B ax f p)(a:ko P f pf):gg P B ax f (ny X (D X) Lw f pf):=
 aoY (MQ hg hX b) hg hX (Mx hg) abR a
def Ak(X:Ctx)(lo:oN)(b:List RV)(R:aT->Prop):bQ
 |.normal,fr,E=> ∃a v,dC E fr.marks=some a/\fA X a fr.env b=some v/\R (.ret v {heap:=a.heap,lo:=fX lo a.lo})
 |.ret,fr,E=> ∃a v,dC E fr.marks=some a/\fA X a fr.env b=some v/\R (.ret v {heap:=a.heap,lo:=fX lo a.lo})
 |_,_,_=>False
def vF(pf:PF){args:lA}{H:List ae}{R:aT->Prop}(j:Nat.ble args.length pf.ntmps=true)
  (h: ∀n,H.length=n->wp X f false pf.body ⟨c9 args,[]⟩ ⟨H,none⟩ (Ak X lo pf.results R)): ∃g,ny X (D X) Lw f pf args ⟨H,lo⟩=some g/\R g:=by
 obtain⟨ex,fr,E,i,e⟩:=h _ rfl;unfold ny;rw[acE (anV j),i];cases ex with
 |normal=>
  obtain⟨a,v,d,c,b⟩:=e;exact⟨_,by simp only[Aj,d,an1,c,aei],b⟩
 |ret=>
  obtain⟨a,v,d,c,b⟩:=e;exact⟨_,by simp only[Aj,d,an1,c,aei],b⟩
 |exit _=>trivial
 |panic _=>trivial
def rK{R:aT->Prop}{E:AS}:Ak X lo [.t a] R .ret ⟨e,[]⟩ E=R (.ret (e a) {heap:=E.heap,lo:=fX lo E.lo}):=by
 simp only[Ak,xR,Wi]
 grind
end
def gW(W:List ae)(N:Nat):Nat->List ae->Prop
 |_,[]=>True
 |k,b::bs=>W[N+k]?=some b/\gW W N (k+1) bs
theorem eO{W:List ae}{N:Nat}:gW W N k []=True:=rfl
theorem eP{W:List ae}{N:Nat}{b:ae}{bs:List ae}:gW W N k (b::bs)=(W[N+k]?=some b/\gW W N (k+1) bs):=rfl
theorem acZ{W:List ae}{N:Nat}: ∀ {k:Nat} {bs:List ae},gW W N k bs-> ∀i,i<bs.length->W[N+k+i]?=bs[i]?
 |_,[],_,i,h=>by grind
 |k,b::bs,⟨c,a⟩,i,h=>by
  cases i with
  |zero=>grind
  |succ i=>
   have:=acZ a i (by grind)
   grind
theorem NQ{W:List ae}{N:Nat}: ∀ {k:Nat} {bs:List ae},(∀i,i<bs.length->W[N+k+i]?=bs[i]?)->gW W N k bs
 |_,[],_=>trivial
 |k,b::bs,h=>by
  refine⟨by have:=h 0 (by simp);grind,NQ λi a=>?_⟩;have:=h (i+1) (by grind)
  grind
def jb(N:Nat)(H W:List ae):Prop:= ∀i,i<N->W[i]?=H[i]?
theorem jb.take{N:Nat}{H W:List ae}(h:jb N H W)(b:H.length=N):W.take N=H:=by
 apply al4;intro i;by_cases a:i<N
 ·rw[aez a];exact h i a
 grind
theorem jb.set{N:Nat}{H W:List ae}{o:ae}(h:jb N H W)(b:N<=p):jb N H (W.set p o):=λi a=>by
 rw[abN (by omega)];exact h i a
def jb.app{N:Nat}{H L:List ae}(b:H.length=N):jb N H (H++L):=λi a=>abP (by omega)
def bV{S:Type}(N nB c:Nat)(H:List ae)(B:S->List ae):YV S:=⟨λs W=>jb N H W/\gW W N 0 (B s),λ_=>none,λi=>i<N+nB,c⟩
def ac0{S:Type}{N c:Nat}{H:List ae}{B:S->List ae}(g: ∀s,(B s).length=nB): (bV N nB c H B).Ok where
 st:=λs W j ⟨f,e⟩ h=>by
  refine⟨λi a=>?_,NQ λi a=>?_⟩
  ·have:i<N+nB:=by omega
   rw[h i (.inl this)];exact f i a
  ·have d:N+0+i<N+nB:=by grind
   rw[h _ (.inl d)];exact acZ e i a
 lt:=λs W r _ b=>by cases b
def Al{S:Type}(N nB:Nat)(B:S->List ae)(W:List ae)(I:S->Prop)(J:Ex->S->Prop):bQ:=λex _ E=>
 E.lo=none/\ ∃a,gW E.heap N 0 (B a)/\W.length<=E.heap.length/\ (∀i,i<W.length-> ¬(N<=i/\i<N+nB)->E.heap[i]?=W[i]?)/\ (match ex with|.normal=>I a|.panic _=>False|ex=>J ex a)
section
variable{S:Type}{N nB:Nat}{B:S->List ae}{W H:List ae}{I:S->Prop}{J:Ex->S->Prop}{fr:Fr}{i:Nat}
def nz:Al N nB B W I J .normal fr ⟨H,none⟩= ∃a,gW H N 0 (B a)/\W.length<=H.length/\ (∀i,i<W.length-> ¬(N<=i/\i<N+nB)->H[i]?=W[i]?)/\I a:=by simp[Al]
def ac1:Al N nB B W I J .ret fr ⟨H,none⟩= ∃a,gW H N 0 (B a)/\W.length<=H.length/\ (∀i,i<W.length-> ¬(N<=i/\i<N+nB)->H[i]?=W[i]?)/\J .ret a:=by simp[Al]
end
def aoZ{X:Ctx}{S:Type}{g:ao}{v:lN}{as R:PC}{Q:bQ}(K:Env->Prop)(L:K e)(xs:List lA){N:Nat}{H d:List ae}(F:H.length=N)(G:List ae)(B:S->List ae)(P: ∀s,(B s).length=nB)
  (w:S) (I:Nat->S->Prop) (J:Ex->S->Prop) (hg:pN X (g.get e)=true) (z:acA X (yV (bV N nB (d.length+2) H B) d.length f e v as R) (d.length+2) (g.get e) (N+nB) G xs) (m:d=H++(B w++G)) (h0:I 0 w) (hJ: ∀ex s,J ex s-> ∃y,pP ex=some (some y)/\xh y=some ex/\ex.code=y)
  (hb: ∀e,K e-> ∀j x s,xs[j]?=some x->I j s->x.length=v.length/\ ∀W n,W.length=n->N+nB+G.length+2<=n->gW W N 0 (B s)->
    wp X f true as ⟨gT e v x,[]⟩ ⟨W,none⟩ (λex fr r=>ex= .normal/\ ∃R1,r=⟨W++R1,none⟩/\
     ∀q,q.length=n->gW q N 0 (B s)->wp X f true R fr ⟨q++R1,none⟩ (Al N nB B q (I (j+1)) J)))
  (h1: ∀e,K e-> ∀c a p,N+nB<=p->I xs.length c->jb N H a->gW a N 0 (B c)->a[p]?=some .fj->Q .normal ⟨e,[p]⟩ ⟨a,none⟩)
  (h2: ∀e,K e-> ∀ex c a p,N+nB<=p->J ex c->jb N H a->gW a N 0 (B c)->a[p]?=some .fj->Q ex ⟨e,[p]⟩ ⟨a,none⟩):
  wp X f false (.gR g v as R) ⟨e,[]⟩ ⟨d,none⟩ Q:=by
 have vG:d.length=N+nB+G.length:=by grind
 have t: ∀ {aj} {b:Nat},b=d.length+2->kq (d.length+2) b none aj none none->aj=none:=by
  rintro aj b rfl (⟨h,_⟩| ⟨j,U,T,_⟩)
  ·exact h
  ·omega
 refine acD (bV N nB (d.length+2) H B) (ac0 P) xs (N+nB) G d w hg z (λi k=>?_) (by omega) (λi k=>?_) ⟨?_,?_⟩ rfl I J h0 hJ ?_ ?_ ?_
 ·rw[m,<-acF,aet (by simp only[ac6,F,P];omega)]
  congr 1;simp only[ac6,F,P];omega
 ·have:i<N+nB:=k;exact⟨by omega,by omega⟩
 ·rw[m];exact jb.app F
 ·refine NQ λi k=>?_
  rw[m,aet (by omega),show N+0+i-H.length=i by omega,abP k]
 ·intro j x s hx O;obtain⟨U,T⟩:=hb e L j x s hx O;refine⟨U,λW o V=>?_⟩;refine wp_mono (T W _ rfl (by omega) o.2) ?_;rintro ex fr r ⟨rfl,R1,rfl,D⟩;refine⟨rfl,R1,rfl,λq E u=>?_⟩;refine wp_mono (D q E u.2) ?_;rintro Hh fr2 ⟨H2,Z⟩ ⟨rfl,c,c1,c2,Y,c4⟩;refine⟨c,⟨λi k=>?_,c1⟩,⟨c2,λi k hp _=>?_⟩,.inl ⟨rfl,rfl⟩,c4⟩
  ·rw[Y i (by omega) (by omega)];exact u.1 i k
  ·have nm: ¬i<N+nB:=hp;exact Y i k (by omega)
 ·intro c a aj O o hl C A l;obtain rfl:=t rfl l;exact h1 e L c a _ (by omega) O o.1 o.2 C
 ·intro ex c a aj M o hl C A l;obtain rfl:=t rfl l;exact h2 e L ex c a _ (by omega) M o.1 o.2 C
def s9{X:Ctx}{S:Type}{g:ao}{k:lN}{as r:PC}{Q:bQ}(K:Env->Prop)(C:K e)(xs:List lA){N:Nat}{H t:List ae}(A:H.length=N)(G:List ae)(B:S->List ae)(q: ∀s,(B s).length=nB)
  (h:S) (I:Nat->S->Prop) (J:Ex->S->Prop) (w:pN X (g.get e)=true) (m:s7 X (g.get e) (N+nB) G xs) (o:t=H++(B h++G)) (L:I 0 h) (D: ∀ex s,J ex s-> ∃l,pP ex=some (some l)/\xh l=some ex/\ex.code=l)
  (z: ∀e,K e-> ∀j x s,xs[j]?=some x->I j s->x.length=k.length/\ ∀W n,W.length=n->N+nB+G.length+2<=n->gW W N 0 (B s)->
    wp X f true as ⟨gT e k x,[]⟩ ⟨W,none⟩ (λex fr d=>ex= .normal/\ ∃R1,d=⟨W++R1,none⟩/\
     ∀c,c.length=n->gW c N 0 (B s)->wp X f true r fr ⟨c++R1,none⟩ (Al N nB B c (I (j+1)) J)))
  (F: ∀e,K e-> ∀b a p,N+nB<=p->I xs.length b->jb N H a->gW a N 0 (B b)->a[p]?=some .fj->Q .normal ⟨e,[p]⟩ ⟨a,none⟩)
  (E: ∀e,K e-> ∀ex b a p,N+nB<=p->J ex b->jb N H a->gW a N 0 (B b)->a[p]?=some .fj->Q ex ⟨e,[p]⟩ ⟨a,none⟩):
  wp X f false (.gR g k as r) ⟨e,[]⟩ ⟨t,none⟩ Q:=
 aoZ K C xs A G B q h I J w (λy I J v u=>m _ _ _ I J _ (NJ (ac0 q)) v u) o L D z F E
section
variable{H:Type}{enc:TypeId×Value->H}{P:Program}{w:World}{sp:Nat->Bool}{held:Bool}
def Am(P:Program):Nat->TypeId->Bool
 |0,_=>false
 |f+1,t=>match P.underlying t with
  |some .bool=>true
  |some (.int _)=>true
  |some .string=>true
  |some (.slice e)=>z8 P false f e
  |some (.struct fs)=>z7 P (Am P f) fs.toList 0 (P.cellsOf t)
  |some (.array n e)=>Am P f e&&P.cellsOf t==n*P.cellsOf e
  |_=>false
theorem NR: ∀ (f:Nat) (t:TypeId) (n:Nat) (cs:List Value) (d:DataW H) (ps:List MemPlace),Am P f t=true->(∀v∈cs,GD v)->
  DataW.trod enc P w 0 sp held n t cs=some (d,ps)-> ∃xs,gU P f t d xs/\aG (Gh.start w) xs cs/\Leaves cs/\xs.length=cs.length
 |0,_,_,_,_,_,r,_,_=>by simp[Am]at r
 |f+1,t,n,cs,d,ps,r,B,h=>by
  unfold Am at r;unfold gU;cases u:P.underlying t with
  |none=>rw[u]at r;cases r
  |some td=>
   rw[u]at r;cases td with
   |bool=>
    obtain⟨b,rfl,l⟩:=DataW.trod_bool u h;cases l;exact⟨[.bool b],⟨b,rfl,rfl⟩,aG.single.2 rfl,λv g=>by simp at g;subst g;rfl,rfl⟩
   |int k=>
    obtain⟨b,rfl,l,O⟩:=DataW.trod_int u h;cases l;exact⟨[.int k b],⟨b,rfl,rfl,O⟩,aG.single.2 rfl,λv g=>by simp at g;subst g;rfl,rfl⟩
   |string=>
    obtain⟨s,rfl,l,E⟩:=DataW.trod_string u h;cases l;exact⟨[.str s],⟨s,rfl,rfl,E⟩,aG.single.2 rfl,λv g=>by simp at g;subst g;rfl,rfl⟩
   |slice e=>
    rcases DataW.trod_slice u h with⟨rfl,l⟩| ⟨a,len,cap,es,rest,m,rfl,rfl,l,_,hlc,UU,T,S,_,_⟩
    ·cases l;exact⟨[.an],.inl ⟨rfl,rfl⟩,aG.single.2 rfl,λv g=>by simp at g;subst g;rfl,rfl⟩
    ·cases l;have E:a.spot=none:=B _ (List.mem_singleton_self _);obtain⟨af,vs,M,L,K,J,Y,h6⟩:=VL (R:=gU P f e) E (λc G p C q=>GF (nest:=false) (λe=>by cases e) f e m c G p r (λe=>by cases e) q) len (by omega) S;refine⟨[.sl af false],.inr ⟨es.map (·.1),rest.map (·.1),af,rfl,rfl,by simp[T,M],by omega,λi x b l V=>?_⟩,aG.single.2 ?_,λv g=>by simp at g;subst g;rfl,rfl⟩
     ·rw[aeA,aeh]at l;obtain⟨y,N,rfl⟩:=l;exact L i y b N V
     ·refine⟨a.block,a.off,cap,P.cellsOf e,vs,?_,by omega,(λC=>absurd C (by decide)),λel F=>?_,h6,J,bq.iff.2 K⟩
      ·rw[M];obtain⟨b,o,s⟩:=a;simp at E;subst E;rfl
      ·obtain⟨j,W⟩:=art.1 F;have hjl:=(abQ.1 W).1;exact(L j es[j] el (acJ (by omega)) W).1
   |struct fs=>
    obtain⟨ys,m,rfl,l,I,A,z⟩:=DataW.trod_struct u h;cases l;obtain⟨xs,x1,x2,x3,Z⟩:=MS (R:=gU P f) (cs:=cs) (λt' c G p hg C q=>NR f t' m c G p hg (λv g=>B v (C v g)) q) _ I fs.toList ys 0 r (by simpa using A) (λi fl hi=>z i fl (by simpa using hi));exact⟨xs,⟨_,rfl,x1⟩,by simpa using x2,by simpa using x3,by simpa using Z⟩
   |array k e=>
    simp only[afJ,aul]at r;obtain⟨Q,C⟩:=r;obtain⟨ys,m,rfl,l,I,A,z⟩:=DataW.trod_array u h;cases l;obtain⟨af,M,L,K,J,Y⟩:=VM (R:=gU P f e) (cs:=cs) (λc G p U q=>NR f e m c G p Q (λv g=>B v (U v g)) q) k (by rw[I,C];exact aeg _) (by omega) z;have D:k*P.cellsOf e=cs.length:=by rw[I,C]
    rw[D,aeo]at K J;exact⟨af.flatten,⟨_,af,rfl,rfl,by simpa using A,M,λi a b X V=>by
     rw[aeA,aeh]at X;obtain⟨y,N,rfl⟩:=X;exact L i y b N V⟩,K,J,by rw[Y,D]⟩
   |_=>cases r
def ao0{b:Nat}{u:TypeId}{v:Value}(h:Cell.okWide P w .any b u v):GD v:=by
 cases v with
 |slice a len cap=>
  cases a with
  |none=>trivial
  |some a=>
   unfold Cell.okWide at h;cases hu:P.underlying u with
   |none=>simp[hu,Cell.ok]at h
   |some td=>cases td<;>simp[hu,Cell.ok]at h<;>exact h.2.2.2.1
 |_=>trivial
def ao1{t:TypeId}{f:Nat}{v:Value}{d:DataW H}{g:List MemPlace}{b:Nat}{fs:Array Field}(k:P.underlying t=some (.struct fs))(l:Am P f t=true)(a:Value.okWide P w .any b t v)
  (h:DataW.Trod enc P w 0 sp held t v d g): ∃xs,ak (Gh.start w) (.agg xs) v/\gU P f t d xs/\xs.length=P.cellsOf t:=by
 unfold Value.okWide at a;rw[k]at a;obtain⟨cs,rfl,e,ts,_,_,c⟩:=a;obtain⟨n,h⟩:=h;obtain⟨xs,r,q,p,o⟩:=NR f t n cs.toList d g l (λv j=>by
  obtain⟨i,m⟩:=art.1 j;obtain⟨u,_,hu⟩:=c i v (by simpa using m);exact ao0 hu) h
 exact⟨xs,⟨cs,rfl,q,p⟩,r,by rw[o];simpa using e⟩
end
end Go.Den
