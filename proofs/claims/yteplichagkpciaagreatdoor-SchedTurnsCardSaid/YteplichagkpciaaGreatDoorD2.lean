/- An evaluator, sound; no condition. -/
import Derived.Test.YteplichagkpciaaGreatDoorD1
import Derived.Orders
import Derived.Carry
import Derived.ChangeArms
import Derived.OpenShut
import Derived.RecoverIn
import Derived.LaidHandle
import Derived.LaidMore
import Derived.WideShapes
set_option linter.all false
set_option maxRecDepth 10000
set_option maxHeartbeats 1000000
namespace Go.Den
open Go Go.RowKit
abbrev lA:=List AV
variable{l t a i j m n k sz r aj a' p:Nat}{v:AV}{d lo ak:oN}{e:Env}{w:World}{b:PC}{z vs:lA}{tg:Option TypeId}{fN:Gh}{f:FuncId}{x y:ao}{c ag:Bool}{pf:PF}{k':IntKind}{af:List lA}
def ahq:=@List.length_set
def aiF:=@List.mem_cons_of_mem
def aiG:=@Array.getD_eq_getD_getElem?
def aiH:=@List.append_nil
def aiX:=@List.getElem?_take_of_lt
def aiY:=@List.getElem?_map
def anc:=@Option.getD_some
def ao1:=@Bool.true_and
def ao2:=@List.length_drop
def ao3:=@Nat.mod_lt
def aph:=@Classical.byContradiction
def api:=@List.mem_zipIdx_iff_getElem?
def apt:=@List.length_nil
def apB:=@Option.bind_eq_some_iff
def apC:=@List.pairwise_append
def apE:=@List.take_left'
def aqk:=@List.set_append_right
def aq8:=@and_true
def aq9:=@List.mem_range
def ara:=@List.pairwise_cons
def ari:=@Nat.not_lt_zero
def ary:=@List.range_succ
def arB:=@List.getElem?_range
def arE:=@Prod.mk.injEq
def arF:=@Nat.le_of_ble_eq_true
def arG:=@Array.getElem?_toList
def arH:=@Array.all_eq_true_iff_forall_mem
def arY:=@List.getElem?_cons_zero
def ar2:=@List.prefix_append
def asa:=@List.set_append_left
def ase:=@List.mem_of_find?_eq_some
def atP:=@Nat.le_max_right
def atQ:=@List.getElem_mem
def auP:=@Bool.true_or
def au3:=@Bool.false_or
def au6:=@List.mem_iff_getElem?
def au7:=@List.contains_iff_mem
def awf:=@Nat.lt_succ_self
def awV:=@List.getElem?_of_mem
def azu:=@List.append_of_mem
def azC:=@Nat.lt_trichotomy
def azD:=@Int.toNat_natCast
def azF:=@List.getElem?_cons_succ
def azH:=@Bool.and_true
def azI:=@Option.getD_none
def azK:=@List.pairwise_lt_range
def aBV:=@true_and
def aBX:=@List.getElem?_zipIdx
def aC5:=@List.find?_eq_none
def aDm:=@List.pairwise_map
def aDn:=@List.length_range
def aDA:=@List.isEmpty_iff
theorem gG{a b:Prop}(x:a)(y:b):a/\b:=⟨x,y⟩
section
variable{X:Ctx}
def jA(X:Ctx)(C:bw)(xs:Nat->aO)(F:Nat->FP):lN->Fr->AS->Fr->AS->Prop
 | [],fr,E,b,c=>b=fr/\c=E
 |i::l,fr,E,b,c=>
  (fL fr.env (xs i).g=true/\ ∃v a,exec X C (xs i).i fr.env E=some (.ok v a)/\ba (xs i).i fr.env E a=F i/\jA X C xs F l (fr.put (xs i).dst v) a b c)\/
  (fL fr.env (xs i).g=false/\F i= .no/\jA X C xs F l (fr.put (xs i).dst .undef) E b c)
def ap5{l m:lN}:Dc l m=true↔ ∀x∈l,x∉m:=by
 simp[Dc,ahp]
def Dw{a:Fr}{dst:oN}(h:t∉dst.toList): (a.put dst v).env t=a.env t:=by
 cases dst with
 |none=>rfl
 |some d=>
  simp only[Fr.put,Env.set]
  grind
def ap6{f:Fr}{c:oN}{w:AV}(h: ∀x∈d.toList,x∉c.toList): (f.put d v).put c w=(f.put c w).put d v:=by
 cases d with
 |none=>rfl
 |some a=>
  cases c with
  |none=>rfl
  |some b=>
   have g:a≠b:=λe=>h a (by simp) (by grind)
   simp only[Fr.put]
   congr 1
   funext t
   simp only[Env.set]
   grind
def YN{g:Option (Nat×Bool)}{a:Env}(h: ∀t∈(match g with|some (t,_)=>[t]|none=>[]),e t=a t):fL e g=fL a g:=by
 cases g with
 |none=>rfl
 |some p=>simp only[fL];grind
def ap7{C:bw}{xs:Nat->aO}{F:Nat->FP}{l:lN}{a q:Fr}{E D:AS}(n:jZ (xs i) (xs j)=true)(x: (F i).ok (F j)=true)(h:jA X C xs F (i::j::l) a E q D):jA X C xs F (j::i::l) a E q D:=by
 simp only[jZ,aiL,ap5]at n;obtain⟨⟨M,L⟩,K⟩:=n;have B: ∀v,∀t∈(xs j).reads,(a.put (xs i).dst v).env t=a.env t:=λv t d=>Dw λy=>M t y d
 have ex: ∀v,∀t∈(xs i).reads,(a.put (xs j).dst v).env t=a.env t:=λv t d=>Dw λy=>L t y d
 have e: ∀v,∀t∈(xs j).i.reads,(a.put (xs i).dst v).env t=a.env t:=λv t d=>B v t (by simp[aO.reads,d])
 have f: ∀v,∀t∈(xs i).i.reads,(a.put (xs j).dst v).env t=a.env t:=λv t d=>ex v t (by simp[aO.reads,d])
 have s: ∀v,fL (a.put (xs i).dst v).env (xs j).g=fL a.env (xs j).g:=λv=>YN λt d=>B v t (by
  simp only[aO.reads,ahb];grind)
 have u: ∀v,fL (a.put (xs j).dst v).env (xs i).g=fL a.env (xs i).g:=λv=>YN λt d=>ex v t (by
  simp only[aO.reads,ahb];grind)
 have comm: ∀v w,(a.put (xs i).dst v).put (xs j).dst w=(a.put (xs j).dst w).put (xs i).dst v:=λv w=>ap6 K
 simp only[jA]at h⊢;rcases h with⟨o,v,c,A,m,h⟩| ⟨o,m,h⟩
 ·rcases h with⟨g1,w,b,g2,k,g⟩| ⟨g1,k,g⟩
  ·rw[s]at g1;have z:exec X C (xs j).i a.env c=some (.ok w b):=by rw[<-HI (e v)];exact g2
   have p:ba (xs j).i a.env c b=F j:=by rw[<-HJ (e v)];exact k
   obtain⟨r,J,I,H,G⟩:=ap4 A z (by rw[m,p];exact x);refine .inl ⟨g1,w,r,J,by rw[H];exact p,.inl ⟨by rw[u];exact o,v,b,?_,?_,by rw[<-comm];exact g⟩⟩
   ·rw[HI (f w)];exact I
   ·rw[HJ (f w),G];exact m
  ·rw[s]at g1;refine .inr ⟨g1,k,.inl ⟨by rw[u];exact o,v,c,?_,?_,by rw[<-comm];exact g⟩⟩
   ·rw[HI (f _)];exact A
   ·rw[HJ (f _)];exact m
 ·rcases h with⟨g1,w,b,g2,k,g⟩| ⟨g1,k,g⟩
  ·rw[s]at g1;refine .inl ⟨g1,w,b,by rw[<-HI (e _)];exact g2,by rw[<-HJ (e _)];exact k,.inr ⟨by rw[u];exact o,m,by rw[<-comm];exact g⟩⟩
  ·rw[s]at g1;exact .inr ⟨g1,k,.inr ⟨by rw[u];exact o,m,by rw[<-comm];exact g⟩⟩
theorem Ou{C:bw}{xs:Nat->aO}{F:Nat->FP}{j:Nat}{b:lN}: ∀ (a:lN) (fr c:Fr) (E e:AS),(∀i∈a,jZ (xs i) (xs j)=true/\ (F i).ok (F j)=true)->jA X C xs F (a++j::b) fr E c e->jA X C xs F (j:: (a++b)) fr E c e
 | [],_,_,_,_,_,h=>h
 |i::a,fr,c,E,e,f,h=>by
  have g:=f i (by simp);refine ap7 g.1 g.2 ?_;simp only[alb]at h;rw[jA]at h⊢;have n:=λfr E (h:jA X C xs F (a++j::b) fr E c e)=>Ou a fr c E e (λk p=>f k (by grind)) h
  rcases h with⟨m,v,d,o,l,h⟩| ⟨m,l,h⟩
  ·exact .inl ⟨m,v,d,o,l,n _ _ h⟩
  simp_all
theorem Ov{C:bw}{xs:Nat->aO}: ∀ (ys:List (aO×lN)) (a:List FP) (fr:Fr) (E:AS) (res:Ex×Fr×AS),(∀q y,ys[q]?=some y->xs (a.length+q)=y.1)->fZ X C a ys fr E=some res->res.1= .normal->
  ∃F:Nat->FP,(∀m,m<a.length->F m=a.getD m .all)/\res.1= .normal/\jA X C xs F ((List.range ys.length).map (a.length+ ·)) fr E res.2.1 res.2.2/\
   ∀q y,ys[q]?=some y-> ∀k∈y.2,k<a.length+q->(F k).ok (F (a.length+q))=true
 | [],a,fr,E,res,t,h,r=>by
   simp only[fZ,afE]at h;subst h;exact⟨λm=>a.getD m .all,λ_ _=>rfl,rfl,⟨rfl,rfl⟩,by simp⟩
 |o::ys,a,fr,E,res,t,h,r=>by
  have b:xs a.length=o.1:=by simpa using t 0 o rfl
  have j: ∀ (f:FP) q y,ys[q]?=some y->xs ((a++[f]).length+q)=y.1:=by
   intro f q y l;have:=t (q+1) y (by simpa using l);rw[<-this];congr 1;simp;omega
  have d: ∀f:FP,(List.range (o::ys).length).map (a.length+ ·)=a.length:: (List.range ys.length).map ((a++[f]).length+ ·):=by
   intro f;simp only[aho,List.range_succ_eq_map,aoZ,aDz,ahu]
   congr 1
   apply ayN;intro k _;simp;omega
  have fin: ∀ (f:FP) (F:Nat->FP),(∀m,m< (a++[f]).length->F m=(a++[f]).getD m .all)->F a.length=f/\ ∀m,m<a.length->F m=a.getD m .all:=by
   intro f F s;refine⟨?_,λm hm=>?_⟩
   ·rw[s _ (by simp)];simp
   ·rw[s m (by simp;omega)];simp[ahm,aeT hm]
  have c: ∀ (f:FP) (F:Nat->FP),(∀m,m<a.length->F m=a.getD m .all)->(∀k∈o.2,k<a.length->(a.getD k .all).ok (F a.length)=true)->
    (∀q y,ys[q]?=some y-> ∀k∈y.2,k< (a++[f]).length+q->(F k).ok (F ((a++[f]).length+q))=true)->
    ∀q y,(o::ys)[q]?=some y-> ∀k∈y.2,k<a.length+q->(F k).ok (F (a.length+q))=true:=by
   intro f F s u hs q y l k n i;cases q with
   |zero=>
    simp at l;subst l;rw[ahu]at i⊢;rw[s k i];exact u k n i
   |succ q=>
    have:=hs q y (by simpa using l) k n (by simp;omega);have e: (a++[f]).length+q=a.length+(q+1):=by simp;omega
    rw[e]at this;exact this
  simp only[fZ]at h;split at h
  ·rename_i hw;split at h
   ·rename_i v g hex;split at h
    ·rename_i p;obtain⟨F,f1,f2,f3,f4⟩:=Ov ys _ _ _ res (j _) h r;obtain⟨g1,g2⟩:=fin _ F f1;refine⟨F,g2,f2,?_,c _ F g2 (λk n _=>?_) f4⟩
     ·rw[d (ba o.1.i fr.env E g)];refine .inl ⟨by rw[b];exact hw,v,g,by rw[b];exact hex,by rw[b,g1],by rw[b];exact f3⟩
     ·rw[g1];exact ahp.1 p k n
    ·cases h
   ·split at h
    ·cases h;cases r
    ·cases h
   ·cases h
  ·rename_i hw;obtain⟨F,f1,f2,f3,f4⟩:=Ov ys _ _ _ res (j _) h r;obtain⟨g1,g2⟩:=fin _ F f1;refine⟨F,g2,f2,?_,c _ F g2 (λk n _=>?_) f4⟩
   ·rw[d .no];exact .inr ⟨by rw[b];simpa using hw,g1,by rw[b];exact f3⟩
   ·rw[g1];cases a.getD k .all<;>rfl
theorem YO{C:bw}{xs:Nat->aO}: ∀ (ys:List (aO×lN)) (a:List FP) (fr:Fr) (E:AS) (res:Ex×Fr×AS),(∀q y,ys[q]?=some y->xs (a.length+q)=y.1)->fZ X C a ys fr E=some res->res.1≠ .normal->
  ∃ (F:Nat->FP) (p:Nat) (v:AV) (b:AS) (y:aO×lN),(∀m,m<a.length->F m=a.getD m .all)/\ys[p]?=some y/\res.1= .panic v/\jA X C xs F ((List.range p).map (a.length+ ·)) fr E res.2.1 b/\
    fL res.2.1.env (xs (a.length+p)).g=true/\exec X C (xs (a.length+p)).i res.2.1.env b=some (.panic v res.2.2)/\
    (∀q y,q<p->ys[q]?=some y-> ∀k∈y.2,k<a.length+q->(F k).ok (F (a.length+q))=true)/\
    y.2=[]/\y.1.i.cls≠0/\ (y.1.i.cls=2\/ ∀m,m<a.length+p->F m≠ .no)/\ ∀q d,p<q->ys[q]?=some d->if d.1.i.cls=0 then jZ y.1 d.1=false else a.length+p∉d.2
 | [],a,fr,E,res,G,h,K=>by
   simp only[fZ,afE]at h
   grind
 |o::ys,a,fr,E,res,G,h,K=>by
  have c:xs a.length=o.1:=by simpa using G 0 o rfl
  have D: ∀ (f:FP) q y,ys[q]?=some y->xs ((a++[f]).length+q)=y.1:=by
   intro f q y u;have:=G (q+1) y (by simpa using u);rw[<-this];congr 1;simp;omega
  have w: ∀ (f:FP) (p:Nat),(List.range (p+1)).map (a.length+ ·)=a.length:: (List.range p).map ((a++[f]).length+ ·):=by
   intro f p;simp only[List.range_succ_eq_map,aoZ,aDz,ahu]
   congr 1
   apply ayN;intro k _;simp;omega
  have e1: ∀ (f:FP) (q:Nat),(a++[f]).length+q=a.length+(q+1):=λf q=>by simp;omega
  have fin: ∀ (f:FP) (F:Nat->FP),(∀m,m< (a++[f]).length->F m=(a++[f]).getD m .all)->F a.length=f/\ ∀m,m<a.length->F m=a.getD m .all:=by
   intro f F s;refine⟨?_,λm hm=>?_⟩
   ·rw[s _ (by simp)];simp
   ·rw[s m (by simp;omega)];simp[ahm,aeT hm]
  have next: ∀ (f:FP) (g:Fr) (i:AS),fZ X C (a++[f]) ys g i=some res->(∀ (F:Nat->FP) l j A,F a.length=f->jA X C xs F l g i j A->jA X C xs F (a.length::l) fr E j A)->(∀k∈o.2,(a.getD k .all).ok f=true)->
    ∃ (F:Nat->FP) (p:Nat) (v:AV) (b:AS) (y:aO×lN),(∀m,m<a.length->F m=a.getD m .all)/\ (o::ys)[p]?=some y/\res.1= .panic v/\jA X C xs F ((List.range p).map (a.length+ ·)) fr E res.2.1 b/\
      fL res.2.1.env (xs (a.length+p)).g=true/\exec X C (xs (a.length+p)).i res.2.1.env b=some (.panic v res.2.2)/\
      (∀q y,q<p->(o::ys)[q]?=some y-> ∀k∈y.2,k<a.length+q->(F k).ok (F (a.length+q))=true)/\
      y.2=[]/\y.1.i.cls≠0/\ (y.1.i.cls=2\/ ∀m,m<a.length+p->F m≠ .no)/\ ∀q d,p<q->(o::ys)[q]?=some d->if d.1.i.cls=0 then jZ y.1 d.1=false else a.length+p∉d.2:=by
   intro f g i h t H;obtain⟨F,p,v,b,y,f1,f2,f3,f4,f5,f6,f7,f8,f9,f10,f11⟩:=YO ys _ _ _ res (D f) h K;obtain⟨g1,g2⟩:=fin f F f1;refine⟨F,p+1,v,b,y,g2,by simpa using f2,f3,?_,by rw[<-e1 f];exact f5,by rw[<-e1 f];exact f6,?_,f8,f9,f10.imp id λf10 m hm=>f10 m (by rw[e1];exact hm),?_⟩
   ·rw[w f];exact t F _ _ _ g1 f4
   ·intro q d u n k x r;cases q with
    |zero=>
     simp at n;subst n;rw[ahu]at r⊢;rw[g1,g2 k r];exact H k x
    |succ q=>
     have:=f7 q d (by omega) (by simpa using n) k x (by rw[e1];exact r);rw[e1]at this;exact this
   ·intro q d u n;cases q with
    |zero=>omega
    |succ q=>
     have:=f11 q d (by omega) (by simpa using n);rw[e1]at this;exact this
  simp only[fZ]at h;split at h
  ·rename_i hw;split at h
   ·rename_i v b hex;split at h
    ·rename_i z;exact next _ _ _ h (λF l j A s hr=>.inl ⟨by rw[c];exact hw,v,b,by rw[c];exact hex,by rw[c,s],by rw[c];exact hr⟩) (λk x=>ahp.1 z k x)
    ·cases h
   ·rename_i v A hex;split at h
    ·rename_i J;cases h;simp only[Dd,aiL,arj,au5,aDA,bne_iff_ne]at J;obtain⟨N,M,B,L⟩:=J;refine⟨λm=>a.getD m .all,0,v,E,o,λ_ _=>rfl,rfl,rfl,⟨rfl,rfl⟩,by rw[ahu,c];exact hw,by rw[ahu,c];exact hex,λq y u=>by omega,N,M,?_,?_⟩
     ·refine B.imp id λB m hm=>?_
      rw[ahu]at hm;have:=ahp.1 B a[m] (atQ hm);simp only[ahm,ag6 hm,anc];intro e;rw[e]at this;cases this
     ·intro q d u n;cases q with
      |zero=>omega
      |succ q=>
       have:=ahp.1 L d (anr (by simpa using n:ys[q]?=some d));split
       ·rename_i I;rw[afJ I]at this;simpa using this
       ·rename_i I;rw[afB I]at this;rw[ahu];simpa using this
    ·cases h
   ·cases h
  ·rename_i hw;exact next .no _ _ h (λF l j A s hr=>.inr ⟨by rw[c];simpa using hw,s,by rw[c];exact hr⟩) (λk x=>by cases a.getD k .all<;>rfl)
end
section
variable{P:Program}{X:Ctx}{B:Nat}{av:World}{cS:List Deferred}
theorem YP(f:FP):FP.ok .no f=true:=by rfl
def YQ(f:FP):FP.ok f .no=true:=by cases f<;>rfl
theorem ym{C:bw}{xs:Nat->aO}{F:Nat->FP}{i:Nat}(d: (xs i).i.cls=0): ∀ (l:lN) (fr b:Fr) (E e:AS),i∈l->jA X C xs F l fr E b e->F i= .no
 | [],_,_,_,_,a,_=>by grind
 |j::l,fr,b,E,e,a,h=>by
  rcases ai2.1 a with rfl|a
  ·rcases h with⟨_,v,c,_,f,_⟩| ⟨_,f,_⟩
   ·grind [YI]
   omega
  ·rcases h with⟨_,v,c,_,_,h⟩| ⟨_,_,h⟩
   ·exact ym d l _ _ _ _ a h
   ·exact ym d l _ _ _ _ a h
theorem YR{rows:Bool}{ops:Array Oper}: ∀ {os:List Oper} {xs:List aO},kW P rows ops os=some xs->xs.length=os.length/\ ∀ (i:Nat) (o:Oper),os[i]?=some o-> ∃x,xs[i]?=some x/\ie P rows ops o=some x
 | [],xs,h=>by
   simp only[kW,afE]at h;grind
 |o::os,xs,h=>by
  simp only[kW]at h;split at h
  ·rename_i x a c b;obtain⟨e1,d⟩:=YR b
   grind
  grind
theorem YS{ops:Array Oper}{e:Nat}: ∀n:Nat,e<n->(uw ops n).getD (n-1-e) 0=(uw ops (e+1)).headD 0
 |0,h=>absurd h (ari _)
 |n+1,h=>by
  by_cases he:e=n
  ·subst he;simp[uw]
  ·have a:e<n:=by omega
   rw[show n+1-1-e=(n-1-e)+1 by omega,<-YS n a];simp[uw]
theorem YT{b:lN}{n a:Nat}{S:Nat->Prop}: ∀es:lN,(∀e∈es,S e)->(∀e∈es,e<n->Nat.testBit (b.getD (n-1-e) 0) a=true->S a)->Nat.testBit (Am b n es) a=true->S a
 | [],_,_,h=>by simp[Am]at h
 |e::es,f,d,h=>by
  have e1:Am b n (e::es)=(1<<<e||| (if e<n then b.getD (n-1-e) 0 else 0))|||Am b n es:=rfl;rw[e1,Nat.testBit_or,Nat.testBit_or,arj,arj]at h;rcases h with(h|h)|h
  ·simp_all[Nat.one_shiftLeft,Nat.testBit_two_pow,amT]
  ·grind
  ·exact YT es (λx c=>f x (aiF _ c)) (λx c=>d x (aiF _ c)) h
def Ox{ops:Array Oper}{S:Nat->Prop}(g: ∀j,S j-> ∀o,ops[j]?=some o-> ∀a∈kX o,S a)(k i:Nat)(o:Oper)(ho:ops[i]?=some o)(d: ∀a∈kX o,S a): ∀a∈gC ops k i,S a:=by
 intro a h;unfold gC at h;have key: ∀n i:Nat,i<n-> ∀o,ops[i]?=some o->(∀a∈kX o,S a)->Nat.testBit ((uw ops (i+1)).headD 0) a=true->S a:=by
  intro n
  induction n with
  |zero=>simp
  |succ n l=>
   intro i m o ho d f;simp only[uw,List.headD_cons,ho]at f;refine YT _ d (λe hm b c=>?_) f;rw[YS i b]at c
   grind
 grind
def YU{a:Region.Mode}{e:Edge}(h:Region.binds .any e=true):Region.binds a e=true:=by
 unfold Region.binds at h⊢
 grind
theorem Oy{a:Region.Mode}{ops:Array Oper}{l:lN}{S:Nat->Prop}(f: ∀x,x<ops.size->x∉l->S x): ∀ (ord pre:lN),Hg a ops pre ord=true->(∀x∈pre,x<ops.size/\x∉l)->(∃x∈ord,x∈l)->
  ∃x∈l,∃o,ops[x]?=some o/\ ∀e∈o.after.toList,Region.binds a e=true->S e.on
 | [],_,_,_,⟨x,c,_⟩=>by grind
 |i::ord,pre,h,b,hex=>by
  simp only[Hg,aiL]at h;obtain⟨j,g⟩:=h;split at j
  ·by_cases d:i∈l
   ·grind
   ·refine Oy f ord (i::pre) g (λx c=>?_) ?_
    ·grind
    grind
  grind
def Gh.later(G:Gh)(os:List ae):Gh:={G with n:=G.n+os.length,pz:=λi=>if i<G.n then G.pz i else os[i-G.n]?}
theorem Gh.yn(G:Gh)(os:List ae):G.le (G.later os):=
 .mk' (λ_ _ _ h=>h) (by simp[Gh.later]) (λi a=>by simp[Gh.later,a]) (λ_ _=>ahd _) (λ_ _ _=>⟨rfl,rfl,rfl,rfl⟩)
def Gh.HL{G:Gh}{os:List ae}(h: (G.later os).on i):G.on i:=by
 obtain⟨c,a⟩:=h;simp only[Gh.later]at c a;by_cases b:i<G.n
 ·rw[afJ b]at a;exact⟨b,a⟩
 grind
theorem aU.later{G:Gh}{E:AS}(h:aU P B av G E w){os:List ae}(ho: ∀o∈os,∃z tg,o= .box z tg/\aG z=0):aU P B av (G.later os) (E.ml os) w where
 len:=by simp[Gh.later,AS.ml,h.len]
 bt:=h.bt
 obj id o e b:=by
  simp only[Gh.later]at b;simp only[AS.ml]at e;by_cases a:id<G.n
  ·rw[afJ a]at b;rw[aeT (by rw[<-h.len];exact a)]at e;exact ig.mono (G.yn os) ⟨a,b⟩ rfl rfl (h.obj id o e b)
  ·rw[afB a]at b;rw[ahr (by rw[<-h.len];omega),<-h.len,b]at e;cases e
 inj i j a d e:=h.inj i j (Gh.HL a) (Gh.HL d) e
 sep i a o:=h.sep i (Gh.HL a) o
 low i a:=h.low i (Gh.HL a)
 lP:=h.lP
 hB:=h.hB
 lQ id o c b:=by
  simp only[Gh.later]at c b;simp only[AS.ml];by_cases a:id<G.n
  ·rw[afJ a]at b;obtain⟨g,f⟩:=h.lQ id o a b
   grind
  ·rw[afB a]at b;exact⟨by rw[ahr (by rw[<-h.len];omega),<-h.len];exact b,ho o (anr b)⟩
 dB:=h.dB
theorem AS.Ext.ml(E:AS)(os:List ae):E.Ext (E.ml os)where
 len:=by simp[AS.ml]
 lo _ h:=h
 obj j x e:=⟨x,by
  have:j<E.heap.length:=(afA.1 e).1;simp[AS.ml,aeT this,e],.inl λ_ k=>k.mono (by omega)⟩
def Gh.real(G:Gh)(id b:Nat):Gh:=
 {G with aZ:=λi=>if i=id then b else G.aZ i,aj:=λi=>if i=id then 0 else G.aj i,pz:=λi=>if i=id then none else G.pz i}
def Gh.HM{G:Gh}{id b:Nat}{o:ae}(d:G.pz id=some o):G.sub (G.real id b):=by
 have c: ∀i,G.on i->i≠id:=λi a e=>by rw[e]at a;rw[a.2]at d;cases d
 exact{bt:=λ_ _ _ h=>h,n:=ahd _,on:=λi a=>⟨a.1,by simp only[Gh.real];rw[afB (c i a)];exact a.2⟩,
       aj:=λi a=>by simp only[Gh.real];grind,same:=λi a _=>by simp[Gh.real,c i a]}
def Gh.HN{G:Gh}{id b:Nat}(h: (G.real id b).on i):i=id\/ (i≠id/\G.on i):=by
 obtain⟨c,a⟩:=h;simp only[Gh.real]at c a;by_cases e:i=id
 ·omega
 ·rw[afB e]at a;exact .inr ⟨e,c,a⟩
def HO{rows:Bool}{o:Oper}(h:kT P rows o=some (.alloc z tg)): ∃t,o.op= .alloc t/\gB P t=some z/\tg=r7 z t:=by
 cases a:o.op with
 |alloc t=>
  simp only[kT,a]at h;obtain⟨e,d,b⟩:=ahg.1 h;cases b;exact⟨t,rfl,d,rfl⟩
 |call c=>
  exfalso;simp only[kT,a,De]at h
  repeat' split at h
  all_goals first| (cases h;done)| (simp only[ahg]at h;obtain⟨_,_,h⟩:=h;cases h;done)|skip
 |_=>
  exfalso;simp only[kT,a]at h
  (repeat' split at h)<;>first| (cases h;done)| (simp only[ahg]at h;obtain⟨_,_,h⟩:=h;first| (cases h;done)| (split at h<;>cases h))| (simp_all;done)
theorem aU.real{G:Gh}{E:AS}(h:aU P B av G E w){id:Nat}{t:TypeId}(s:id<G.n)(H:G.pz id=some (.box z (r7 z t)))(N:gB P t=some z):
  ∃w',(Instr.alloc t true (.tuple #[])).run P w= .ok (.pointer (some ⟨w.heap.size,0,none⟩)) w'/\aU P B av (G.real id w.heap.size) E w'/\an (G.real id w.heap.size) (.ptr id 0) (.pointer (some ⟨w.heap.size,0,none⟩)):=by
 have p:G.sub (G.real id w.heap.size):=Gh.HM H;obtain⟨A,e,_,l,J,_⟩:=sa N (G.real id w.heap.size) w;obtain⟨I,_⟩:=h.lQ id _ s H;have x: (G.real id w.heap.size).aZ id=w.heap.size:=by simp[Gh.real]
 refine⟨w.alloc (.cells A.cells t),by simp[Instr.alloc,e,newVar,newRow],?_,⟨⟨s,by simp[Gh.real]⟩,_,rfl,λ_=>by rw[x]⟩⟩;refine{len:=h.len,bt:=λb o v K=>?_,obj:=λi o y a=>?_,inj:=λi j g L f=>?_,sep:=λi g o=>?_,low:=λi g=>?_,lP:=h.lP.alloc h.hB _,hB:=by have:=h.hB;simp;omega,lQ:=λi o g a=>?_,dB:=h.dB}
 ·have m:G.bt b o=some v:=K;rw[cell?_alloc_old (h.x7 P m)];exact h.bt b o v m
 ·by_cases c:i=id
  ·subst c;rw[I]at y;cases y;refine⟨by simp[Gh.real],A.cells,t,?_,l,J,λO h=>N9 h⟩;rw[x];exact arw _ _
  ·have q:i<G.n:=by rw[h.len];exact(afA.1 y).1
   simp only[Gh.real]at a;rw[afB c]at a;exact ig.df p ⟨q,a⟩ (by simp[Gh.real,c]) (Below.heap_alloc _ _ _ (h.low i ⟨q,a⟩).2) (h.obj i o y a)
 ·rcases Gh.HN g with d| ⟨k,d⟩<;>rcases Gh.HN L with u| ⟨D,u⟩
  ·rw[d,u]
  ·simp only[Gh.real,d,aiZ,afB D]at f;have:=(h.low j u).2;omega
  ·simp only[Gh.real,u,aiZ,afB k]at f;have:=(h.low i d).2;omega
  ·simp only[Gh.real,afB k,afB D]at f;exact h.inj i j d u f
 ·rcases Gh.HN g with d| ⟨k,d⟩
  ·subst d;rw[x];show G.bt w.heap.size o=none;cases M:G.bt w.heap.size o with
   |none=>rfl
   |some v=>have:=h.x7 P M;omega
  ·simp only[Gh.real,afB k];exact h.sep i d o
 ·rcases Gh.HN g with d| ⟨k,d⟩
  ·subst d;rw[x];exact⟨h.hB,by simp⟩
  ·simp only[Gh.real,afB k];have:=h.low i d;exact⟨this.1,by simp;omega⟩
 ·simp only[Gh.real]at g a;by_cases c:i=id
  ·rw[afJ c]at a;cases a
  ·rw[afB c]at a;exact h.lQ i o g a
theorem Gh.YW{G:Gh}(h:fN.le G){id b:Nat}{o:ae}(a:G.pz id=some o)(c:fN.n<=id):fN.le (G.real id b):=
 {Gh.XH h.toSub (Gh.HM a)with pz:=λi d=>by simp only[Gh.real];rw[afB (by omega)];exact h.pz i d}
section
variable{C:bw}(hC:fI P B av C)(hg:fo X B av){r:oN}{n nt:Nat}{rows:Bool}{ops:Array Oper}{xs:Nat->aO}{F:Nat->FP}
include hC hg
theorem go_sound(I:Region.Mode){ord:lN}(U:ux I ops ord=true)(sl:Nat->Nat)(al:Nat->Option ae)(AA: ∀i o,ops[i]?=some o->(al i=none/\ie P rows ops o=some (xs i))\/ ∃z tg g d,al i=some (.box z tg)/\ie P rows ops o=some ⟨g,d,.alloc z tg⟩/\xs i=⟨g,d,.mov (.c (.ptr (sl i) 0))⟩)
  (Oz: ∀i j bi bj,al i=some bi->al j=some bj->sl i=sl j->i=j)  {ch:AS} (wk: ∀i b,al i=some b->fN.n<=sl i) (hd: ∀i,i<ops.size-> ∀d,(xs i).dst=some d->d<nt) (ap8: ∀i o,ops[i]?=some o-> ∀a∈kX o,a<i)
  (OA: ∀i j,i<j->j<ops.size->i∉gC ops 64 j->jZ (xs i) (xs j)=true/\ (F i).ok (F j)=true):
  ∀ (fuel t:Nat) (listed:Array Bool) (l:lN) (G:Gh) (E E':AS) (w:World) (fr u:Fr) (a:Act) (Q:Exit->Act->World->Prop),
    (∀i,i∈l↔i<ops.size/\listed.getD i true=false)->listed.size=ops.size->l.Pairwise (· < ·)->(∀j o,ops[j]?=some o->listed.getD j true=true-> ∀a∈kX o,listed.getD a true=true)->l.length<=fuel->
    jA X C xs F l fr E u E'->fN.le G->ch.Ext E->(∀i∈l,∀b,al i=some b->sl i<G.n/\G.pz (sl i)=some b)->aU P B av G E w->cC G nt fr.env a.tmps->ga cS G fr.marks a.defers->(∀e a w,mo P B av cS fN ch nt (.normal,u,E') e a w->Q e a w)->
    wpOpsIn (W r) n P ops Q (Region.linearise.go I ops fuel t listed []) a w:=by
 intro fuel
 induction fuel with
 |zero=>
  intro t listed l G E E' w fr u a Q hl T hp o6 hf hr hle s o8 hw he hm hQ;have:l=[]:=amK.1 (by omega);subst this;obtain⟨rfl,rfl⟩:=hr;exact hQ _ _ _ ⟨G,hle,hw,he,hm,s,trivial⟩
 |succ fuel ih=>
  intro t listed l G E E' w fr u a Q hl T hp o6 hf hr hle s o8 hw he hm hQ;simp only[Region.linearise.go]
  change wpOpsIn (W r) n P ops Q (match(Region.ready I ops listed)[t % (Region.ready I ops listed).length]? with
   |some i=>Region.linearise.go I ops fuel (t/ (Region.ready I ops listed).length) (listed.setIfInBounds i true) [i]
   |none=>[].reverse) a w
  have J: ∀i,i∈Region.ready I ops listed↔i∈l/\ ∀o,ops[i]?=some o-> ∀e∈o.after.toList,Region.binds I e=true->listed.getD e.on false=true:=by
   intro i;simp only[Region.ready,aiJ,aq9,aiL,aDs];rw[hl];constructor
   ·rintro⟨R,H,h3⟩;refine⟨⟨R,H⟩,λo ho e Z O=>?_⟩;rw[ho]at h3;simp only[ahi,anc,arH]at h3;have:=h3 e (by simpa using Z);rw[O]at this;simpa using this
   ·rintro⟨⟨R,H⟩,h3⟩;refine⟨R,H,?_⟩;obtain⟨o,ho⟩: ∃o,ops[i]?=some o:=⟨ops[i],by simp[R]⟩;rw[ho];simp only[ahi,anc,arH];intro e Z;by_cases O:Region.binds I e=true
    ·rw[h3 o ho e (by simpa using Z) O];simp
    ·simp at O;simp[O]
  have OB: ∀a,listed.getD a false=true->listed.getD a true=true:=by
   intro a h;simp only[aiG]at h⊢;cases h':listed[a]? with
   |none=>rw[h']at h;cases h
   |some b=>rw[h']at h;exact h
  cases hi: (Region.ready I ops listed)[t % (Region.ready I ops listed).length]? with
  |none=>
   have Dx:Region.ready I ops listed=[]:=by
    cases o9:Region.ready I ops listed with
    |nil=>rfl
    |cons x ys=>
     rw[o9]at hi;have Dy:t % (x::ys).length< (x::ys).length:=ao3 _ (by simp);rw[ag6 Dy]at hi;cases hi
   cases l with
   |nil=>
    obtain⟨rfl,rfl⟩:=hr;exact hQ _ _ _ ⟨G,hle,hw,he,hm,s,trivial⟩
   |cons i l=>
    exfalso;simp only[ux,aiL]at U;obtain⟨x,p,o,ho,uD⟩:=Oy (S:=λa=>listed.getD a false=true) (l:=i::l) (λx p qD=>by
     cases sc:listed.getD x true with
     |true=>
      simp only[aiG,azw (show x<listed.size by omega),anc]at sc⊢;exact sc
     |false=>exact absurd ((hl x).2 ⟨p,sc⟩) qD) ord [] U.2 (by simp) ⟨i,by
      have:=ahp.1 U.1 i (by simpa using((hl i).1 (by simp)).1);simpa using this,by simp⟩
    have:x∈Region.ready I ops listed:=(J x).2 ⟨p,λo' D e Z O=>by rw[ho]at D;cases D;exact uD e Z O⟩;rw[Dx]at this;cases this
  |some i=>
   simp only;rw[linearise_go_acc,List.reverse_singleton,List.singleton_append];have OC:=anr hi;obtain⟨sd,OD⟩:=(J i).1 OC;have AB: ∀o,ops[i]?=some o-> ∀a∈kX o,listed.getD a true=true:=by
    intro o ho a ha;simp only[kX,ahk,aiJ]at ha;obtain⟨e,⟨e1,e2⟩,rfl⟩:=ha;exact OB _ (OD o ho e e1 (YU e2))
   have Y:=((hl i).1 sd).1;obtain⟨o,ho⟩: ∃o,ops[i]?=some o:=⟨ops[i],by simp[Y]⟩;obtain⟨f,m,rfl⟩:=azu sd;have A:=apC.1 hp;have q:=Ou f fr u E E' (λx p=>by
    have qD:=(hl x).1 (by simp[p]);refine OA x i (A.2.2 x p i (by simp)) Y (λap9=>?_);have:=Ox (S:=λa=>listed.getD a true=true) (λj hj o' D a ha=>o6 j o' D hj a ha) 64 i o ho (AB o ho) x ap9;rw[qD.2]at this;cases this) hr
   rw[jA]at q;have L: ∀k,k∈f++m↔k<ops.size/\ (listed.setIfInBounds i true).getD k true=false:=by
    intro k;have V:=hl k;have HP: ∀x∈f++m,x≠i:=by
     intro x p e;subst e;rcases ahb.1 p with h|h
     ·have:=A.2.2 x h x (by simp);omega
     ·have:=(ara.1 A.2.1).1 x h;omega
    simp only[aiG,anT]at V⊢;constructor
    ·intro h;have se:=HP k h;have:=V.1 (by simp only[ahb,ai2]at h⊢;rcases h with h|h;exact .inl h;exact .inr (.inr h));rw[afB (λe=>se e.symm)];exact this
    ·rintro⟨R,H⟩;by_cases yo:i=k
     ·subst yo;rw[afJ rfl,afJ (by omega)]at H;simp at H
     ·rw[afB yo]at H;have:=V.2 ⟨R,H⟩;simp only[ahb,ai2]at this⊢;rcases this with h|h|h
      ·exact .inl h
      ·exact absurd h.symm yo
      ·exact .inr h
   have nZ: (f++m).Pairwise (· < ·):=apC.2 ⟨A.1,(ara.1 A.2.1).2,λx p y hy=>A.2.2 x p y (by simp[hy])⟩;have N: ∀j o,ops[j]?=some o->(listed.setIfInBounds i true).getD j true=true-> ∀a∈kX o,(listed.setIfInBounds i true).getD a true=true:=by
    intro j o' D hj a ha;have key:listed.getD a true=true->(listed.setIfInBounds i true).getD a true=true:=by
     intro h;simp only[aiG,anT]at h⊢;split
     ·split<;>rfl
     ·exact h
    apply key;by_cases Dz:i=j
    ·subst Dz;rw[ho]at D;cases D;exact AB _ ho a ha
    ·refine o6 j o' D ?_ a ha;simp only[aiG,anT]at hj⊢;rw[afB Dz]at hj;exact hj
   have qC: (f++m).length<=fuel:=by simp at hf⊢;omega
   have OE:i∉f++m:=λhm=>by
    rcases ahb.1 hm with h|h
    ·have:=A.2.2 i h i (by simp);omega
    ·have:=(ara.1 A.2.1).1 i h;omega
   have K: ∀k∈f++m,∀b,al k=some b->sl k<G.n/\G.pz (sl k)=some b:=λk V b O=>o8 k (by
    simp only[ahb,ai2]at V⊢;rcases V with h|h
    ·exact .inl h
    ·exact .inr (.inr h)) b O
   rcases AA i o ho with⟨qE,p⟩| ⟨z,tg,g,d,qE,p,yp⟩
   ·have ij:guardOf ops o=some (xs i).g:=by
      unfold ie at p;split at p
      ·rename_i H;have:=amP p;rw[<-this];exact H
      ·cases p
    have M: (xs i).dst=o.dst:=by
     unfold ie at p;split at p
     ·have:=amP p;rw[<-this]
     ·cases p
    have uG:=yg he ij;simp only[wpOpsIn,ho];rw[uG];rcases q with⟨R,v,yq,H,_,h4⟩| ⟨R,_,h4⟩
    ·rw[afJ R];refine yh hC hg p (hd i Y) hw he hm H (λDA oc e G' a' w' q1 q2 q3 q4 q5=>?_) (λDA oc e=>by cases e);cases e;exact ih _ _ (f++m) G' yq E' w' _ u a' Q L (by simpa using T) nZ N qC h4 (Gh.le_trans hle q1) (s.trans q3) (λk V b O=>by
      obtain⟨p1,p2⟩:=K k V b O;exact⟨amE p1 q1.n,by rw[q1.pz _ p1];exact p2⟩) q2 q4 q5 hQ
    ·rw[afB (by rw[R];simp)];refine⟨λ_ _=>trivial,?_⟩;obtain⟨p1,p2,p3⟩:=qB (a:=a) he (hd i Y) (v:=.undef) (v':=undef) yf;rw[<-M];exact ih _ _ (f++m) G E E' w _ u _ Q L (by simpa using T) nZ N qC h4 hle s K hw p1 (by rw[p2,p3];exact hm) hQ
   ·rw[yp]at q;have yr: ∀d',d=some d'->d'<nt:=λd' AD=>hd i Y d' (by rw[yp];exact AD)
    have DB:kT P rows o=some (.alloc z tg)/\guardOf ops o=some g/\o.dst=d:=by
     unfold ie at p;split at p
     ·rename_i i' g' H h3;simp only[afE,aO.mk.injEq]at p;obtain⟨rfl,rfl,rfl⟩:=p;exact⟨H,h3,rfl⟩
     ·cases p
    obtain⟨OF,ij,M⟩:=DB;have uG:=yg he ij;simp only[wpOpsIn,ho];rw[uG];rcases q with⟨R,v,yq,H,_,h4⟩| ⟨R,_,h4⟩
    ·rw[afJ R];simp only[exec,ao.get,afE,Out.ok.injEq]at H;obtain⟨rfl,rfl⟩:=H;obtain⟨p1,p2⟩:=o8 i (by simp) _ qE;obtain⟨t,pa,OG,rfl⟩: ∃t,o.op= .alloc t/\gB P t=some z/\tg=r7 z t:=HO OF;obtain⟨w',e1,e2,e3⟩:=hw.real p1 p2 OG;refine⟨λ_ _=>trivial,?_⟩;have DC:o.semAt (W r).round a.eval=execOp a.eval o:=by
      apply Oper.semAt_eq;intro c e;rw[pa]at e;cases e
     have DD: (execOp a.eval o).run P w= .ok (.value (.pointer (some ⟨w.heap.size,0,none⟩))) w':=by
      unfold execOp;simp only[pa];rw[Sem.run_bind,e1];rfl
     rw[DC,DD];simp only[Oper.uponIn];have DE:=Gh.HM (b:=w.heap.size) p2;obtain⟨r1,r2,r3⟩:=qB (a:=a) (dst:=d) (he.df DE) yr e3;rw[M];exact ih _ _ (f++m) _ E E' w' _ u _ Q L (by simpa using T) nZ N qC h4 (Gh.YW hle p2 (wk i _ qE)) s (λk V b O=>by
      obtain⟨p3,p4⟩:=K k V b O;refine⟨p3,?_⟩;have se:sl k≠sl i:=λe=>OE (by rw[Oz i k _ _ qE O e.symm];exact V)
      simp only[Gh.real];rw[afB se];exact p4) e2 r1 (by rw[r2,r3];exact hm.df DE) hQ
    ·rw[afB (by rw[R];simp)];refine⟨λ_ _=>trivial,?_⟩;obtain⟨p1,p2,p3⟩:=qB (a:=a) (dst:=d) he yr (v:=.undef) (v':=undef) yf;rw[M];exact ih _ _ (f++m) G E E' w _ u _ Q L (by simpa using T) nZ N qC h4 hle s K hw p1 (by rw[p2,p3];exact hm) hQ
theorem aqa(L:Region.Mode){ord:lN}(yt:ux L ops ord=true)(sl:Nat->Nat)(al:Nat->Option ae)(AA: ∀i o,ops[i]?=some o->(al i=none/\ie P rows ops o=some (xs i))\/ ∃z tg g d,al i=some (.box z tg)/\ie P rows ops o=some ⟨g,d,.alloc z tg⟩/\xs i=⟨g,d,.mov (.c (.ptr (sl i) 0))⟩)
  (Oz: ∀i j bi bj,al i=some bi->al j=some bj->sl i=sl j->i=j)  {ch:AS} (wk: ∀i b,al i=some b->fN.n<=sl i) (hd: ∀i,i<ops.size-> ∀d,(xs i).dst=some d->d<nt) (ap8: ∀i o,ops[i]?=some o-> ∀a∈kX o,a<i)
  {f:Nat} (HQ:f<ops.size) (OA: ∀i j,i<j->j<f->i∉gC ops 64 j->jZ (xs i) (xs j)=true/\ (F i).ok (F j)=true) (OH: ∀i,i<f->i∈gC ops 64 f) (OI: ∀j,f<j->j<ops.size->f∈gC ops 64 j) {Hv:AV} {YX:AS}:
  ∀ (fuel t:Nat) (listed:Array Bool) (l:lN) (G:Gh) (E E':AS) (w:World) (fr D:Fr) (a:Act) (Q:Exit->Act->World->Prop),
    (∀i,i∈l↔i<f/\listed.getD i true=false)->listed.size=ops.size->(∀j,f<=j->j<ops.size->listed.getD j true=false)->l.Pairwise (· < ·)->(∀j o,ops[j]?=some o->listed.getD j true=true-> ∀a∈kX o,listed.getD a true=true)->l.length<fuel->
    jA X C xs F l fr E D E'->fL D.env (xs f).g=true->exec X C (xs f).i D.env E'=some (.panic Hv YX)->fN.le G->ch.Ext E->(∀i∈l,∀b,al i=some b->sl i<G.n/\G.pz (sl i)=some b)->aU P B av G E w->cC G nt fr.env a.tmps->ga cS G fr.marks a.defers->(∀e a w,mo P B av cS fN ch nt (.panic Hv,D,YX) e a w->Q e a w)->
    wpOpsIn (W r) n P ops Q (Region.linearise.go L ops fuel t listed []) a w:=by
 intro fuel
 induction fuel with
 |zero=>simp
 |succ fuel ih=>
  intro t listed l G E E' w fr D a Q hl oZ Aw hp o6 hf hr DF K hle I o8 hw he hm hQ;simp only[Region.linearise.go]
  change wpOpsIn (W r) n P ops Q (match(Region.ready L ops listed)[t % (Region.ready L ops listed).length]? with
   |some i=>Region.linearise.go L ops fuel (t/ (Region.ready L ops listed).length) (listed.setIfInBounds i true) [i]
   |none=>[].reverse) a w
  have M: ∀i,i∈Region.ready L ops listed↔(i<ops.size/\listed.getD i true=false)/\ ∀o,ops[i]?=some o-> ∀e∈o.after.toList,Region.binds L e=true->listed.getD e.on false=true:=by
   intro i;simp only[Region.ready,aiJ,aq9,aiL,aDs];constructor
   ·rintro⟨J,A,h3⟩;refine⟨⟨J,A⟩,λo ho e DG V=>?_⟩;rw[ho]at h3;simp only[ahi,anc,arH]at h3;have:=h3 e (by simpa using DG);rw[V]at this;simpa using this
   ·rintro⟨⟨J,A⟩,h3⟩;refine⟨J,A,?_⟩;obtain⟨o,ho⟩: ∃o,ops[i]?=some o:=⟨ops[i],by simp[J]⟩;rw[ho];simp only[ahi,anc,arH];intro e DG;by_cases V:Region.binds L e=true
    ·rw[h3 o ho e (by simpa using DG) V];simp
    ·simp at V;simp[V]
  have OB: ∀a,listed.getD a false=true->listed.getD a true=true:=by
   intro a h;simp only[aiG]at h⊢;cases h':listed[a]? with
   |none=>rw[h']at h;cases h
   |some b=>rw[h']at h;exact h
  cases hi: (Region.ready L ops listed)[t % (Region.ready L ops listed).length]? with
  |none=>
   have Dx:Region.ready L ops listed=[]:=by
    cases o9:Region.ready L ops listed with
    |nil=>rfl
    |cons x ys=>
     rw[o9]at hi;have Dy:t % (x::ys).length< (x::ys).length:=ao3 _ (by simp);rw[ag6 Dy]at hi;cases hi
   exfalso;simp only[ux,aiL]at yt;obtain⟨x,p,o,ho,uD⟩:=Oy (S:=λa=>listed.getD a false=true) (l:=(List.range ops.size).filter λi=>listed.getD i true==false) (λx p qD=>by
    cases sc:listed.getD x true with
    |true=>
     simp only[aiG,azw (show x<listed.size by omega),anc]at sc⊢;exact sc
    |false=>exact absurd (aiJ.2 ⟨aq9.2 p,by simpa using sc⟩) qD) ord [] yt.2 (by simp) ⟨f,by
     have:=ahp.1 yt.1 f (by simpa using HQ);simpa using this,aiJ.2 ⟨aq9.2 HQ,by simpa using Aw f (ahd _) HQ⟩⟩
   have DB:x<ops.size/\listed.getD x true=false:=by simpa using aiJ.1 p
   have:x∈Region.ready L ops listed:=(M x).2 ⟨DB,λo' u e DG V=>by rw[ho]at u;cases u;exact uD e DG V⟩;rw[Dx]at this;cases this
  |some i=>
   simp only;rw[linearise_go_acc,List.reverse_singleton,List.singleton_append];have OC:=anr hi;obtain⟨sd,OD⟩:=(M i).1 OC;have AB: ∀o,ops[i]?=some o-> ∀a∈kX o,listed.getD a true=true:=by
    intro o ho a ha;simp only[kX,ahk,aiJ]at ha;obtain⟨e,⟨e1,e2⟩,rfl⟩:=ha;exact OB _ (OD o ho e e1 (YU e2))
   have Z:=sd.1;obtain⟨o,ho⟩: ∃o,ops[i]?=some o:=⟨ops[i],by simp[Z]⟩;have Y: ∀x∈gC ops 64 i,listed.getD x true=true:=Ox (S:=λa=>listed.getD a true=true) (λj hj o' u a ha=>o6 j o' u hj a ha) 64 i o ho (AB o ho);by_cases HR: ¬i<f
   ·have aqb:i=f:=by
      refine aph λse=>?_
      have:=Y _ (OI i (by omega) Z);rw[Aw f (ahd _) HQ]at this;cases this
    subst aqb;have Dx:l=[]:=by
     cases l with
     |nil=>rfl
     |cons x l=>
      obtain⟨q1,q2⟩:=(hl x).1 (by simp);have:=Y _ (OH x q1);rw[q2]at this;cases this
    subst Dx;obtain⟨rfl,rfl⟩:=hr;rcases AA i o ho with⟨qE,p⟩| ⟨z,tg,g,d,qE,p,yp⟩
    ·have ij:guardOf ops o=some (xs i).g:=by
       unfold ie at p;split at p
       ·rename_i A;have:=amP p;rw[<-this];exact A
       ·cases p
     have uG:=yg he ij;simp only[wpOpsIn,ho];rw[uG,afJ DF];exact yh hC hg p (hd i Z) hw he hm K (λDA oc e=>by cases e) (λDA oc e e' a' w' h=>by cases e;exact hQ _ _ _ (h.trans hle I))
    ·rw[yp]at K;simp[exec]at K
   have HR:i<f:=Decidable.byContradiction HR;have sd:i∈l:=(hl i).2 ⟨HR,sd.2⟩;obtain⟨m,q,rfl⟩:=azu sd;have H:=apC.1 hp;have s:=Ou m fr D E E' (λx p=>by
    have qD:=(hl x).1 (by simp[p]);refine OA x i (H.2.2 x p i (by simp)) HR (λY=>?_);have:=Ox (S:=λa=>listed.getD a true=true) (λj hj o' u a ha=>o6 j o' u hj a ha) 64 i o ho (AB o ho) x Y;rw[qD.2]at this;cases this) hr
   rw[jA]at s;have O: ∀k,k∈m++q↔k<f/\ (listed.setIfInBounds i true).getD k true=false:=by
    intro k;have hk:=hl k;have HP: ∀x∈m++q,x≠i:=by
     intro x p e;subst e;rcases ahb.1 p with h|h
     ·have:=H.2.2 x h x (by simp);omega
     ·have:=(ara.1 H.2.1).1 x h;omega
    simp only[aiG,anT]at hk⊢;constructor
    ·intro h;have se:=HP k h;have:=hk.1 (by simp only[ahb,ai2]at h⊢;rcases h with h|h;exact .inl h;exact .inr (.inr h));rw[afB (λe=>se e.symm)];exact this
    ·rintro⟨J,A⟩;by_cases yo:i=k
     ·subst yo;rw[afJ rfl,afJ (by omega)]at A;simp at A
     ·rw[afB yo]at A;have:=hk.2 ⟨J,A⟩;simp only[ahb,ai2]at this⊢;rcases this with h|h|h
      ·exact .inl h
      ·exact absurd h.symm yo
      ·exact .inr h
   have nZ: (m++q).Pairwise (· < ·):=apC.2 ⟨H.1,(ara.1 H.2.1).2,λx p y hy=>H.2.2 x p y (by simp[hy])⟩;have U: ∀j o,ops[j]?=some o->(listed.setIfInBounds i true).getD j true=true-> ∀a∈kX o,(listed.setIfInBounds i true).getD a true=true:=by
    intro j o' u hj a ha;have key:listed.getD a true=true->(listed.setIfInBounds i true).getD a true=true:=by
     intro h;simp only[aiG,anT]at h⊢;split
     ·split<;>rfl
     ·exact h
    apply key;by_cases Dz:i=j
    ·subst Dz;rw[ho]at u;cases u;exact AB _ ho a ha
    ·refine o6 j o' u ?_ a ha;simp only[aiG,anT]at hj⊢;rw[afB Dz]at hj;exact hj
   have qC: (m++q).length<fuel:=by simp at hf⊢;omega
   have R: ∀j,f<=j->j<ops.size->(listed.setIfInBounds i true).getD j true=false:=by
    intro j J A;have:=Aw j J A;simp only[aiG,anT]at this⊢;rw[afB (by omega)];exact this
   have OE:i∉m++q:=λhm=>by
    rcases ahb.1 hm with h|h
    ·have:=H.2.2 i h i (by simp);omega
    ·have:=(ara.1 H.2.1).1 i h;omega
   have N: ∀k∈m++q,∀b,al k=some b->sl k<G.n/\G.pz (sl k)=some b:=λk hk b V=>o8 k (by
    simp only[ahb,ai2]at hk⊢;rcases hk with h|h
    ·exact .inl h
    ·exact .inr (.inr h)) b V
   rcases AA i o ho with⟨qE,p⟩| ⟨z,tg,g,d,qE,p,yp⟩
   ·have ij:guardOf ops o=some (xs i).g:=by
      unfold ie at p;split at p
      ·rename_i A;have:=amP p;rw[<-this];exact A
      ·cases p
    have T: (xs i).dst=o.dst:=by
     unfold ie at p;split at p
     ·have:=amP p;rw[<-this]
     ·cases p
    have uG:=yg he ij;simp only[wpOpsIn,ho];rw[uG];rcases s with⟨J,v,yq,A,_,h4⟩| ⟨J,_,h4⟩
    ·rw[afJ J];refine yh hC hg p (hd i Z) hw he hm A (λDA oc e G' a' w' q1 q2 q3 q4 q5=>?_) (λDA oc e=>by cases e);cases e;exact ih _ _ (m++q) G' yq E' w' _ D a' Q O (by simpa using oZ) R nZ U qC h4 DF K (Gh.le_trans hle q1) (I.trans q3) (λk hk b V=>by
      obtain⟨p1,p2⟩:=N k hk b V;exact⟨amE p1 q1.n,by rw[q1.pz _ p1];exact p2⟩) q2 q4 q5 hQ
    ·rw[afB (by rw[J];simp)];refine⟨λ_ _=>trivial,?_⟩;obtain⟨p1,p2,p3⟩:=qB (a:=a) he (hd i Z) (v:=.undef) (v':=undef) yf;rw[<-T];exact ih _ _ (m++q) G E E' w _ D _ Q O (by simpa using oZ) R nZ U qC h4 DF K hle I N hw p1 (by rw[p2,p3];exact hm) hQ
   ·rw[yp]at s;have yr: ∀d',d=some d'->d'<nt:=λd' AD=>hd i Z d' (by rw[yp];exact AD)
    have DB:kT P rows o=some (.alloc z tg)/\guardOf ops o=some g/\o.dst=d:=by
     unfold ie at p;split at p
     ·rename_i i' g' A h3;simp only[afE,aO.mk.injEq]at p;obtain⟨rfl,rfl,rfl⟩:=p;exact⟨A,h3,rfl⟩
     ·cases p
    obtain⟨OF,ij,T⟩:=DB;have uG:=yg he ij;simp only[wpOpsIn,ho];rw[uG];rcases s with⟨J,v,yq,A,_,h4⟩| ⟨J,_,h4⟩
    ·rw[afJ J];simp only[exec,ao.get,afE,Out.ok.injEq]at A;obtain⟨rfl,rfl⟩:=A;obtain⟨p1,p2⟩:=o8 i (by simp) _ qE;obtain⟨t,pa,OG,rfl⟩: ∃t,o.op= .alloc t/\gB P t=some z/\tg=r7 z t:=HO OF;obtain⟨w',e1,e2,e3⟩:=hw.real p1 p2 OG;refine⟨λ_ _=>trivial,?_⟩;have DC:o.semAt (W r).round a.eval=execOp a.eval o:=by
      apply Oper.semAt_eq;intro c e;rw[pa]at e;cases e
     have DD: (execOp a.eval o).run P w= .ok (.value (.pointer (some ⟨w.heap.size,0,none⟩))) w':=by
      unfold execOp;simp only[pa];rw[Sem.run_bind,e1];rfl
     rw[DC,DD];simp only[Oper.uponIn];have DE:=Gh.HM (b:=w.heap.size) p2;obtain⟨r1,r2,r3⟩:=qB (a:=a) (dst:=d) (he.df DE) yr e3;rw[T];exact ih _ _ (m++q) _ E E' w' _ D _ Q O (by simpa using oZ) R nZ U qC h4 DF K (Gh.YW hle p2 (wk i _ qE)) I (λk hk b V=>by
      obtain⟨p3,p4⟩:=N k hk b V;refine⟨p3,?_⟩;have se:sl k≠sl i:=λe=>OE (by rw[Oz i k _ _ qE V e.symm];exact hk)
      simp only[Gh.real];rw[afB se];exact p4) e2 r1 (by rw[r2,r3];exact hm.df DE) hQ
    ·rw[afB (by rw[J];simp)];refine⟨λ_ _=>trivial,?_⟩;obtain⟨p1,p2,p3⟩:=qB (a:=a) (dst:=d) he yr (v:=.undef) (v':=undef) yf;rw[T];exact ih _ _ (m++q) G E E' w _ D _ Q O (by simpa using oZ) R nZ U qC h4 DF K hle I N hw p1 (by rw[p2,p3];exact hm) hQ
end
end
section
variable{P:Program}{X:Ctx}{B:Nat}{av:World}{cS:List Deferred}
def DH{x:aO}{b:ae}(h:x.fB=some b): ∃z tg,x.i= .alloc z tg/\b= .box z tg:=by
 unfold aO.fB at h
 grind
def AE{x:aO}(h:x.fB=none):lO m x=x:=by unfold lO;rw[h]
def AF{x:aO}{b:ae}(h:x.fB=some b):lO m x={x with i:=.mov (.c (.ptr m 0))}:=by unfold lO;rw[h]
def HS{x:aO}: (lO m x).dst=x.dst:=by
 cases h:x.fB with
 |none=>rw[AE h]
 |some b=>rw[AF h]
def YY{x:aO}: (lO m x).reads=x.reads:=by
 cases h:x.fB with
 |none=>rw[AE h]
 |some b=>
  rw[AF h];obtain⟨z,tg,a,_⟩:=DH h;unfold aO.reads;rw[a];rfl
theorem DI: ∀ (ys:List (aO×lN)) (n q:Nat),(gQ n ys)[q]?=(ys[q]?).map λy=>(lO (n+(ds (ys.take q)).length) y.1,y.2)
 | [],n,q=>by rfl
 |o::os,n,0=>by rfl
 |o::os,n,q+1=>by
  simp only[gQ,azF,arV];rw[DI os];cases h:o.1.fB with
  |none=>simp[ds,h]
  |some b=>
   simp only[ds,h,aho]
   grind
theorem OJ: ∀ (ys:List (aO×lN)) (n:Nat),(gQ n ys).length=ys.length
 | [],_=>rfl
 |o::os,n=>by simp[gQ,OJ os]
theorem OK: ∀ (ys:List (aO×lN)) (q:Nat) (y:aO×lN) (b:ae),ys[q]?=some y->y.1.fB=some b->(ds ys)[(ds (ys.take q)).length]?=some b
 | [],q,y,b,h,_=>by grind
 |o::os,0,y,b,h,a=>by
  simp at h;subst h;simp[ds,a]
 |o::os,q+1,y,b,h,a=>by
  have c:=OK os q y b (by grind) a;simp only[arV,ds]
  grind
theorem DJ: ∀ (ys:List (aO×lN)) (i j:Nat) (y:aO×lN) (b:ae),ys[i]?=some y->y.1.fB=some b->i<j->(ds (ys.take i)).length< (ds (ys.take j)).length
 | [],i,j,y,b,h,_,_=>by grind
 |o::os,0,j+1,y,b,h,a,_=>by
  simp at h;subst h;simp[ds,a]
 |o::os,i+1,j+1,y,b,h,a,c=>by
  have d:=DJ os i j y b (by grind) a (by omega);simp only[arV,ds]
  grind
 |o::os,_,0,y,b,h,a,c=>by omega
theorem HT: ∀ (ys:List (aO×lN)) (b:ae),b∈ds ys-> ∃y∈ys,y.1.fB=some b
 | [],b,h=>by trivial
 |o::os,b,h=>by
  simp only[ds]at h;cases ho:o.1.fB with
  |none=>
   rw[ho]at h;obtain⟨y,c,a⟩:=HT os b h
   grind
  |some d=>
   rw[ho]at h;rcases ai2.1 h with rfl|h
   ·grind
   ·obtain⟨y,c,a⟩:=HT os b h
    grind
def OM(hg:fo X B av):Ax P X B av:=by
 intro cS C hC rows r n nt id ops u ys AA hd O G E w fr a res Q hw he hm hr hQ;obtain⟨ON,Z⟩:=YR AA;have YZ:u.length=ops.size:=by omega
 unfold NS at O;simp only at O;split at O
 ·rename_i Y0;simp only[aiL]at Y0;obtain⟨⟨⟨⟨Y1,Y2⟩,Y3⟩,Y4⟩,Y⟩:=Y0;simp only[afE]at O
  let g:Nat->aO:=λi=>u.getD i default
  have s: ∀i,i<u.length->u[i]?=some (g i):=λi H=>by
   simp only[g,ahm,ag6 H,anc]
  have pc: ∀i,¬i<u.length->(g i).fB=none:=λi H=>by
   simp only[g,ahm,anQ (Nat.le_of_not_lt H),azI];rfl
  let sl:Nat->Nat:=λi=>E.heap.length+(ds (ys.take i)).length
  let xs:Nat->aO:=λi=>lO (sl i) (g i)
  have HU:ys.length=u.length:=by rw[<-O];simp
  have I: ∀q y,ys[q]?=some y->y.1=g q:=by
   intro q y S;rw[<-O]at S;simp only[aiY,aBX,ahg]at S;obtain⟨p,⟨z,hz,rfl⟩,rfl⟩:=S;have K:q<u.length:=(afA.1 hz).1;have:=s q K;rw[hz]at this;simpa using this
  have AG: ∀q,q<u.length-> ∃L,ys[q]?=some (g q,L):=λq S=>by
   have:q<ys.length:=by omega
   refine⟨(ys[q]).2,?_⟩;have e:=ag6 this;rw[e];have:=I q _ e;rw[<-this]
  by_cases hn:res.1= .normal
  ·obtain⟨F,f1,f2,f3,f4⟩:=Ov (xs:=xs) (gQ E.heap.length ys) [] fr _ res (λq y S=>by
     rw[DI]at S;obtain⟨y',R,rfl⟩:=ahg.1 S;have:=I q y' R;simp only[apt,ans,xs,sl,<-this]) hr hn
   have OO: (List.range (gQ E.heap.length ys).length).map (([]:List FP).length+ ·)=List.range ops.size:=by
    rw[OJ,HU,YZ];simp
   rw[OO]at f3;obtain⟨ex,HG,E'⟩:=res;simp only at f2 f3;subst f2;have V: ∀i o,ops[i]?=some o-> ∀a∈kX o,a<i:=by
    intro i o ho a ha;have H:i<ops.size:=(anV.1 ho).1;have:=ahp.1 Y4 i (by simp;omega);rw[ho]at this;simpa using ahp.1 this a ha
   have T: ∀i j,i<j->j<ops.size->i∉gC ops 64 j->jZ (xs i) (xs j)=true/\ (F i).ok (F j)=true:=by
    intro i j A D c;have H:i<ops.size:=by omega
    have hb: (((List.range u.length).map λi=>(gC ops 64 i).eraseDups).getD j []).contains i=false:=by
     simp only[ahm,aiY,arB (show j<u.length by omega),ahi,anc];cases h: (gC ops 64 j).eraseDups.contains i with
     |false=>rfl
     |true=>
      rw[au7,List.mem_eraseDups]at h;exact absurd h c
    have R:=ahp.1 Y (g i,i) (by rw[api];exact s i (by omega));have W:=ahp.1 R (g j,j) (by rw[api];exact s j (by omega));simp only[ge_iff_le,arj,amT]at W;refine⟨?_,?_⟩
    ·have sf:jZ (xs i) (xs j)=jZ (g i) (g j):=by
       unfold jZ;simp only[xs,HS,YY]
     rw[sf];rcases W with(h|h)|h
     ·omega
     ·rw[hb]at h;cases h
     ·exact h
    ·by_cases ci: (xs i).i.cls=0
     ·rw[ym ci _ _ _ _ _ (by simp;omega) f3];exact YP _
     ·by_cases cj: (xs j).i.cls=0
      ·rw[ym cj _ _ _ _ _ (by simp;omega) f3];exact YQ _
      ·have same: ∀k,(xs k).i.cls≠0->xs k=g k:=by
         intro k hk;cases v: (g k).fB with
         |none=>exact AE v
         |some b=>exact absurd (by show(lO (sl k) (g k)).i.cls=0;rw[AF v];rfl) hk
       have ei:=same i ci;have ej:=same j cj;have OP:ys[j]?=some (g j,r8 u.zipIdx ((List.range u.length).map λi=>(gC ops 64 i).eraseDups) (g j) j):=by
        rw[<-O];simp only[aiY,aBX,s j (by omega),ahi,ans]
       have N: (gQ E.heap.length ys)[j]?=some (xs j,r8 u.zipIdx ((List.range u.length).map λi=>(gC ops 64 i).eraseDups) (g j) j):=by
        rw[DI,OP];rfl
       have:=f4 j _ N i (by
        rw[ej]at cj;rw[ei]at ci;exact NR (x:=g i) (by rw[api];exact s i (by omega)) A ci cj hb) (by simpa using A)
       simpa using this
   refine wpIn_region_draw (λt=>?_);have J: ∃md ord t',Region.schedule (P.follows .mixedOrders) ops t=Region.linearise md ops t'/\ux md ops ord=true:=by
    unfold Region.schedule;split
    ·exact⟨.any,_,t,rfl,Y1⟩
    ·split
     ·exact⟨.text,_,_,rfl,Y2⟩
     ·exact⟨.gc,_,_,rfl,Y3⟩
   obtain⟨md,ord,t',J,yt⟩:=J;rw[J];unfold Region.linearise;have OQ: ∀o∈ds ys,∃z tg,o= .box z tg/\aG z=0:=by
    intro o ho;obtain⟨y,R,W⟩:=HT ys o ho;obtain⟨z,tg,M,rfl⟩:=DH W;refine⟨z,tg,rfl,?_⟩;obtain⟨q,S⟩:=awV R;have K:q<ops.size:=by
     have:=(afA.1 S).1;omega
    obtain⟨x,e1,e2⟩:=Z q ops[q] (by simp[K]);have e3:=s q (by omega);rw[e1]at e3;rw[I q y S]at M;rw[amP e3]at e2;have:kT P rows ops[q]=some (.alloc z tg):=by
     unfold ie at e2;split at e2
     ·rename_i i' g' h4 h5;rw[<-amP e2]at M;simp only at M;rw[h4,M]
     ·cases e2
    obtain⟨t,_,hc,_⟩:=HO this;obtain⟨z',_,_,l,_⟩:=sa hc (Gh.mk (λ_ _=>none) 0 (λi=>i) (λi=>i) (λi=>i) (λi=>i) (λi=>i) (λ_=>none)) w;have:=aD.refs _ _ l;simpa using this
   refine go_sound hC hg (xs:=xs) (F:=F) (rows:=rows) (nt:=nt) md yt sl (λi=>(g i).fB) (λi o ho=>?_) (λi j bi bj H D A=>?_) (fN:=G) (ch:=E) (λi b H=>?_) (λi H d yu=>hd (g i) (anr (s i (by omega))) d (by rw[<-HS (m:=sl i)];exact yu)) V T ops.size t' _ (List.range ops.size) (G.later (ds ys)) (E.ml (ds ys)) E' _ fr HG a Q
    (λi=>?_) (by simp) azK (λj o ho D=>?_) (by simp) f3 (G.yn _) (.ml E _) (λi H b hb=>?_) (hw.later OQ).drew (he.mono (G.yn _)) (hm.mono (G.yn _)) hQ
   ·obtain⟨x,R,W⟩:=Z i o (by simpa using ho);have M:=s i (afA.1 R).1;rw[R]at M;have M:=amP M;subst M;cases v: (g i).fB with
    |none=>exact .inl ⟨rfl,by rw[W];show _=some (lO (sl i) (g i));rw[AE v]⟩
    |some b=>
     obtain⟨z,tg,h4,rfl⟩:=DH v;refine .inr ⟨z,tg,(g i).g,(g i).dst,rfl,?_,?_⟩
     ·rw[W,<-h4]
     ·show lO (sl i) (g i)=_;rw[AF v]
   ·have OR:i<u.length:=by
      by_cases h:i<u.length
      ·exact h
      ·have:=pc i h;rw[this]at H;cases H
    have OS:j<u.length:=by
     by_cases h:j<u.length
     ·exact h
     ·have:=pc j h;rw[this]at D;cases D
    obtain⟨Li,ei⟩:=AG i OR;obtain⟨Lj,ej⟩:=AG j OS;have aqc: (ds (ys.take i)).length=(ds (ys.take j)).length:=by
     have:E.heap.length+(ds (ys.take i)).length=E.heap.length+(ds (ys.take j)).length:=A;omega
    rcases azC i j with h|h|h
    ·have:=DJ ys i j _ bi ei H h;omega
    ·exact h
    ·have:=DJ ys j i _ bj ej D h;omega
   ·show G.n<=E.heap.length+_;rw[hw.len];omega
   ·simp only[aq9,aiG,azE];constructor
    ·intro h;exact⟨h,by simp[h]⟩
    ·exactλh=>h.1
   ·exfalso;have K:j<ops.size:=(anV.1 ho).1;simp[aiG,K]at D
   ·have K:i<ops.size:=by simpa using H
    obtain⟨L,e⟩:=AG i (by omega);have DK:=OK ys i _ b e hb;have AH:=(afA.1 DK).1;have hn:=hw.len;refine⟨by show E.heap.length+_<G.n+_;omega,?_⟩;show(if E.heap.length+_<G.n then _ else _)=some b;rw[afB (by omega),hn,ant];exact DK
  ·obtain⟨F,f,Hv,yq,aDa,f1,q1,f2,f3,f5,f6,f4,f8,f9,f10,f11⟩:=YO (xs:=xs) (gQ E.heap.length ys) [] fr _ res (λq y S=>by
     rw[DI]at S;obtain⟨y',R,rfl⟩:=ahg.1 S;have:=I q y' R;simp only[apt,ans,xs,sl,<-this]) hr hn
   have OO: (List.range f).map (([]:List FP).length+ ·)=List.range f:=by simp
   rw[OO]at f3;obtain⟨ex,HG,E'⟩:=res;simp only[apt,ans]at f2 f3 f5 f6 f10 f11;subst f2;have U:f<ops.size:=by
    have:=(afA.1 q1).1;rw[OJ,HU,YZ]at this;exact this
   have V: ∀i o,ops[i]?=some o-> ∀a∈kX o,a<i:=by
    intro i o ho a ha;have H:i<ops.size:=(anV.1 ho).1;have:=ahp.1 Y4 i (by simp;omega);rw[ho]at this;simpa using ahp.1 this a ha
   have OT: ∀i j,j<ops.size->i∉gC ops 64 j->(((List.range u.length).map λi=>(gC ops 64 i).eraseDups).getD j []).contains i=false:=by
    intro i j D c;simp only[ahm,aiY,arB (show j<u.length by omega),ahi,anc];cases h: (gC ops 64 j).eraseDups.contains i with
    |false=>rfl
    |true=>
     rw[au7,List.mem_eraseDups]at h;exact absurd h c
   have sf: ∀i j,i<j->j<ops.size->i∉gC ops 64 j->jZ (xs i) (xs j)=true:=by
    intro i j A D c;have hb:=OT i j D c;have R:=ahp.1 Y (g i,i) (by rw[api];exact s i (by omega));have W:=ahp.1 R (g j,j) (by rw[api];exact s j (by omega));simp only[ge_iff_le,arj,amT]at W;have sf:jZ (xs i) (xs j)=jZ (g i) (g j):=by
     unfold jZ;simp only[xs,HS,YY]
    rw[sf];rcases W with(h|h)|h
    ·omega
    ·rw[hb]at h;cases h
    ·exact h
   have same: ∀k,(xs k).i.cls≠0->xs k=g k:=by
    intro k hk;cases v: (g k).fB with
    |none=>exact AE v
    |some b=>exact absurd (by show(lO (sl k) (g k)).i.cls=0;rw[AF v];rfl) hk
   have N: ∀j,j<ops.size->(gQ E.heap.length ys)[j]?=some (xs j,r8 u.zipIdx ((List.range u.length).map λi=>(gC ops 64 i).eraseDups) (g j) j):=by
    intro j D;have OP:ys[j]?=some (g j,r8 u.zipIdx ((List.range u.length).map λi=>(gC ops 64 i).eraseDups) (g j) j):=by
     rw[<-O];simp only[aiY,aBX,s j (by omega),ahi,ans]
    rw[DI,OP];rfl
   have OU: ∀i j,i<j->j<ops.size->i∉gC ops 64 j->(xs i).i.cls≠0->(xs j).i.cls≠0->i∈r8 u.zipIdx ((List.range u.length).map λi=>(gC ops 64 i).eraseDups) (g j) j:=by
    intro i j A D c ci cj;have hb:=OT i j D c;rw[same i ci]at ci;rw[same j cj]at cj;exact NR (x:=g i) (by rw[api];exact s i (by omega)) A ci cj hb
   have DL:=N f U;rw[q1]at DL;have DL:=amP DL;subst DL;have T: ∀i j,i<j->j<f->i∉gC ops 64 j->jZ (xs i) (xs j)=true/\ (F i).ok (F j)=true:=by
    intro i j A D c;refine⟨sf i j A (by omega) c,?_⟩;by_cases ci: (xs i).i.cls=0
    ·rw[ym ci _ _ _ _ _ (by simp;omega) f3];exact YP _
    ·by_cases cj: (xs j).i.cls=0
     ·rw[ym cj _ _ _ _ _ (by simp;omega) f3];exact YQ _
     ·have:=f4 j _ D (N j (by omega)) i (OU i j A (by omega) c ci cj) (by simpa using A);simpa using this
   have OH: ∀i,i<f->i∈gC ops 64 f:=by
    intro i H;refine aph λc=>?_
    simp only at f8 f9 f10;rcases f10 with f10|f10
    ·rw[same f f9]at f10;exact an3 (x:=g i) (by rw[api];exact s i (by omega)) H f10 (OT i f U c) f8
    ·have ci: (xs i).i.cls≠0:=λci=>f10 i H (ym ci _ _ _ _ _ (by simp;omega) f3)
     have:=OU i f H U c ci f9;rw[f8]at this;cases this
   have OI: ∀j,f<j->j<ops.size->f∈gC ops 64 j:=by
    intro j D OV;refine aph λc=>?_
    have yv:=f11 j _ D (N j OV);simp only at yv;split at yv
    ·rw[sf f j D OV c]at yv;cases yv
    ·rename_i cj;exact yv (OU f j D OV c f9 cj)
   refine wpIn_region_draw (λt=>?_);have J: ∃md ord t',Region.schedule (P.follows .mixedOrders) ops t=Region.linearise md ops t'/\ux md ops ord=true:=by
    unfold Region.schedule;split
    ·exact⟨.any,_,t,rfl,Y1⟩
    ·split
     ·exact⟨.text,_,_,rfl,Y2⟩
     ·exact⟨.gc,_,_,rfl,Y3⟩
   obtain⟨md,ord,t',J,yt⟩:=J;rw[J];unfold Region.linearise;have OQ: ∀o∈ds ys,∃z tg,o= .box z tg/\aG z=0:=by
    intro o ho;obtain⟨y,R,W⟩:=HT ys o ho;obtain⟨z,tg,M,rfl⟩:=DH W;refine⟨z,tg,rfl,?_⟩;obtain⟨q,S⟩:=awV R;have K:q<ops.size:=by
     have:=(afA.1 S).1;omega
    obtain⟨x,e1,e2⟩:=Z q ops[q] (by simp[K]);have e3:=s q (by omega);rw[e1]at e3;rw[I q y S]at M;rw[amP e3]at e2;have:kT P rows ops[q]=some (.alloc z tg):=by
     unfold ie at e2;split at e2
     ·rename_i i' g' h4 h5;rw[<-amP e2]at M;simp only at M;rw[h4,M]
     ·cases e2
    obtain⟨t,_,hc,_⟩:=HO this;obtain⟨z',_,_,l,_⟩:=sa hc (Gh.mk (λ_ _=>none) 0 (λi=>i) (λi=>i) (λi=>i) (λi=>i) (λi=>i) (λ_=>none)) w;have:=aD.refs _ _ l;simpa using this
   refine aqa hC hg (xs:=xs) (F:=F) (rows:=rows) (nt:=nt) md yt sl (λi=>(g i).fB) (λi o ho=>?_) (λi j bi bj H D A=>?_) (fN:=G) (ch:=E) (λi b H=>?_) (λi H d yu=>hd (g i) (anr (s i (by omega))) d (by rw[<-HS (m:=sl i)];exact yu)) V U T OH OI ops.size t' _ (List.range f) (G.later (ds ys)) (E.ml (ds ys)) yq _ fr HG a Q
    (λi=>?_) (by simp) (λj _ D=>by simp[D]) azK (λj o ho D=>?_) (by simpa using U) f3 f5 f6 (G.yn _) (.ml E _) (λi H b hb=>?_) (hw.later OQ).drew (he.mono (G.yn _)) (hm.mono (G.yn _)) hQ
   ·obtain⟨x,R,W⟩:=Z i o (by simpa using ho);have M:=s i (afA.1 R).1;rw[R]at M;have M:=amP M;subst M;cases v: (g i).fB with
    |none=>exact .inl ⟨rfl,by rw[W];show _=some (lO (sl i) (g i));rw[AE v]⟩
    |some b=>
     obtain⟨z,tg,h4,rfl⟩:=DH v;refine .inr ⟨z,tg,(g i).g,(g i).dst,rfl,?_,?_⟩
     ·rw[W,<-h4]
     ·show lO (sl i) (g i)=_;rw[AF v]
   ·have OR:i<u.length:=by
      by_cases h:i<u.length
      ·exact h
      ·have:=pc i h;rw[this]at H;cases H
    have OS:j<u.length:=by
     by_cases h:j<u.length
     ·exact h
     ·have:=pc j h;rw[this]at D;cases D
    obtain⟨Li,ei⟩:=AG i OR;obtain⟨Lj,ej⟩:=AG j OS;have aqc: (ds (ys.take i)).length=(ds (ys.take j)).length:=by
     have:E.heap.length+(ds (ys.take i)).length=E.heap.length+(ds (ys.take j)).length:=A;omega
    rcases azC i j with h|h|h
    ·have:=DJ ys i j _ bi ei H h;omega
    ·exact h
    ·have:=DJ ys j i _ bj ej D h;omega
   ·show G.n<=E.heap.length+_;rw[hw.len];omega
   ·simp only[aq9,aiG,azE];constructor
    ·intro h;exact⟨h,by simp[Nat.lt_trans h U]⟩
    ·exactλh=>h.1
   ·exfalso;have K:j<ops.size:=(anV.1 ho).1;simp[aiG,K]at D
   ·have K:i<ops.size:=Nat.lt_trans (by simpa using H) U;obtain⟨L,e⟩:=AG i (by omega);have DK:=OK ys i _ b e hb;have AH:=(afA.1 DK).1;have hn:=hw.len;refine⟨by show E.heap.length+_<G.n+_;omega,?_⟩;show(if E.heap.length+_<G.n then _ else _)=some b;rw[afB (by omega),hn,ant];exact DK
 grind
theorem aqd(n:Nat):yi (iter n):=λ_ _ _ _ h=>⟨n,h⟩
theorem Y5(a:fo X B av)(b:o7 P X)(c: ∀f p,X.bU f=some p->gb P B av f p): ∀n,fI P B av (ic X n)
 |0=>by intro fv args E d h;simp[ic]at h
 |n+1=>apX (Y5 a b c n) a b (OM a) (aqd n) c
end
section
variable{P:Program}{X:Ctx}{B:Nat}{av:World}
def Gh.start(w:World):Gh where
 bt b o:=if b<w.heap.size then w.cell? ⟨b,o,none⟩else none
 n:=0
 aZ:=id
 base:=id
 aj:=id
 dU:=id
 sz:=id
theorem aU.start(w:World):aU P w.heap.size w (Gh.start w) {heap:=[],lo:=none} w where
 len:=rfl
 bt b o v h:=by
  simp only[Gh.start]at h
  grind
 obj id o h:=by grind
 inj i j a:=absurd a.1 (ari _)
 sep i a:=absurd a.1 (ari _)
 low i a:=absurd a.1 (ari _)
 lQ i o a:=absurd a (ari _)
 lP:=⟨rfl,rfl,rfl,ahd _,λ_ _=>rfl⟩
 hB:=ahd _
 dB b o v c h:=by simp only[Gh.start];grind
end
section
variable{P:Program}{X:Ctx}{B:Nat}{av:World}
def bw.le(C a:bw):Prop:= ∀f args E r,C f args E=some r->a f args E=some r
def qF(b a:Fr->AS->jd):Prop:= ∀fr E r,b fr E=some r->a fr E=some r
def ee.le(L c:ee):Prop:= ∀b a,qF b a->qF (L b) (c a)
theorem AI{C c:bw}(b:bw.le C c)(i:I)(e:Env)(E:AS)(r:Out)(h:exec X C i e E=some r):exec X c i e E=some r:=by
 cases i with
 |call f args=>
  simp only[exec]at h⊢;split at h
  ·rename_i a;rw[b _ _ _ _ a];exact h
  ·rename_i a;rw[b _ _ _ _ a];exact h
  grind
 |_=>simpa only[exec]using h
theorem HV{C b:bw}(a:bw.le C b): ∀ (os:List aO),qF (eF X C os) (eF X b os)
 | [],_,_,_,h=>by trivial
 |o::os,fr,E,r,h=>by
  simp only[eF]at h⊢;split at h
  ·rename_i hw;rw[afJ hw];split at h
   ·rename_i c;rw[AI a _ _ _ _ c];exact HV a os _ _ _ h
   ·grind [AI]
   grind
  ·rename_i hw;rw[afB hw];exact HV a os _ _ _ h
theorem HW{C c:bw}(b:bw.le C c): ∀ (os:List (aO×lN)) (a:List FP),qF (fZ X C a os) (fZ X c a os)
 | [],_,_,_,_,h=>by trivial
 |o::os,a,fr,E,r,h=>by
  simp only[fZ]at h⊢;split at h
  ·rename_i hw;rw[afJ hw];split at h
   ·rename_i d;rw[AI b _ _ _ _ d];simp only;split at h
    ·rename_i e;rw[afJ e];exact HW b os _ _ _ _ h
    grind
   ·grind [AI]
   grind
  ·rename_i hw;rw[afB hw];exact HW b os _ _ _ _ h
theorem qG{C m:bw}{L l:ee}(d:bw.le C m)(e:ee.le L l)(bO:FuncId)(rd:Bool): ∀k,qF (aY X C L bO rd k) (aY X m l bO rd k)
 |.skip,_,_,_,h=>by trivial
 |.seq a b,fr,E,r,h=>by
  simp only[aY]at h⊢;split at h
  ·rename_i f;rw[qG d e bO rd a _ _ _ f];exact qG d e bO rd b _ _ _ h
  ·cases hr:aY X C L bO rd a fr E with
   |none=>grind
   |some q=>
    rw[qG d e bO rd a _ _ _ hr]
    grind
 |.cond c a b,fr,E,r,h=>by
  simp only[aY]at h⊢;split at h
  ·rename_i t o;split at h
   ·rename_i i;rw[afJ i];exact qG d e bO rd a _ _ _ h
   ·rename_i i;rw[afB i];exact qG d e bO rd b _ _ _ h
  omega
 |.block id body,fr,E,r,h=>by
  simp only[aY]at h⊢;cases hr:aY X C L bO rd body fr E with
  |none=>rw[hr]at h;cases h
  |some q=>rw[qG d e bO rd body _ _ _ hr];rw[hr]at h;exact h
 |.loop body,fr,E,r,h=>by
  simp only[aY]at h⊢;exact e _ _ (qG d e bO rd body) _ _ _ h
 |.exit id,_,_,_,h=>by simpa only[aY]using h
 |.ret,_,_,_,h=>by simpa only[aY]using h
 |.aL ops,fr,E,r,h=>by
  simp only[aY]at h⊢;exact HV d ops _ _ _ h
 |.uq ops,fr,E,r,h=>by
  simp only[aY]at h⊢;exact HW d _ _ _ _ _ h
 |.ia g ps as bd,fr,E,r,h=>by
  simp only[aY]at h⊢;split at h
  ·cases h
  ·rename_i j;rw[afB j];split at h
   ·rename_i n;rw[afJ n];split at h
    ·rename_i f;rw[d _ _ _ _ f];exact h
    ·rename_i f;rw[d _ _ _ _ f];exact h
    ·cases h
   ·cases h
theorem aqe{C o:bw}{L n:ee}(m:bw.le C o)(k:ee.le L n)(l:Nat)(args:lA)(E:AS)(r:aS)(h:j0 X C L l args E=some r):j0 X o n l args E=some r:=by
 simp only[j0]at h⊢;split at h
 ·rename_i st i f env ps as bd u;split at h
  ·rename_i a;simp only[a,aiZ];split at h
   ·rename_i fr d p;rw[qG m k _ _ _ _ _ _ p];simp only;split at h
    ·rename_i b t c e g iF s;cases j:aY X C L f true bd fr (d.set l (.loop .busy b t c e g iF) 0)with
     |none=>rw[j]at h;cases h
     |some q=>rw[qG m k _ _ _ _ _ _ j];grind
    omega
   grind
  grind
 omega
def Y6{C c:bw}{L b:ee}(e:bw.le C c)(d:ee.le L b):bw.le (step X C L) (step X c b):=by
 intro v args E r h;unfold step at h⊢;split at h
 ·rename_i f first cap
  split at h
  ·omega
  ·split at h
   ·rename_i pf g;split at h
    ·cases a:aY X C L f false pf.body {env:=cZ (first++args++cap),marks:=[]} {E with lo:=none}with
     |none=>rw[a]at h;cases h
     |some q=>rw[qG e d _ _ _ _ _ _ a];grind
    grind
   omega
 ·grind [aqe]
 omega
theorem OW: ∀n,ee.le (iter n) (iter (n+1))
 |0,b,c,a,fr,E,r,h=>by trivial
 |n+1,b,c,a,fr,E,r,h=>by
  rw[iter]at h⊢;split at h
  ·rename_i d;rw[a _ _ _ d];exact OW n b c a _ _ _ h
  ·rw[a _ _ _ h]
   grind
theorem Y7: ∀n,bw.le (ic X n) (ic X (n+1))
 |0=>λf args E r h=>by trivial
 |n+1=>by
  exact Y6 (Y7 n) (OW n)
theorem bw.le_trans{A B C:bw}(h:bw.le A B)(k:bw.le B C):bw.le A C:=λf a s r e=>k f a s r (h f a s r e)
def yw(h:n<=m):bw.le (ic X n) (ic X m):=by
 induction h with
 |refl=>exactλf a s r e=>e
 |step _ b=>exact bw.le_trans b (Y7 _)
def OX(h:n<=m)(b:Fr->AS->jd):qF (iter n b) (iter m b):=by
 induction h with
 |refl=>exactλfr s r e=>e
 |step _ a=>exactλfr s r e=>OW _ b b (λ_ _ _ h=>h) _ _ _ (a fr s r e)
theorem HX: ∀n (b a:Fr->AS->jd),qF b a->qF (iter n b) (iter n a)
 |0,_,_,_=>λfr E r h=>by trivial
 |n+1,b,a,c=>λfr E r h=>by
  rw[iter]at h⊢;split at h
  ·rename_i d;rw[c _ _ _ d];exact HX n b a c _ _ _ h
  ·rw[c _ _ _ h]
   grind
def Y8(h:n<=m):ee.le (iter n) (iter m):=by
 intro b a c fr s r e;exact OX h a _ _ _ (HX n b a c _ _ _ e)
noncomputable def D(X:Ctx):bw:=λf args E=>
 open Classical in if h: ∃r,∃n,ic X n f args E=some r then some h.choose else none
noncomputable def Lw:ee:=λb fr E=>
 open Classical in if h: ∃r,∃n,iter n b fr E=some r then some h.choose else none
def OY:bw.le (ic X n) (D X):=by
 intro f args E r h;have a: ∃r,∃n,ic X n f args E=some r:=⟨r,n,h⟩;unfold D;obtain⟨m,hm⟩:=a.choose_spec;have c:=yw (ar4 n m) _ _ _ _ h;have b:=yw (atP n m) _ _ _ _ hm
 grind
theorem yx{f:AV}{args:lA}{E:AS}{r:aS}(h:D X f args E=some r): ∃n,ic X n f args E=some r:=by
 unfold D at h;split at h
 ·grind
 grind
def OZ{b:Fr->AS->jd}:qF (iter n b) (Lw b):=by
 intro fr E r h;have a: ∃r,∃n,iter n b fr E=some r:=⟨r,n,h⟩;unfold Lw;obtain⟨m,hm⟩:=a.choose_spec;have d:=OX (ar4 n m) b _ _ _ h;have c:=OX (atP n m) b _ _ _ hm
 grind
def DM{b:Fr->AS->jd}{a:Fr}{E:AS}{r:Ex×Fr×AS}(h:Lw b a E=some r): ∃n,iter n b a E=some r:=by
 unfold Lw at h;split at h
 ·grind
 grind
theorem aqf(b:Fr->AS->jd)(e:Fr)(E:AS):Lw b e E=match b e E with
  |some (.normal,c,g)=>Lw b c g
  |r=>r:=by
 split
 ·rename_i c g d;cases f:Lw b c g with
  |none=>
   cases hr:Lw b e E with
   |none=>rfl
   |some r=>
    obtain⟨n,a⟩:=DM hr;cases n with
    |zero=>trivial
    |succ n=>rw[iter,d]at a;rw[OZ _ _ _ a]at f;cases f
  |some r=>
   obtain⟨n,a⟩:=DM f;exact OZ (n:=n+1) _ _ _ (by rw[iter,d];exact a)
 ·cases d:b e E with
  |none=>
   cases hr:Lw b e E with
   |none=>rfl
   |some r=>
    obtain⟨n,a⟩:=DM hr;cases n with
    |zero=>trivial
    |succ n=>rw[iter,d]at a;cases a
  |some q=>
   refine OZ (n:=1) _ _ _ ?_;rw[iter,d]
   grind
theorem HY{i:I}{E:AS}{r:Out}(h:exec X (D X) i e E=some r): ∃n,exec X (ic X n) i e E=some r:=by
 cases i with
 |call f args=>
  simp only[exec]at h⊢;split at h
  ·grind [yx]
  ·rename_i b;obtain⟨n,a⟩:=yx b;exact⟨n,by rw[a];exact h⟩
  grind
 |_=>exact⟨0,by simpa only[exec]using h⟩
theorem O0: ∀ (os:List aO) (fr:Fr) (E:AS) (r:Ex×Fr×AS),eF X (D X) os fr E=some r-> ∃n,eF X (ic X n) os fr E=some r
 | [],_,_,_,h=>⟨0,by trivial⟩
 |o::os,fr,E,r,h=>by
  simp only[eF]at h⊢;split at h
  ·rename_i hw;simp only[hw,aiZ];split at h
   ·rename_i a;obtain⟨n,b⟩:=HY a;obtain⟨m,hm⟩:=O0 os _ _ _ h;refine⟨max n m,?_⟩;rw[AI (yw (ar4 n m)) _ _ _ _ b];exact HV (yw (atP n m)) _ _ _ _ hm
   ·grind [HY]
   grind
  ·obtain⟨m,hm⟩:=O0 os _ _ _ h
   grind
theorem O2: ∀ (os:List (aO×lN)) (a:List FP) (fr:Fr) (E:AS) (r:Ex×Fr×AS),fZ X (D X) a os fr E=some r-> ∃n,fZ X (ic X n) a os fr E=some r
 | [],_,_,_,_,h=>⟨0,by trivial⟩
 |o::os,a,fr,E,r,h=>by
  simp only[fZ]at h⊢;split at h
  ·rename_i hw;simp only[hw,aiZ];split at h
   ·rename_i b;obtain⟨n,c⟩:=HY b;split at h
    ·rename_i d;obtain⟨m,hm⟩:=O2 os _ _ _ _ h;refine⟨max n m,?_⟩;rw[AI (yw (ar4 n m)) _ _ _ _ c];simp only;rw[afJ d];exact HW (yw (atP n m)) _ _ _ _ _ hm
    grind
   ·rename_i b;obtain⟨n,c⟩:=HY b
    grind
   grind
  ·obtain⟨m,hm⟩:=O2 os _ _ _ _ h
   grind
theorem yy(h:n<=m)(bO:FuncId)(rd:Bool)(a:PC):qF (aY X (ic X n) (iter n) bO rd a) (aY X (ic X m) (iter m) bO rd a):=
 qG (yw h) (Y8 h) bO rd a
theorem qH(bO:FuncId)(rd:Bool): ∀ (l:PC) (fr:Fr) (E:AS) (r:Ex×Fr×AS),aY X (D X) Lw bO rd l fr E=some r-> ∃n,aY X (ic X n) (iter n) bO rd l fr E=some r
 |.skip,_,_,_,h=>⟨0,by trivial⟩
 |.seq a b,fr,E,r,h=>by
  simp only[aY]at h;split at h
  ·rename_i e;obtain⟨n,d⟩:=qH bO rd a _ _ _ e;obtain⟨m,hm⟩:=qH bO rd b _ _ _ h;refine⟨max n m,?_⟩;simp only[aY];rw[yy (ar4 n m) _ _ _ _ _ _ d];exact yy (atP n m) _ _ _ _ _ _ hm
  ·rename_i e;obtain⟨n,d⟩:=qH bO rd a _ _ _ h;refine⟨n,?_⟩;simp only[aY];rw[d];obtain⟨ex,j,v⟩:=r;cases ex with
   |normal=>exact absurd h (e _ _)
   |_=>rfl
 |.cond c a b,fr,E,r,h=>by
  simp only[aY]at h;split at h
  ·rename_i t p;split at h
   ·rename_i i;obtain⟨n,d⟩:=qH bO rd a _ _ _ h;exact⟨n,by simp only[aY,p,i,aiZ];exact d⟩
   ·rename_i i;obtain⟨n,d⟩:=qH bO rd b _ _ _ h;exact⟨n,by simp only[aY,p,afB i];exact d⟩
  ·cases h
 |.block id body,fr,E,r,h=>by
  simp only[aY]at h;cases hr:aY X (D X) Lw bO rd body fr E with
  |none=>rw[hr]at h;cases h
  |some q=>
   obtain⟨n,d⟩:=qH bO rd body _ _ _ hr;refine⟨n,?_⟩;simp only[aY];rw[d];rw[hr]at h;exact h
 |.loop body,fr,E,r,h=>by
  simp only[aY]at h;obtain⟨k,u⟩:=DM h;have key: ∀k fr,∀E,iter k (aY X (D X) Lw bO rd body) fr E=some r-> ∃n,iter n (aY X (ic X n) (iter n) bO rd body) fr E=some r:=by
   intro k
   induction k with
   |zero=>intro fr E h;simp[iter]at h
   |succ k s=>
    intro fr E h;rw[iter]at h;split at h
    ·rename_i e;obtain⟨n,d⟩:=qH bO rd body _ _ _ e;obtain⟨m,hm⟩:=s _ _ h;refine⟨max n m+1,?_⟩;rw[iter];rw[yy (show n<=max n m+1 by omega) _ _ _ _ _ _ d];exact Y8 (show m<=max n m by omega) _ _ (yy (show m<=max n m+1 by omega) _ _ _) _ _ _ hm
    ·rename_i e;obtain⟨n,d⟩:=qH bO rd body _ _ _ h;refine⟨n+1,?_⟩;rw[iter,yy (Nat.le_succ n) _ _ _ _ _ _ d];obtain⟨ex,j,v⟩:=r;cases ex with
     |normal=>exact absurd h (e _ _)
     |_=>rfl
  obtain⟨n,d⟩:=key k fr E u;exact⟨n,by simp only[aY];exact d⟩
 |.exit id,_,_,_,h=>⟨0,by simpa only[aY]using h⟩
 |.ret,_,_,_,h=>⟨0,by simpa only[aY]using h⟩
 |.aL ops,fr,E,r,h=>by
  simp only[aY]at h;obtain⟨n,d⟩:=O0 _ _ _ _ h;exact⟨n,by simp only[aY];exact d⟩
 |.uq ops,fr,E,r,h=>by
  simp only[aY]at h;obtain⟨n,d⟩:=O2 _ _ _ _ _ h;exact⟨n,by simp only[aY];exact d⟩
 |.ia g ps as bd,fr,E,r,h=>by
  simp only[aY]at h;split at h
  ·cases h
  ·rename_i f;split at h
   ·rename_i o;split at h
    ·rename_i e;obtain⟨n,d⟩:=yx e;exact⟨n,by simp only[aY];rw[afB f,afJ o,d];exact h⟩
    ·rename_i e;obtain⟨n,d⟩:=yx e;exact⟨n,by simp only[aY];rw[afB f,afJ o,d];exact h⟩
    ·cases h
   ·cases h
def aqg{args:lA}{E:AS}{r:aS}(h:j0 X (D X) Lw l args E=some r): ∃n,j0 X (ic X n) (iter n) l args E=some r:=by
 simp only[j0]at h⊢;split at h
 ·rename_i st i f env ps as bd t;split at h
  ·rename_i d;split at h
   ·rename_i fr c k;obtain⟨n,o⟩:=qH _ _ _ _ _ _ k;split at h
    ·rename_i a s b e g iF p;cases j:aY X (D X) Lw f true bd fr (c.set l (.loop .busy a s b e g iF) 0)with
     |none=>rw[j]at h;cases h
     |some q=>
      obtain⟨m,hm⟩:=qH _ _ _ _ _ _ j;have e1:=yy (ar4 n m) _ _ _ _ _ _ o;have u:=yy (atP n m) _ _ _ _ _ _ hm
      grind
    grind
   grind
  grind
 grind
def HZ{args:lA}{E:AS}{r:aS}(h:step X (D X) Lw v args E=some r):D X v args E=some r:=by
 have key: ∃n,step X (ic X n) (iter n) v args E=some r:=by
  unfold step at h⊢;split at h
  ·rename_i f first cap
   split at h
   ·simp_all
   ·split at h
    ·rename_i pf c;split at h
     ·cases a:aY X (D X) Lw f false pf.body {env:=cZ (first++args++cap),marks:=[]} {E with lo:=none}with
      |none=>rw[a]at h;cases h
      |some q=>grind [qH]
     grind
    grind
  ·exact aqg h
  grind
 obtain⟨n,b⟩:=key;exact OY (n:=n+1) _ _ _ _ (by trivial)
def O3(b:fo X B av)(c:o7 P X)(d: ∀f p,X.bU f=some p->gb P B av f p):fI P B av (D X):=by
 intro fv args E e h;obtain⟨n,a⟩:=yx h;exact Y5 b c d n fv args E e a
end
def H4:Value->Prop
 |.slice (some a) _ _=>a.spot=none
 |_=>True
section
variable{H:Type}{enc:TypeId×Value->H}{P:Program}{w:World}{sp:Nat->Bool}{held:Bool}
def O4(R:TypeId->DataW H->lA->Prop):List Field->List (DataW H)->lA->Prop
 | [],e,xs=>e=[]/\xs=[]
 |x::r,e,xs=> ∃d c a b,e=d::c/\xs=a++b/\R x.type d a/\O4 R r c b
def gR(P:Program):Nat->TypeId->DataW H->lA->Prop
 |0,_,_,_=>False
 |f+1,t,d,xs=>match P.underlying t with
  |some .bool=> ∃b,d= .lit (.bool b)/\xs=[.bool b]
  |some (.int k)=> ∃n,d= .lit (.int k n)/\xs=[.int k n]/\ (Lit.int k n).wf=true
  |some .string=> ∃s:ByteArray,d= .lit (.string s.data.toList)/\xs=[.str s]/\s.size<=maxLen
  |some (.slice e)=>(d= .nil/\xs=[.ai])\/ ∃ (es rest:List (DataW H)) (af:List lA),d= .slice es rest/\xs=[.sl af false]/\es.length=af.length/\af.length<=maxLen/\
    ∀ (i:Nat) (a:DataW H) (b:lA),es[i]?=some a->af[i]?=some b->b.length=P.cellsOf e/\gR P f e a b
  |some (.struct fs)=> ∃c,d= .agg c/\O4 (gR P f) fs.toList c xs
  |some (.array n e)=> ∃ (c:List (DataW H)) (af:List lA),d= .agg c/\xs=af.flatten/\c.length=n/\af.length=n/\ ∀ (i:Nat) (a:DataW H) (b:lA),c[i]?=some a->af[i]?=some b->gR P f e a b
  |_=>False
def AJ(P:Program)(g:TypeId->Bool):List Field->Nat->Nat->Bool
 | [],off,n=>off==n
 |x::r,off,n=>x.offset==off&&g x.type&&AJ P g r (off+P.cellsOf x.type) n
def AK(P:Program)(nest:Bool):Nat->TypeId->Bool
 |0,_=>false
 |f+1,t=>match P.underlying t with
  |some .bool=>true
  |some (.int _)=>true
  |some .string=>true
  |some (.slice e)=>nest&&AK P nest f e
  |some (.struct fs)=>AJ P (AK P nest f) fs.toList 0 (P.cellsOf t)
  |some (.array n e)=>AK P nest f e&&P.cellsOf t==n*P.cellsOf e
  |_=>false
def Y9(w:World)(b o:Nat):Option Value:=if b<w.heap.size then w.cell? ⟨b,o,none⟩else none
def aqh{b o:Nat}{v:Value}(h:w.cell? ⟨b,o,none⟩=some v):Y9 w b o=some v:=by
 unfold Y9;rw[afJ,h];unfold World.cell? at h
 grind
def Za{a:Addr}(h:a.spot=none)(n:Nat):a.add n=⟨a.block,a.off+n,none⟩:=by
 unfold Addr.add;split
 ·obtain⟨b,o,s⟩:=a;grind
 ·rfl
def aqi{a:Addr}(e:a.spot=none){c:Nat}{cs:List Value}(h:w.cells? 0 (a.add k) c=some cs):cs.length=c/\ ∀ (j:Nat) (v:Value),cs[j]?=some v->w.cell? ⟨a.block,a.off+k+j,none⟩=some v:=by
 have b:=mapM_some_length h;rw[aDn]at b;refine⟨b,λj v d=>?_⟩;have:=mapM_some_get h j j (by grind);rw[d]at this;rw[Za e,Za rfl]at this;omega
def Zb{e:TypeId}{R:DataW H->lA->Prop}{a:Addr}(A:a.spot=none)
  (D: ∀ (cs:List Value) d ps,(∀ (j:Nat) (v:Value),cs[j]?=some v-> ∃o,w.cell? ⟨a.block,o,none⟩=some v)->DataW.trod enc P w 0 sp held n e cs=some (d,ps)-> ∃xs,R d xs/\aD (Gh.start w) xs cs/\Leaves cs/\xs.length=cs.length)
  {es:List (DataW H×List MemPlace)} (len:Nat) (M:len<=es.length)
  (h: ∀i,i<len->(w.cells? 0 (a.add (i*P.cellsOf e)) (P.cellsOf e)).bind (DataW.trod enc P w 0 sp held n e)=es[i]?):
  ∃ (af:List lA) (vs:List Value),af.length=len/\ (∀ (i:Nat) (x:DataW H×List MemPlace) (b:lA),es[i]?=some x->af[i]?=some b->b.length=P.cellsOf e/\R x.1 b)/\aD (Gh.start w) af.flatten vs/\Leaves vs/\vs.length=len*P.cellsOf e/\mY (Gh.start w) a.block a.off vs:=by
 induction len with
 |zero=>exact⟨[],[],rfl,λi x b _ f=>by grind,rfl,λv c=>by grind,by simp,λj v c=>by grind⟩
 |succ m y=>
  obtain⟨af,vs,q,J,I,G,F,E⟩:=y (by omega) (λi p=>h i (by omega));have hm:=h m (awf m);have g:es[m]?=some es[m]:=ag6 (by omega);rw[g,apB]at hm;obtain⟨cs,C,z⟩:=hm;obtain⟨K,r⟩:=aqi A C;obtain⟨xs,u,t,s,L⟩:=D cs es[m].1 es[m].2 (λj v c=>⟨_,r j v c⟩) z;refine⟨af++[xs],vs++cs,by simp[q],λi x b k f=>?_,by rw[apu];simpa using I.append t,G.append s,by simp[F,K,arq],λj v c=>?_⟩
  ·by_cases p:i<af.length
   ·rw[aeT p]at f;exact J i x b k f
   ·have l:=(afA.1 f).1;rw[ahc,ar6]at l;have:i=m:=by omega
    subst this;rw[ahr (by omega),q,Nat.sub_self]at f;simp only[arY,afE]at f;rw[g]at k;cases k;cases f;exact⟨by omega,u⟩
  ·by_cases B:j<vs.length
   ·rw[aeT B]at c;exact E j v c
   ·rw[ahr (by omega)]at c;have:=r _ _ c;have e1:a.off+m*P.cellsOf e+(j-vs.length)=a.off+j:=by omega
    rw[e1]at this;exact aqh this
theorem O5{n:Nat}{R:TypeId->DataW H->lA->Prop}{g:TypeId->Bool}{cs:List Value}
  (m: ∀t c d ps,g t=true->(∀v∈c,v∈cs)->DataW.trod enc P w 0 sp held n t c=some (d,ps)-> ∃xs,R t d xs/\aD (Gh.start w) xs c/\Leaves c/\xs.length=c.length)
  (N:Nat) (s:cs.length=N):
  ∀ (fs:List Field) (ys:List (DataW H×List MemPlace)) (off:Nat),AJ P g fs off N=true->ys.length=fs.length->(∀ (i:Nat) (f:Field),fs[i]?=some f->DataW.trod enc P w 0 sp held n f.type ((cs.drop f.offset).take (P.cellsOf f.type))=ys[i]?)->
    ∃xs,O4 R fs (ys.map (·.1)) xs/\aD (Gh.start w) xs (cs.drop off)/\Leaves (cs.drop off)/\xs.length=(cs.drop off).length
 | [],ys,off,j,k,_=>by
   simp only[AJ,au5]at j;have:cs.drop off=[]:=al6 (by omega);rw[this];cases ys with
   |nil=>exact⟨[],⟨rfl,rfl⟩,rfl,λv l=>by grind,rfl⟩
   |cons _ _=>grind
 |x::r,ys,off,j,k,h=>by
  simp only[AJ,aiL,au5]at j;obtain⟨⟨rfl,q⟩,hr⟩:=j;cases ys with
  |nil=>grind
  |cons y ys=>
   have o:=h 0 x rfl;simp only[arY]at o;obtain⟨a,F,E,D,C⟩:=m x.type _ y.1 y.2 q (λv l=>arc (al8 l)) o;obtain⟨b,B,A,z,u⟩:=O5 m N s r ys (x.offset+P.cellsOf x.type) hr (by simpa using k) (λi f p=>by have:=h (i+1) f p;simpa using this);have e:cs.drop x.offset=(cs.drop x.offset).take (P.cellsOf x.type)++cs.drop (x.offset+P.cellsOf x.type):=by
    rw[<-arv];exact(aqj _ _).symm
   refine⟨a++b,⟨y.1,ys.map (·.1),a,b,rfl,rfl,F,B⟩,?_,?_,?_⟩
   ·rw[e];exact E.append A
   ·rw[e];exact D.append z
   ·rw[e,ahc,ahc,C,u]
def Zc{e:TypeId}{R:DataW H->lA->Prop}{cs:List Value}
  (A: ∀ (c:List Value) d ps,(∀v∈c,v∈cs)->DataW.trod enc P w 0 sp held n e c=some (d,ps)-> ∃xs,R d xs/\aD (Gh.start w) xs c/\Leaves c/\xs.length=c.length)
  {ys:List (DataW H×List MemPlace)} (k:Nat) (z:k*P.cellsOf e<=cs.length) (F:k<=ys.length) (h: ∀i,i<k->DataW.trod enc P w 0 sp held n e ((cs.drop (i*P.cellsOf e)).take (P.cellsOf e))=ys[i]?):
  ∃af:List lA,af.length=k/\ (∀ (i:Nat) (x:DataW H×List MemPlace) (b:lA),ys[i]?=some x->af[i]?=some b->R x.1 b)/\aD (Gh.start w) af.flatten (cs.take (k*P.cellsOf e))/\Leaves (cs.take (k*P.cellsOf e))/\af.flatten.length=k*P.cellsOf e:=by
 induction k with
 |zero=>exact⟨[],rfl,λi x b _ a=>by grind,by simp[aD],λv l=>by grind,by simp⟩
 |succ m y=>
  rw[arq]at z;obtain⟨af,p,E,D,C,B⟩:=y (by omega) (by omega) (λi o=>h i (by omega));have hm:=h m (awf m);have g:ys[m]?=some ys[m]:=ag6 (by omega);rw[g]at hm;obtain⟨xs,u,t,s,r⟩:=A _ ys[m].1 ys[m].2 (λv l=>arc (al8 l)) hm;have f:xs.length=P.cellsOf e:=by rw[r,ai1,ao2];omega
  have q:cs.take ((m+1)*P.cellsOf e)=cs.take (m*P.cellsOf e)++(cs.drop (m*P.cellsOf e)).take (P.cellsOf e):=by rw[arq,List.take_add]
  refine⟨af++[xs],by simp[p],λi x b f a=>?_,by rw[q,apu];simpa using D.append t,by rw[q];exact C.append s,by rw[apu,ahc,B,arq];simp[f]⟩;by_cases o:i<af.length
  ·rw[aeT o]at a;exact E i x b f a
  ·have j:=(afA.1 a).1;rw[ahc,ar6]at j;have:i=m:=by omega
   subst this;rw[ahr (by omega),p,Nat.sub_self]at a;simp only[arY,afE]at a;rw[g]at f;cases f;cases a;exact u
theorem H5{nest:Bool}(G:nest=true-> ∀b o v,w.cell? ⟨b,o,none⟩=some v->H4 v): ∀ (f:Nat) (t:TypeId) (n:Nat) (cs:List Value) (d:DataW H) (ps:List MemPlace),AK P nest f t=true->(nest=true-> ∀v∈cs,H4 v)->
  DataW.trod enc P w 0 sp held n t cs=some (d,ps)-> ∃xs,gR P f t d xs/\aD (Gh.start w) xs cs/\Leaves cs/\xs.length=cs.length
 |0,_,_,_,_,_,hr,_,_=>by trivial
 |f+1,t,n,cs,d,ps,hr,B,h=>by
  unfold AK at hr;unfold gR;cases A:P.underlying t with
  |none=>grind
  |some td=>
   rw[A]at hr;cases td with
   |bool=>
    obtain⟨b,rfl,l⟩:=DataW.trod_bool A h;cases l;exact⟨[.bool b],⟨b,rfl,rfl⟩,aD.single.2 rfl,λv g=>by simp at g;subst g;rfl,rfl⟩
   |int k=>
    obtain⟨b,rfl,l,Q⟩:=DataW.trod_int A h;cases l;exact⟨[.int k b],⟨b,rfl,rfl,Q⟩,aD.single.2 rfl,λv g=>by simp at g;subst g;rfl,rfl⟩
   |string=>
    obtain⟨s,rfl,l,hs⟩:=DataW.trod_string A h;cases l;exact⟨[.str s],⟨s,rfl,rfl,hs⟩,aD.single.2 rfl,λv g=>by simp at g;subst g;rfl,rfl⟩
   |slice e=>
    simp only[aiL]at hr;obtain⟨C,hr⟩:=hr;rcases DataW.trod_slice A h with⟨rfl,l⟩| ⟨a,len,cap,es,rest,m,rfl,rfl,l,_,hlc,Yp,U,T,_,_⟩
    ·cases l;exact⟨[.ai],.inl ⟨rfl,rfl⟩,aD.single.2 rfl,λv g=>by simp at g;subst g;rfl,rfl⟩
    ·cases l;have hs:a.spot=none:=B C _ (List.mem_singleton_self _);obtain⟨af,vs,N,M,L,K,Y,h6⟩:=Zb (R:=gR P f e) hs (λc F p r q=>H5 G f e m c F p hr (λ_ v g=>by
      obtain⟨j,J⟩:=au6.1 g;obtain⟨o,ho⟩:=r j v J;exact G C _ _ _ ho) q) len (by omega) T
     refine⟨[.sl af false],.inr ⟨es.map (·.1),rest.map (·.1),af,rfl,rfl,by simp[U,N],by omega,λi x b l W=>?_⟩,aD.single.2 ?_,λv g=>by simp at g;subst g;rfl,rfl⟩
     ·rw[aiY,ahg]at l;obtain⟨y,O,rfl⟩:=l;exact M i y b O W
     ·refine⟨a.block,a.off,cap,P.cellsOf e,vs,?_,by omega,(λr=>absurd r (by decide)),λel E=>?_,h6,K,bo.iff.2 L⟩
      ·rw[N];obtain⟨b,o,s⟩:=a;simp at hs;subst hs;rfl
      ·obtain⟨j,J⟩:=au6.1 E;have hjl:=(afA.1 J).1;exact(M j es[j] el (ag6 (by omega)) J).1
   |struct fs=>
    obtain⟨ys,m,rfl,l,I,z,u⟩:=DataW.trod_struct A h;cases l;obtain⟨xs,x1,x2,x3,Z⟩:=O5 (R:=gR P f) (cs:=cs) (λt' c F p hg r q=>H5 G f t' m c F p hg (λC v g=>B C v (r v g)) q) _ I fs.toList ys 0 hr (by simpa using z) (λi fl hi=>u i fl (by simpa using hi));exact⟨xs,⟨_,rfl,x1⟩,by simpa using x2,by simpa using x3,by simpa using Z⟩
   |array k e=>
    simp only[aiL,au5]at hr;obtain⟨S,r⟩:=hr;obtain⟨ys,m,rfl,l,I,z,u⟩:=DataW.trod_array A h;cases l;obtain⟨af,N,M,L,K,Y⟩:=Zc (R:=gR P f e) (cs:=cs) (λc F p V q=>H5 G f e m c F p S (λC v g=>B C v (V v g)) q) k (by rw[I,r];exact ahd _) (by omega) u;have D:k*P.cellsOf e=cs.length:=by rw[I,r]
    rw[D,ahn]at L K;exact⟨af.flatten,⟨_,af,rfl,rfl,by simpa using z,N,λi a b X W=>by
     rw[aiY,ahg]at X;obtain⟨y,O,rfl⟩:=X;exact M i y b O W⟩,L,K,by rw[Y,D]⟩
   |_=>cases hr
theorem Zd{W j:World}(g:laidOutB P=true)(i:Below W.heap.size W j): ∀ {ts:List TypeId} {vs:List Value} {e:List (DataW H)} {ps:List MemPlace},(ts.all λt=>P.readableRec t&&decide (t<P.types.size))=true->
  DataW.TrodAll enc P W 0 (λ_=>true) true ts vs e ps->(∀x∈ps,x.block<W.heap.size)->DataW.TrodAll enc P j 0 (λb=>decide (b<W.heap.size)) true ts vs e ps
 | [],[],[],_,_,h,_=>h
 |t::ts,v::vs,d::e,ps,c,h,f=>by
  simp only[ax9,aiL,amT]at c;obtain⟨p,q,l,k,rfl⟩:=h;exact⟨p,q,Below.trod g c.1.1 c.1.2 l i (λx a=>f x (List.mem_append_left _ a)),Zd g i (by grind) k (λx a=>f x (List.mem_append_right _ a)),rfl⟩
 | [],[],_::_,_,_,h,_=>h.elim
 | [],_::_,_,_,_,h,_=>h.elim
 |_::_,[],_,_,_,h,_=>h.elim
 |_::_,_::_,[],_,_,h,_=>h.elim
end
def aql{P:Program}{X:Ctx}(n:fo X w.heap.size w)(r:o7 P X)(s: ∀f p,X.bU f=some p->gb P w.heap.size w f p){fn:Func}(j:P.funcs[f]?=some fn)(q:fn.body.isSome=true)
  (d: (fn.name== "runtime.NumGoroutine")=false) {args:lA} {a:Array Value} (m:aD (Gh.start w) args a.toList)  {l:AS} (h:D X (.fn (.func f) [] []) args ⟨[],none⟩=some (.ret v l)):
  Calls P f a w λe w'=> ∃G v',e= .returned v'/\an G v v'/\Below w.heap.size w w':=by
 have k:=O3 n r s _ _ _ _ h (Gh.start w) w (.func (.func f) #[] #[]) a (.start w) ⟨_,_,_,rfl,rfl,rfl,rfl⟩ m;have b: (we (.func (.func f) #[] #[]) a).run P w= .ok (.enter f a) w:=by
  have g: ¬fn.name= "runtime.NumGoroutine" :=by grind
  obtain⟨c,o⟩:=aum.1 q;simp[we,Deferred.ofValue,invoke,callFunc,ar0,j,g,o]
 rw[b]at k;have i:CallsIn Fence.wide 0 P f a w (Ends P w.heap.size w (Gh.start w) {heap:=[],lo:=none} (.ret v l)):=k;refine callsIn_wide.1 (i.mono λe w' he=>?_);cases e with
 |returned v'=>
  obtain⟨x,y,u,t,_⟩:=he;exact⟨x,v',rfl,t,u.lP⟩
 |panicked _=>trivial
 |outgrown=>trivial
section
abbrev bQ:=Ex->Fr->AS->Prop
variable(X:Ctx)
def wp(f:FuncId)(rd:Bool)(c:PC)(fr:Fr)(E:AS)(Q:bQ):Prop:=
 ∃ex a b,aY X (D X) Lw f rd c fr E=some (ex,a,b)/\Q ex a b
def dn(os:List aO)(fr:Fr)(E:AS)(Q:bQ):Prop:=
 ∃ex a b,eF X (D X) os fr E=some (ex,a,b)/\Q ex a b
def gn(b:List FP)(os:List (aO×lN))(fr:Fr)(E:AS)(Q:bQ):Prop:=
 ∃ex a c,fZ X (D X) b os fr E=some (ex,a,c)/\Q ex a c
def qI(K Kp:AV->AS->Prop):Option Out->Prop
 |some (.ok v E)=>K v E
 |some (.panic v E)=>Kp v E
 |none=>False
def aP(i:I)(e:Env)(E:AS)(K Kp:AV->AS->Prop):Prop:=qI K Kp (exec X (D X) i e E)
def DN(f:FuncId)(rd:Bool)(b:PC)(Q:bQ):bQ
 |.normal,fr,E=>wp X f rd b fr E Q
 |ex,fr,E=>Q ex fr E
def yz(id:Nat)(Q:bQ):bQ
 |.exit i,fr,E=>if i=id then Q .normal fr E else Q (.exit i) fr E
 |ex,fr,E=>Q ex fr E
def H6(K Kp:AV->AS->Prop):Option aS->Prop
 |some (.ret v E)=>K v E
 |some (.panic v E)=>Kp v E
 |none=>False
def dp(n:Nat)(lo:oN)(b:List RV)(R:aS->Prop):bQ
 |.normal,fr,E|.ret,fr,E=> ∃a v,dA E fr.marks=some a/\fk X a fr.env b=some v/\R (.ret (finish n lo v a).1 (finish n lo v a).2)
 |.panic v,fr,E=> ∃a,dA E fr.marks=some a/\R (.panic (finish n lo v a).1 (finish n lo v a).2)
 |.exit _,_,_=>False
def H7(c:AV)(b:Bool)(A B:Prop):Prop:=
 match c with
 |.bool t=>(t=b->A)/\ (t=(!b)->B)
 |_=>False
variable{X}{f:FuncId}{rd:Bool}{fr:Fr}{E:AS}{Q:bQ}{e:Env}{ms:lN}{K Kp:AV->AS->Prop}
theorem aDb{a:Ex}{b:Fr}{c:AS}: (∃ex d g,(some (a,b,c):jd)=some (ex,d,g)/\Q ex d g)↔Q a b c:=
 by grind
def yA(c:AV)(b:Bool)(A B C:Prop):Prop:=
 match c with
 |.bool t=>(t=b->A)/\ (t=(!b)->B)
 |_=>C
theorem wp_skip:wp X f rd .skip fr E Q=Q .normal fr E:=propext (by simp only[wp,aY];grind)
theorem wp_exit{id:Nat}:wp X f rd (.exit id) fr E Q=Q (.exit id) fr E:=propext (by simp only[wp,aY];grind)
theorem wp_ret:wp X f rd .ret fr E Q=Q .ret fr E:=propext (by simp only[wp,aY];grind)
def wp_seq{a:PC}:wp X f rd (.seq a b) fr E Q=wp X f rd a fr E (DN X f rd b Q):=by
 apply propext;simp only[wp,aY];constructor
 ·rintro⟨ex,d,j,h,c⟩;split at h
  ·rename_i g i k;exact⟨_,_,_,k,ex,d,j,h,c⟩
  ·refine⟨_,_,_,h,?_⟩;cases ex with
   |normal=>grind
   |_=>exact c
 ·rintro⟨ex,d,j,h,c⟩;rw[h];cases ex with
  |normal=>exact c
  |exit _=>exact⟨_,_,_,rfl,c⟩
  |ret=>exact⟨_,_,_,rfl,c⟩
  |panic _=>exact⟨_,_,_,rfl,c⟩
def wp_block{id:Nat}:wp X f rd (.block id b) fr E Q=wp X f rd b fr E (yz id Q):=by
 apply propext;simp only[wp,aY];constructor
 ·rintro⟨ex,c,d,h,a⟩;split at h
  ·simp only[yz]
   grind
  ·refine⟨_,_,_,h,?_⟩;cases ex with
   |exit i=>grind
   |_=>exact a
 ·rintro⟨ex,c,d,h,a⟩;rw[h];cases ex with
  |normal=>exact⟨_,_,_,rfl,a⟩
  |exit i=>
   simp only[yz]at a
   grind
  |ret=>exact⟨_,_,_,rfl,a⟩
  |panic _=>exact⟨_,_,_,rfl,a⟩
def wp_cond{c:ao}{a:PC}:wp X f rd (.cond c a b) fr E Q=H7 (c.get fr.env) true (wp X f rd a fr E Q) (wp X f rd b fr E Q):=by
 apply propext;simp only[wp,aY,H7];constructor
 ·grind
 ·intro h;cases d:c.get fr.env<;>rw[d]at h<;>simp only at h<;>try rfl
  rename_i t;cases t
  ·grind
  grind
theorem O6{os:List aO}:wp X f rd (.aL os) fr E Q=dn X os fr E Q:=by rfl
theorem aqm{os:List (aO×lN)}:wp X f rd (.uq os) fr E Q=gn X [] (gQ E.heap.length os) fr (E.ml (ds os)) Q:=by rfl
def wp_loop{S:Type}(I:S->Fr->AS->Prop)(μ:S->Nat)(s:S)(j:I s fr E)
  (i: ∀s fr E,I s fr E->wp X f rd b fr E (λex a c=>match ex with|.normal=> ∃d,μ d<μ s/\I d a c|ex=>Q ex a c)):wp X f rd (.loop b) fr E Q:=by
 have key: ∀n s fr E,μ s<n->I s fr E-> ∃ex a c,Lw (aY X (D X) Lw f rd b) fr E=some (ex,a,c)/\Q ex a c:=by
  intro n
  induction n with
  |zero=>simp
  |succ n k=>
   intro s fr E l h;obtain⟨ex,a,c,hr,g⟩:=i s fr E h;rw[aqf,hr]
   grind
 obtain⟨ex,a,c,hr,g⟩:=key _ s fr E (awf _) j;exact⟨ex,a,c,by trivial,g⟩
def wp_mono{c:PC}{d:bQ}(h:wp X f rd c fr E Q)(g: ∀ex fr E,Q ex fr E->d ex fr E):wp X f rd c fr E d:=by
 obtain⟨ex,b,i,hr,a⟩:=h;exact⟨ex,b,i,hr,g _ _ _ a⟩
theorem Ze:DN X f rd b Q .normal fr E=wp X f rd b fr E Q:=rfl
theorem Zf:DN X f rd b Q (.exit i) fr E=Q (.exit i) fr E:=rfl
theorem Zg:DN X f rd b Q .ret fr E=Q .ret fr E:=rfl
theorem Zh:DN X f rd b Q (.panic v) fr E=Q (.panic v) fr E:=rfl
theorem Zi{id:Nat}:yz id Q .normal fr E=Q .normal fr E:=rfl
theorem Zj{id:Nat}:yz id Q (.exit i) fr E=if i=id then Q .normal fr E else Q (.exit i) fr E:=rfl
theorem Zk{id:Nat}:yz id Q .ret fr E=Q .ret fr E:=rfl
theorem Zl{id:Nat}:yz id Q (.panic v) fr E=Q (.panic v) fr E:=rfl
theorem wm{b:List RV}{R:aS->Prop}:dp X n lo b R .ret fr E= ∃a v,dA E fr.marks=some a/\fk X a fr.env b=some v/\R (.ret (finish n lo v a).1 (finish n lo v a).2):=rfl
theorem H8{t b:Bool}{A B:Prop}:H7 (.bool t) b A B=((t=b->A)/\ (t=(!b)->B)):=rfl
theorem Zm:H6 K Kp (some (.ret v E))=K v E:=rfl
theorem Zn:H6 K Kp (some (.panic v E))=Kp v E:=rfl
theorem Zo:dn X [] fr E Q=Q .normal fr E:=propext (by simp only[dn,eF];grind)
theorem Fr.Zp{d:Nat}:Fr.put ⟨e,ms⟩ (some d) v=⟨e.set d v,ms⟩:=rfl
theorem Fr.Zq:Fr.put ⟨e,ms⟩ none v=⟨e,ms⟩:=rfl
def O7{i:I}{os:List aO}:dn X (⟨none,d,i⟩::os) fr E Q=aP X i fr.env E (λv a=>dn X os (fr.put d v) a Q) (λv a=>Q (.panic v) fr a):=by
 simp only[dn,aP,eF,fL,aiZ];cases b:exec X (D X) i fr.env E with
 |none=>simp[qI]
 |some o=>
  cases o with
  |ok v a=>rfl
  |panic v a=>simp only[qI];grind
def Env.O8{e:Env}:e.set t (e t)=e:=by
 unfold Env.set;grind
def Zr{b:Bool}{i:I}{os:List aO}:dn X (⟨some (t,b),d,i⟩::os) ⟨e,ms⟩ E Q=
  yA (e t) b (aP X i (e.set t (.bool b)) E (λv l=>dn X os (Fr.put ⟨e.set t (.bool b),ms⟩ d v) l Q) (λv l=>Q (.panic v) ⟨e.set t (.bool b),ms⟩ l))
   (dn X os (Fr.put ⟨e.set t (.bool (!b)),ms⟩ d .undef) E Q) (dn X os (Fr.put ⟨e,ms⟩ d .undef) E Q):=by
 cases g:e t with
 |bool c=>
  have p:c=b->dn X (⟨some (t,b),d,i⟩::os) ⟨e,ms⟩ E Q=dn X (⟨none,d,i⟩::os) ⟨e,ms⟩ E Q:=by
   intro h;subst h;simp only[dn,eF,fL,g,beq_self_eq_true,aiZ]
  have o:c=(!b)->dn X (⟨some (t,b),d,i⟩::os) ⟨e,ms⟩ E Q=dn X os (Fr.put ⟨e,ms⟩ d .undef) E Q:=by
   intro h;subst h;have: ((!b)==b)=false:=by simp
   simp only[dn,eF,fL,g,this,ahf,amJ]
  have m:e.set t (.bool c)=e:=by rw[<-g];exact Env.O8
  apply propext;simp only[yA];by_cases j:c=b
  ·have n: ¬c=(!b):=by subst j;cases c<;>simp
   rw[p j,O7];subst j;rw[m];exact⟨λh=>⟨λ_=>h,λk=>absurd k n⟩,λh=>h.1 rfl⟩
  ·have a:c=(!b):=by cases c<;>cases b<;>simp_all
   rw[o a,<-a,m];exact⟨λh=>⟨λk=>absurd k j,λ_=>h⟩,λh=>h.2 rfl⟩
 |_=>simp only[dn,eF,fL,g,yA,ahf,amJ]
theorem O9{f:FuncId}{first cap args:lA}{H:List ae}{R:aS->Prop}(j:X.bU f=none)(l:X.code f=some pf)(m: (first++args++cap).length<=pf.ntmps)
  (h:wp X f false pf.body ⟨cZ (first++args++cap),[]⟩ ⟨H,none⟩ (dp X H.length lo pf.results R)): ∃b,D X (.fn (.func f) first cap) args ⟨H,lo⟩=some b/\R b:=by
 obtain⟨ex,fr,E,hr,g⟩:=h;have key: ∀b,leave X H.length lo pf (some (ex,fr,E))=some b->D X (.fn (.func f) first cap) args ⟨H,lo⟩=some b:=by
  intro b k;refine HZ ?_;simp only[step,j,l]
  grind
 cases ex with
 |normal=>obtain⟨a,v,d,i,c⟩:=g;exact⟨_,key _ (by simp only[leave,qA,d,i]),c⟩
 |ret=>obtain⟨a,v,d,i,c⟩:=g;exact⟨_,key _ (by simp only[leave,qA,d,i]),c⟩
 |panic v=>obtain⟨a,d,c⟩:=g;exact⟨_,key _ (by simp only[leave,d]),c⟩
 |exit _=>trivial
theorem Zs{f:FuncId}{first cap args:lA}{H:List ae}{a:aS}(b:X.bU f=none)(d:X.code f=some pf)(c: (first++args++cap).length<=pf.ntmps)
 (h:wp X f false pf.body ⟨cZ (first++args++cap),[]⟩ ⟨H,none⟩ (dp X H.length lo pf.results (· =a))):D X (.fn (.func f) first cap) args ⟨H,lo⟩=some a:=by grind [O9]
end
section
variable{X:Ctx}{f:FuncId}{rd:Bool}{fr:Fr}{E:AS}{Q:bQ}{e:Env}{ms:lN}{K Kp:AV->AS->Prop}
def cP{α:Type}(r:Option α)(K:α->Prop):Prop:=
 match r with
 |some a=>K a
 |none=>False
def Zt{g:ao}{as:List ao}:aP X (.call g as) e E K Kp=H6 K Kp (D X (g.get e) (as.map (·.get e)) E):=by
 simp only[aP,exec];cases D X (g.get e) (as.map (·.get e)) E with
 |none=>rfl
 |some r=>cases r<;>rfl
def jg{r:Option AV}:qI K Kp (fH E r)=cP r (λv=>K v E):=by cases r<;>rfl
def k5(c:BinOp)(x y:AV):Option AV:=match x,y with
 |.int k a,.int _ b=>v8 c k a b
 |_,_=>none
theorem aDc:aP X (.mov x) e E K Kp=(K (x.get e) E):=by
 rfl
def aqn{c:ao}{a:ao}{b:ao}:aP X (.pick c a b) e E K Kp=(cP (match c.get e with|.bool t=>some t|_=>none) λt=>K (if t then a.get e else b.get e) E):=by
 simp only[aP,exec];cases c.get e<;>rfl
theorem aDd:aP X (.alloc z tg) e E K Kp=(K (.ptr E.heap.length 0) (E.push (.box z tg))):=by
 rfl
def aqo:aP X (.box x tg) e E K Kp=(((x.get e).cb=false/\K (.ptr E.heap.length 0) (E.push (.box (x.get e).cells tg)))):=by
 simp only[aP,exec];cases h: (x.get e).cb<;>simp[qI]
def aqp{a:List (Nat×Nat×ao)}:aP X (.build z a) e E K Kp=(cP (ea z (a.map λp=>(p.1,p.2.1,p.2.2.get e))) λcs=>K (.agg cs) E):=by
 simp only[aP,exec];cases ea z (a.map λp=>(p.1,p.2.1,p.2.2.get e))<;>rfl
def aqq{len:Nat}{a:List (Nat×Nat×ao)}:aP X (.bslice z len a) e E K Kp=(cP (ea (List.replicate len z).flatten (a.map λp=>(p.1,p.2.1,p.2.2.get e))) λcs=>K (.sl (chunks z.length len cs) true) E):=by
 simp only[aP,exec];cases ea (List.replicate len z).flatten (a.map λp=>(p.1,p.2.1,p.2.2.get e))<;>rfl
def aqr{ty:TypeId}{len:Nat}{a:List (Nat×Nat×ao)}:aP X (.rT ty z len a) e E K Kp=(cP (ea (List.replicate len z).flatten (a.map λp=>(p.1,p.2.1,p.2.2.get e))) λcs=>K (.ref E.heap.length 0 z.length 0 len false) (E.push (.row 0 z.length ty (chunks z.length len cs)))):=by
 simp only[aP,exec];cases ea (List.replicate len z).flatten (a.map λp=>(p.1,p.2.1,p.2.2.get e))<;>rfl
theorem aqs{agg:Bool}{a:ao}:aP X (.load agg n a) e E K Kp=(cP (cg X E agg n (a.get e)) λv=>K v E):=by
 simp only[aP,exec,jg]
theorem aqt{a:ao}{v:ao}:aP X (.store n a v) e E K Kp=(cP (kR E n (a.get e) (v.get e)) λb=>K .undef b):=by
 simp only[aP,exec];cases kR E n (a.get e) (v.get e)<;>rfl
theorem aqu:aP X (.nilck x) e E K Kp=(cP (wb (x.get e)) λv=>K v E):=by
 simp only[aP,exec,jg]
theorem aqv{a:BinOp}:aP X (.bin a x y) e E K Kp=(cP (dh a (x.get e) (y.get e)) λv=>K v E):=by
 simp only[aP,exec,jg]
theorem aqw{a:BinOp}:aP X (.shf a x y) e E K Kp=(cP (k5 a (x.get e) (y.get e)) λv=>K v E):=by
 simp only[aP,exec,k5];cases x.get e<;>first|rfl| (cases y.get e<;>first|rfl|exact jg)
def aqx{k:EK}:aP X (.eq k x y) e E K Kp=(cP (ed k (x.get e) (y.get e)) λb=>K (.bool b) E):=by
 simp only[aP,exec];cases ed k (x.get e) (y.get e)<;>rfl
def aqy{k:EK}:aP X (.ne k x y) e E K Kp=(cP (ed k (x.get e) (y.get e)) λb=>K (.bool !b) E):=by
 simp only[aP,exec];cases ed k (x.get e) (y.get e)<;>rfl
theorem aqz{a:UnOp}:aP X (.un a x) e E K Kp=(cP (xY a (x.get e)) λv=>K v E):=by
 simp only[aP,exec,jg]
def aqA{k:IntKind}:aP X (.conv k x) e E K Kp=(cP (rU (x.get e)) λn=>K (.int k (k.wrap n)) E):=by
 simp only[aP,exec];cases x.get e<;>rfl
def aqB:aP X (.s2b x) e E K Kp=(cP (match x.get e with|.str s=>if s.size<=room then some s else none|_=>none) λs=>K (.sl (rV s) false) E):=by
 simp only[aP,exec];cases x.get e<;>first|rfl| (simp only[];split<;>rfl)
theorem aDe{t:TypeId}:aP X (.mki t x) e E K Kp=(K (.c9 t (x.get e)) E):=by
 rfl
theorem aDf{f:Fn}{first:List ao}{cap:List ao}:aP X (.mkf f first cap) e E K Kp=(K (.fn f (first.map (·.get e)) (cap.map (·.get e))) E):=by
 rfl
theorem aDg:aP X (.nS) e E K Kp=(K (.mp E.heap.length) (E.push (.map []))):=by
 rfl
theorem aqC{lo:Option ao}{a:Option ao}:aP X (.slstr x lo a) e E K Kp=(cP (ur (x.get e) (lo.map (·.get e)) (a.map (·.get e))) λv=>K v E):=by
 simp only[aP,exec,jg]
theorem aqD{lo:Option ao}{b:Option ao}{a:Option ao}:aP X (.slsl n x lo b a) e E K Kp=(cP (fX n (x.get e) (lo.map (·.get e)) (b.map (·.get e)) (a.map (·.get e))) λv=>K v E):=by
 simp only[aP,exec,jg]
theorem aqE{lo:Option ao}{a:Option ao}:aP X (.slarr n sz x lo a) e E K Kp=(cP (qx X n sz (x.get e) (lo.map (·.get e)) (a.map (·.get e))) λv=>K v E):=by
 simp only[aP,exec,jg]
theorem aqF:aP X (.faddr n x) e E K Kp=(cP (rY X n (x.get e)) λv=>K v E):=by
 simp only[aP,exec,jg]
def aqG{agg:Bool}{off:Nat}:aP X (.fld agg n off x) e E K Kp=(cP (match x.get e with|.agg cs=>part agg n cs off|_=>none) λv=>K v E):=by
 simp only[aP,exec];cases x.get e<;>first|rfl|exact jg
theorem aqH{i:ao}:aP X (.iaddra n sz x i) e E K Kp=(cP (uu X n sz (x.get e) (i.get e)) λv=>K v E):=by
 simp only[aP,exec,jg]
theorem aqI{i:ao}:aP X (.iaddrs sz x i) e E K Kp=(cP (jY sz (x.get e) (i.get e)) λv=>K v E):=by
 simp only[aP,exec,jg]
theorem aqJ{agg:Bool}{i:ao}:aP X (.idxa agg n sz x i) e E K Kp=(cP (qz agg n sz (x.get e) (i.get e)) λv=>K v E):=by
 simp only[aP,exec,jg]
theorem aqK{i:ao}:aP X (.idxs x i) e E K Kp=(cP (xZ (x.get e) (i.get e)) λv=>K v E):=by
 simp only[aP,exec,jg]
theorem aqL{b:EK}{z:AV}{m:ao}{k:ao}{a:Bool}:aP X (.lookup b z m k a) e E K Kp=(cP (gP X.fb E b z (m.get e) (k.get e) a) λv=>K v E):=by
 simp only[aP,exec,jg]
theorem aqM{a:EK}{m:ao}{k:ao}{v:ao}:aP X (.oW a m k v) e E K Kp=(cP (mj E a (m.get e) (k.get e) (v.get e)) λb=>K .undef b):=by
 simp only[aP,exec];cases mj E a (m.get e) (k.get e) (v.get e)<;>rfl
theorem aqN{z:AV}{t:TypeId}{a:Bool}:aP X (.ta z x t a) e E K Kp=(cP (Ai z (x.get e) t a) λv=>K v E):=by
 simp only[aP,exec,jg]
def aqO:aP X (.ext x i) e E K Kp=(cP (match x.get e with|.au vs=>vs[i]?|_=>none) λv=>K v E):=by
 simp only[aP,exec];cases x.get e<;>first|rfl|exact jg
theorem aqP{k:EK}:aP X (.len k x) e E K Kp=(cP (fj E k (x.get e)) λv=>K v E):=by
 simp only[aP,exec,jg]
def aqQ{ty:TypeId}{bytes:Nat}{s:ao}:aP X (.append ty sz bytes s x) e E K Kp=(cP (elems E sz (x.get e)) λys=>cP (dx E ty sz bytes (s.get e) ys) λp=>K p.1 p.2):=by
 simp only[aP,exec];cases elems E sz (x.get e)with
 |none=>rfl
 |some ys=>simp only[cP];cases dx E ty sz bytes (s.get e) ys<;>rfl
theorem aqR{d:ao}{s:ao}:aP X (.copy sz d s) e E K Kp=(cP (rW E sz (d.get e) (s.get e)) λp=>K p.1 p.2):=by
 simp only[aP,exec];cases rW E sz (d.get e) (s.get e)<;>rfl
theorem aqS:aP X (.clear z x) e E K Kp=(cP (rX E z (x.get e)) λa=>K .undef a):=by
 simp only[aP,exec];cases rX E z (x.get e)<;>rfl
theorem aqT{xs:List ao}:aP X (.max xs) e E K Kp=(cP (fY qy (xs.map (·.get e))) λv=>K v E):=by
 simp only[aP,exec,jg]
theorem aqU{xs:List ao}:aP X (.min xs) e E K Kp=(cP (fY wa (xs.map (·.get e))) λv=>K v E):=by
 simp only[aP,exec,jg]
def aqV:aP X (.panic x) e E K Kp=(cP (match x.get e with|.c9 t v=>some (AV.c9 t v)|_=>none) λv=>Kp v E):=by
 simp only[aP,exec];cases x.get e<;>rfl
def H9(b:Bool)(v:AV)(e:Env)(t:Nat):AV:=match b with|true=>v|false=>e t
theorem Zu:H9 true v e t=v:=rfl
theorem Zv:H9 false v e t=e t:=rfl
def Zw{d:Nat}: (e.set d v) t=H9 (d==t) v e t:=by
 unfold Env.set H9
 grind
theorem Ia{t b:Bool}{A B C:Prop}:yA (.bool t) b A B C=((t=b->A)/\ (t=(!b)->B)):=rfl
theorem push_mk{H:List ae}{o:ae}:AS.push ⟨H,lo⟩ o=⟨H++[o],lo⟩:=rfl
theorem set_mk{H:List ae}{id:Nat}{o:ae}:AS.set ⟨H,lo⟩ id o r=⟨H.set id o,if r<=id+1 then lo else cA lo id⟩:=rfl
end
section
variable{H L:List ae}{n k:Nat}
def di(h:H.length=n): (H++L)[n]?=L[0]?:=by grind
def bA(h:H.length=n): (H++L)[n+k]?=L[k]?:=by grind
theorem DO{o:ae}(h:H.length=n): (H++L).set n o=H++L.set 0 o:=by grind
theorem mZ{o:ae}(h:H.length=n): (H++L).set (n+k) o=H++L.set k o:=by grind
def mr(h:H.length=n): (H++L).take n=H:=by grind
end
def Ib{v':AV}{H:List ae}(a: (match ak with|none=>true|some j=>decide (n<=j))=true)(b:freeze ⟨H,ak⟩ n 12 v=some v'):finish n lo v ⟨H,ak⟩=(v',⟨H.take n,lo⟩):=by
 cases ak with
 |none=>simp[finish,b]
 |some j=>simp[finish,a,b]
def yB{E:AS}(h:v.refs<=n):freeze E n (k+1) v=some v:=by
 unfold freeze;grind
theorem Zx{H:List ae}(a: (match ak with|none=>true|some j=>decide (n<=j))=true)(b:v.refs<=n):finish n lo v ⟨H,ak⟩=(v,⟨H.take n,lo⟩):=
 Ib a (yB b)
def wrap_i64{n:Int}(h: -9223372036854775808<=n)(a:n<=9223372036854775807):IntKind.wrap .i64 n=n:=by
 unfold IntKind.wrap IntKind.bits IntKind.signed;grind
def wrap_u64{n:Int}(h:0<=n)(a:n<=18446744073709551615):IntKind.wrap .u64 n=n:=by
 unfold IntKind.wrap IntKind.bits IntKind.signed;grind
def wrap_u32{n:Int}(h:0<=n)(a:n<=4294967295):IntKind.wrap .u32 n=n:=by
 unfold IntKind.wrap IntKind.bits IntKind.signed;grind
def wrap_i32{n:Int}(h: -2147483648<=n)(a:n<=2147483647):IntKind.wrap .i32 n=n:=by
 unfold IntKind.wrap IntKind.bits IntKind.signed;grind
def wrap_u16{n:Int}(h:0<=n)(a:n<=65535):IntKind.wrap .u16 n=n:=by
 unfold IntKind.wrap IntKind.bits IntKind.signed;grind
def wrap_u8{n:Int}(h:0<=n)(a:n<=255):IntKind.wrap .u8 n=n:=by
 unfold IntKind.wrap IntKind.bits IntKind.signed;grind
def S(l:lB):AV:=.str ⟨l.toArray⟩
theorem aqW(l:lB): (⟨l.toArray⟩:ByteArray).size=l.length:=by rfl
def o(d:Nat)(i:I):aO:=⟨none,some d,i⟩
def u(i:I):aO:=⟨none,none,i⟩
def gt(t:Nat)(d:oN)(i:I):aO:=⟨some (t,true),d,i⟩
def gf(t:Nat)(d:oN)(i:I):aO:=⟨some (t,false),d,i⟩
def ci(n:Int):ao:=.c (.int .i64 n)
def cf(f:Nat):ao:=.c (.fn (.func f) [] [])
def eO(P:Program)(f:Nat)(pf:PF):Prop:= ∃rows fn,P.funcs[f]?=some fn/\Df P rows fn=some pf
section
variable{X:Ctx}{f:FuncId}{rd:Bool}{fr:Fr}{E:AS}{Q:bQ}{e:Env}{ms:lN}{K Kp:AV->AS->Prop}
theorem aqX{i:I}{os:List aO}:dn X (gt t d i::os) ⟨e,ms⟩ E Q=
 yA (e t) true (aP X i (e.set t (.bool true)) E (λv a=>dn X os (Fr.put ⟨e.set t (.bool true),ms⟩ d v) a Q) (λv a=>Q (.panic v) ⟨e.set t (.bool true),ms⟩ a))
  (dn X os (Fr.put ⟨e.set t (.bool false),ms⟩ d .undef) E Q) (dn X os (Fr.put ⟨e,ms⟩ d .undef) E Q):=Zr
theorem aqY{i:I}{os:List aO}:dn X (gf t d i::os) ⟨e,ms⟩ E Q=
 yA (e t) false (aP X i (e.set t (.bool false)) E (λv a=>dn X os (Fr.put ⟨e.set t (.bool false),ms⟩ d v) a Q) (λv a=>Q (.panic v) ⟨e.set t (.bool false),ms⟩ a))
  (dn X os (Fr.put ⟨e.set t (.bool true),ms⟩ d .undef) E Q) (dn X os (Fr.put ⟨e,ms⟩ d .undef) E Q):=Zr
end
theorem Zy:ao.get e (.t i)=e i:=rfl
theorem ZA:ao.get e (.c v)=v:=rfl
theorem ZB{n:Int}:ao.get e (ci n)= .int .i64 n:=rfl
theorem ZC{f:Nat}:ao.get e (cf f)= .fn (.func f) [] []:=rfl
def Pa{X:Ctx}(pf:PF){args:lA}{H:List ae}{a:aS}(b:X.bU f=none)(g:X.code f=some pf)(c:Nat.ble args.length pf.ntmps=true)
 (h: ∀n,H.length=n->wp X f false pf.body ⟨cZ args,[]⟩ ⟨H,none⟩ (dp X n lo pf.results (· =a))):D X (.fn (.func f) [] []) args ⟨H,lo⟩=some a:=by grind [Nat.le_of_ble_eq_true,Zs]
def aqZ{X:Ctx}(pf:PF){args:lA}{H:List ae}{R:aS->Prop}(b:X.bU f=none)(g:X.code f=some pf)(c:Nat.ble args.length pf.ntmps=true)
 (h: ∀n,H.length=n->wp X f false pf.body ⟨cZ args,[]⟩ ⟨H,none⟩ (dp X n lo pf.results R)): ∃a,D X (.fn (.func f) [] []) args ⟨H,lo⟩=some a/\R a:=by simp_all[arF,O9]
theorem ZD{X:Ctx}{E:AS}:fk X E e [.t t]=some (e t):=rfl
theorem aq0{X:Ctx}{E:AS}{u:Nat}:fk X E e [.t t,.t u]=some (.au [e t,e u]):=rfl
theorem aq1{X:Ctx}{E:AS}{u v:Nat}:fk X E e [.t t,.t u,.t v]=some (.au [e t,e u,e v]):=rfl
theorem wo{E:AS}:dA E []=some E:=rfl
def DP(x:AV)(i:Nat):Option AV:=match x with|.au vs=>vs[i]?|_=>none
def ZE(agg:Bool)(n off:Nat)(x:AV):Option AV:=match x with|.agg cs=>part agg n cs off|_=>none
def qJ(E:AS)(x:AV)(tg:Option TypeId):Option (AV×AS):=if x.cb=false then some (.ptr E.heap.length 0,E.push (.box x.cells tg))else none
def Pb(z:lA)(a:List (Nat×Nat×AV)):Option AV:=(ea z a).map .agg
def Pc(z:lA)(len:Nat)(a:List (Nat×Nat×AV)):Option AV:=(ea (List.replicate len z).flatten a).map λcs=>.sl (chunks z.length len cs) true
def Pd(E:AS)(ty:TypeId)(z:lA)(len:Nat)(a:List (Nat×Nat×AV)):Option (AV×AS):=
 (ea (List.replicate len z).flatten a).map λcs=>(.ref E.heap.length 0 z.length 0 len false,E.push (.row 0 z.length ty (chunks z.length len cs)))
def ZF(x:AV):Option AV:=match x with|.c9 t v=>some (.c9 t v)|_=>none
def Ic(x:AV):Option AV:=match x with|.str s=>if s.size<=room then some (.sl (rV s) false)else none|_=>none
section
variable(X:Ctx)
def kV(os:List aO)(d:Nat)(e:Env)(ms:lN)(Q:bQ):AV->AS->Prop:=λv E=>dn X os ⟨e.set d v,ms⟩ E Q
def kU(os:List aO)(e:Env)(ms:lN)(Q:bQ):AV->AS->Prop:=λ_ E=>dn X os ⟨e,ms⟩ E Q
def kP(e:Env)(ms:lN)(Q:bQ):AV->AS->Prop:=λv E=>Q (.panic v) ⟨e,ms⟩ E
def okV(r:Option AV)(K:AV->AS->Prop)(E:AS):Prop:=match r with|some v=>K v E|none=>False
def wq(r:Option AS)(K:AV->AS->Prop):Prop:=match r with|some E=>K .undef E|none=>False
def uH(r:Option (AV×AS))(K:AV->AS->Prop):Prop:=match r with|some p=>K p.1 p.2|none=>False
def okB(r:Option Bool)(a:Bool)(K:AV->AS->Prop)(E:AS):Prop:=match r with|some b=>K (.bool (if a then !b else b)) E|none=>False
def ZG(k:IntKind)(x:AV)(K:AV->AS->Prop)(E:AS):Prop:=match x with|.int _ n=>K (.int k (k.wrap n)) E|_=>False
def Pe(c a b:AV)(K:AV->AS->Prop)(E:AS):Prop:=match c with|.bool t=>K (if t then a else b) E|_=>False
def ZH(r:Option (List lA))(ty:TypeId)(sz bytes:Nat)(s:AV)(K:AV->AS->Prop)(E:AS):Prop:=match r with|some ys=>uH (dx E ty sz bytes s ys) K|none=>False
def od(f:FuncId)(rd:Bool)(a b:PC)(fr:Fr)(E:AS)(Q:bQ)(c:AV):Prop:=H7 c true (wp X f rd a fr E Q) (wp X f rd b fr E Q)
def gK(t:Nat)(b:Bool)(d:oN)(i:I)(os:List aO)(e:Env)(ms:lN)(E:AS)(Q:bQ)(c:AV):Prop:=
 yA c b (aP X i (e.set t (.bool b)) E (match d with|some d=>kV X os d (e.set t (.bool b)) ms Q|none=>kU X os (e.set t (.bool b)) ms Q) (kP (e.set t (.bool b)) ms Q))
  (dn X os (Fr.put ⟨e.set t (.bool (!b)),ms⟩ d .undef) E Q) (dn X os (Fr.put ⟨e,ms⟩ d .undef) E Q)
end
section
variable{X:Ctx}{f:FuncId}{rd:Bool}{fr:Fr}{E:AS}{Q:bQ}{e:Env}{ms:lN}{K Kp:AV->AS->Prop}{t:Nat}{d:oN}{i:I}{os:List aO}{dd:Nat}
theorem jh{r:Option AV}:cP r (λv=>K v E)=okV r K E:=by cases r<;>rfl
theorem Pf{r:Option AS}:cP r (λa=>K .undef a)=wq r K:=by cases r<;>rfl
theorem ZI{r:Option (AV×AS)}:cP r (λp=>K p.1 p.2)=uH r K:=by cases r<;>rfl
theorem ZJ:dn X (o dd i::os) ⟨e,ms⟩ E Q=aP X i e E (kV X os dd e ms Q) (kP e ms Q):=O7
theorem ZK:dn X (u i::os) ⟨e,ms⟩ E Q=aP X i e E (kU X os e ms Q) (kP e ms Q):=O7
def Pg:dn X (gt t d i::os) ⟨e,ms⟩ E Q=gK X t true d i os e ms E Q (e t):=by
 rw[aqX];cases d<;>rfl
def Ph:dn X (gf t d i::os) ⟨e,ms⟩ E Q=gK X t false d i os e ms E Q (e t):=by
 rw[aqY];cases d<;>rfl
theorem ZL:kV X os dd e ms Q v E=dn X os ⟨e.set dd v,ms⟩ E Q:=rfl
theorem ZM:kU X os e ms Q v E=dn X os ⟨e,ms⟩ E Q:=rfl
theorem ZN:kP e ms Q v E=Q (.panic v) ⟨e,ms⟩ E:=rfl
theorem ZO:okV (some v) K E=K v E:=rfl
def ZP{c:Prop}[Decidable c]{v:Option AV}:okV (if c then v else none) K E=(c/\okV v K E):=by split<;>simp[*,okV]
theorem ZQ:wq (some E) K=K .undef E:=rfl
def ZR{c:Prop}[Decidable c]{v:Option AS}:wq (if c then v else none) K=(c/\wq v K):=by split<;>simp[*,wq]
theorem ZS:uH (some (v,E)) K=K v E:=rfl
theorem ZT{b:Bool}:okB (some b) false K E=K (.bool b) E:=rfl
theorem ZU{b:Bool}:okB (some b) true K E=K (.bool (!b)) E:=rfl
theorem ZV{k:IntKind}{n:Int}:ZG k (.int k' n) K E=K (.int k (k.wrap n)) E:=rfl
theorem ZW{a b:AV}:Pe (.bool true) a b K E=K a E:=rfl
theorem ZX{a b:AV}:Pe (.bool false) a b K E=K b E:=rfl
theorem ZY{ys:List lA}{ty:TypeId}{bytes:Nat}{s:AV}:ZH (some ys) ty sz bytes s K E=uH (dx E ty sz bytes s ys) K:=rfl
theorem Pj{c:ao}{a:PC}:wp X f rd (.cond c a b) fr E Q=od X f rd a b fr E Q (c.get fr.env):=wp_cond
def ZZ{a:PC}:od X f rd a b fr E Q (.bool true)=wp X f rd a fr E Q:=by simp[od,H8]
def Z0{a:PC}:od X f rd a b fr E Q (.bool false)=wp X f rd b fr E Q:=by simp[od,H8]
def bR{a:PC}{p:Prop}[Decidable p]:od X f rd a b fr E Q (.bool (decide p))=((p->wp X f rd a fr E Q)/\ (¬p->wp X f rd b fr E Q)):=by simp[od,H8]
def Z1{a:PC}:od X f rd a b fr E Q (.bool (!c))=od X f rd b a fr E Q (.bool c):=by cases c<;>simp[od,H8]
theorem Z2{b:Bool}{c:lA}:gK X t b (some dd) i os e ms E Q (.au c)=dn X os ⟨e.set dd .undef,ms⟩ E Q:=rfl
theorem Z3{b:Bool}{c:lA}:gK X t b none i os e ms E Q (.au c)=dn X os ⟨e,ms⟩ E Q:=rfl
def Z4:gK X t true (some dd) i os e ms E Q (.bool true)=aP X i (e.set t (.bool true)) E (kV X os dd (e.set t (.bool true)) ms Q) (kP (e.set t (.bool true)) ms Q):=by simp[gK,Ia]
def Z5:gK X t false (some dd) i os e ms E Q (.bool false)=aP X i (e.set t (.bool false)) E (kV X os dd (e.set t (.bool false)) ms Q) (kP (e.set t (.bool false)) ms Q):=by simp[gK,Ia]
def Z6:gK X t true d i os e ms E Q (.bool false)=dn X os (Fr.put ⟨e.set t (.bool false),ms⟩ d .undef) E Q:=by simp[gK,Ia]
def Z7:gK X t false d i os e ms E Q (.bool true)=dn X os (Fr.put ⟨e.set t (.bool true),ms⟩ d .undef) E Q:=by simp[gK,Ia]
def Z8{b:Bool}{p:Prop}[Decidable p]:gK X t b d i os e ms E Q (.bool (decide p))=((p->gK X t b d i os e ms E Q (.bool true))/\ (¬p->gK X t b d i os e ms E Q (.bool false))):=by
 by_cases h:p<;>simp[h]
theorem Z9:aP X (.mov x) e E K Kp=(K (x.get e) E):=by rfl
def aaa{c:ao}{a:ao}{b:ao}:aP X (.pick c a b) e E K Kp=(Pe (c.get e) (a.get e) (b.get e) K E):=by
 first|rfl|rfl|rfl|rfl| (rw[aqn];cases c.get e<;>rfl)
theorem aab:aP X (.alloc z tg) e E K Kp=(K (.ptr E.heap.length 0) (E.push (.box z tg))):=by rfl
def aac{agg:Bool}{a:ao}:aP X (.load agg n a) e E K Kp=(okV (cg X E agg n (a.get e)) K E):=by grind [aqs,jh]
def aad{a:ao}{v:ao}:aP X (.store n a v) e E K Kp=(wq (kR E n (a.get e) (v.get e)) K):=by grind [aqt,Pf]
def aae:aP X (.nilck x) e E K Kp=(okV (wb (x.get e)) K E):=by grind [aqu,jh]
def aaf{a:BinOp}:aP X (.bin a x y) e E K Kp=(okV (dh a (x.get e) (y.get e)) K E):=by grind [aqv,jh]
def aag{a:BinOp}:aP X (.shf a x y) e E K Kp=(okV (k5 a (x.get e) (y.get e)) K E):=by grind [aqw,jh]
def aah{k:EK}:aP X (.eq k x y) e E K Kp=(okB (ed k (x.get e) (y.get e)) false K E):=by
 first|rfl|rfl|rfl|rfl| (rw[aqx];cases ed k (x.get e) (y.get e)<;>rfl)
def aai{k:EK}:aP X (.ne k x y) e E K Kp=(okB (ed k (x.get e) (y.get e)) true K E):=by
 first|rfl|rfl|rfl|rfl| (rw[aqy];cases ed k (x.get e) (y.get e)<;>rfl)
def aaj{a:UnOp}:aP X (.un a x) e E K Kp=(okV (xY a (x.get e)) K E):=by grind [aqz,jh]
def aak{k:IntKind}:aP X (.conv k x) e E K Kp=(ZG k (x.get e) K E):=by
 first|rfl|rfl|rfl|rfl| (rw[aqA];cases x.get e<;>rfl)
theorem aal{t:TypeId}:aP X (.mki t x) e E K Kp=(K (.c9 t (x.get e)) E):=by rfl
theorem aam{f:Fn}{first:List ao}{cap:List ao}:aP X (.mkf f first cap) e E K Kp=(K (.fn f (first.map (ao.get e)) (cap.map (ao.get e))) E):=by rfl
theorem aan:aP X (.nS) e E K Kp=(K (.mp E.heap.length) (E.push (.map []))):=by rfl
def aao{lo:Option ao}{a:Option ao}:aP X (.slstr x lo a) e E K Kp=(okV (ur (x.get e) (lo.map (ao.get e)) (a.map (ao.get e))) K E):=by grind [aqC,jh]
def aap{lo:Option ao}{b:Option ao}{a:Option ao}:aP X (.slsl n x lo b a) e E K Kp=(okV (fX n (x.get e) (lo.map (ao.get e)) (b.map (ao.get e)) (a.map (ao.get e))) K E):=by grind [aqD,jh]
def aaq{lo:Option ao}{a:Option ao}:aP X (.slarr n sz x lo a) e E K Kp=(okV (qx X n sz (x.get e) (lo.map (ao.get e)) (a.map (ao.get e))) K E):=by grind [aqE,jh]
def aar:aP X (.faddr n x) e E K Kp=(okV (rY X n (x.get e)) K E):=by grind [aqF,jh]
def aas{i:ao}:aP X (.iaddra n sz x i) e E K Kp=(okV (uu X n sz (x.get e) (i.get e)) K E):=by grind [aqH,jh]
def aat{i:ao}:aP X (.iaddrs sz x i) e E K Kp=(okV (jY sz (x.get e) (i.get e)) K E):=by grind [aqI,jh]
def aau{agg:Bool}{i:ao}:aP X (.idxa agg n sz x i) e E K Kp=(okV (qz agg n sz (x.get e) (i.get e)) K E):=by grind [aqJ,jh]
def aav{i:ao}:aP X (.idxs x i) e E K Kp=(okV (xZ (x.get e) (i.get e)) K E):=by grind [aqK,jh]
def aaw{b:EK}{z:AV}{m:ao}{k:ao}{a:Bool}:aP X (.lookup b z m k a) e E K Kp=(okV (gP X.fb E b z (m.get e) (k.get e) a) K E):=by grind [aqL,jh]
def aax{a:EK}{m:ao}{k:ao}{v:ao}:aP X (.oW a m k v) e E K Kp=(wq (mj E a (m.get e) (k.get e) (v.get e)) K):=by grind [aqM,Pf]
def aay{z:AV}{t:TypeId}{a:Bool}:aP X (.ta z x t a) e E K Kp=(okV (Ai z (x.get e) t a) K E):=by grind [aqN,jh]
def aaz{k:EK}:aP X (.len k x) e E K Kp=(okV (fj E k (x.get e)) K E):=by grind [aqP,jh]
def aaA{ty:TypeId}{bytes:Nat}{s:ao}:aP X (.append ty sz bytes s x) e E K Kp=(ZH (elems E sz (x.get e)) ty sz bytes (s.get e) K E):=by
 first|rfl|rfl|rfl|rfl| (rw[aqQ];cases elems E sz (x.get e)<;>first|rfl|exact ZI)
def aaB{d:ao}{s:ao}:aP X (.copy sz d s) e E K Kp=(uH (rW E sz (d.get e) (s.get e)) K):=by grind [aqR,ZI]
def aaC:aP X (.clear z x) e E K Kp=(wq (rX E z (x.get e)) K):=by grind [aqS,Pf]
def aaD{xs:List ao}:aP X (.max xs) e E K Kp=(okV (fY qy (xs.map (ao.get e))) K E):=by grind [aqT,jh]
def aaE{xs:List ao}:aP X (.min xs) e E K Kp=(okV (fY wa (xs.map (ao.get e))) K E):=by grind [aqU,jh]
def aaF{i:Nat}:aP X (.ext x i) e E K Kp=(okV (DP (x.get e) i) K E):=by
 first|rfl| (rw[aqO];exact jh)|rfl|rfl|rfl
def aaG{agg:Bool}{off:Nat}:aP X (.fld agg n off x) e E K Kp=(okV (ZE agg n off (x.get e)) K E):=by
 first|rfl| (rw[aqG];exact jh)|rfl|rfl|rfl
def aaH:aP X (.box x tg) e E K Kp=(uH (qJ E (x.get e) tg) K):=by
 first|rfl|rfl|rfl|rfl| (rw[aqo];unfold qJ;cases h: (x.get e).cb<;>simp[uH])
def aaI{a:List (Nat×Nat×ao)}:aP X (.build z a) e E K Kp=(okV (Pb z (a.map λp=>(p.1,p.2.1,p.2.2.get e))) K E):=by
 first|rfl|rfl|rfl|rfl| (rw[aqp];unfold Pb;cases ea z (a.map λp=>(p.1,p.2.1,p.2.2.get e))<;>rfl)
def aaJ{len:Nat}{a:List (Nat×Nat×ao)}:aP X (.bslice z len a) e E K Kp=(okV (Pc z len (a.map λp=>(p.1,p.2.1,p.2.2.get e))) K E):=by
 first|rfl|rfl|rfl|rfl| (rw[aqq];unfold Pc;cases ea (List.replicate len z).flatten (a.map λp=>(p.1,p.2.1,p.2.2.get e))<;>rfl)
def aaK{ty:TypeId}{len:Nat}{a:List (Nat×Nat×ao)}:aP X (.rT ty z len a) e E K Kp=(uH (Pd E ty z len (a.map λp=>(p.1,p.2.1,p.2.2.get e))) K):=by
 first|rfl|rfl|rfl|rfl| (rw[aqr];unfold Pd;cases ea (List.replicate len z).flatten (a.map λp=>(p.1,p.2.1,p.2.2.get e))<;>rfl)
def aaL:aP X (.panic x) e E K Kp=(okV (ZF (x.get e)) Kp E):=by
 first|rfl|rfl|rfl|rfl| (rw[aqV];cases x.get e<;>rfl)
def aaM:aP X (.s2b x) e E K Kp=(okV (Ic (x.get e)) K E):=by
 first|rfl|rfl|rfl|rfl| (rw[aqB];cases x.get e<;>first|rfl| (rename_i q;simp only[Ic];by_cases a:q.size<=room<;>simp only[a,aiZ,amJ]<;>rfl))
end
def R1:=gG @wp_skip<|gG @wp_exit<|gG @wp_ret<|gG @wp_seq<|gG @wp_block<|gG @Pj<|gG @O6<|gG @Ze<|gG @Zf<|gG @Zg<|gG @Zh<|gG @Zi<|gG @Zj<|gG @Zk<|gG @Zl<|gG @Zo<|gG @ZJ<|gG @ZK<|gG @Pg<|gG @Ph<|gG @ZL<|gG @ZM<|gG @ZN<|gG @Zt<|gG @Z9<|gG @aaa<|gG @aab<|gG @aac<|gG @aad<|gG @aae<|gG @aaf<|gG @aag<|gG @aah<|gG @aai<|gG @aaj<|gG @aak<|gG @aal<|gG @aam<|gG @aan<|gG @aao<|gG @aap<|gG @aaq<|gG @aar<|gG @aas<|gG @aat<|gG @aau<|gG @aav<|gG @aaw<|gG @aax<|gG @aay<|gG @aaz<|gG @aaA<|gG @aaB<|gG @aaC<|gG @aaD<|gG @aaE<|gG @aaF<|gG @aaG<|gG @aaH<|gG @aaI<|gG @aaJ<|gG @aaK<|gG @aaL @aaM
def R2:=gG @Zm<|gG @Zn<|gG @ZO<|gG @ZP<|gG @ZQ<|gG @ZR<|gG @ZS<|gG @ZT<|gG @ZU<|gG @ZV<|gG @ZW<|gG @ZX<|gG @ZY<|gG @ZZ<|gG @Z0<|gG @Z1<|gG @Z2<|gG @Z3<|gG @Z4<|gG @Z5<|gG @Z6<|gG @Z7<|gG @Fr.Zp<|gG @Fr.Zq<|gG @Zy<|gG @ZA<|gG @ZB<|gG @ZC<|gG @push_mk @set_mk
def R4:=gG @Z8 @bR
section
variable{X:Ctx}{f:FuncId}{rd:Bool}{E:AS}{Q:bQ}{e:Env}{ms:lN}{K Kp:AV->AS->Prop}{k:IntKind}{a b c:Int}{l m:lB}{n:Nat}{lo:oN}{H L:List ae}{R:aS->Prop}
def aaN:dh .add (.int k a) (.int k b)=some (.int k (k.wrap (a+b))):=by simp[dh,mi]
def aaO:dh .sub (.int k a) (.int k b)=some (.int k (k.wrap (a-b))):=by simp[dh,mi]
def aaP:dh .mul (.int k a) (.int k b)=some (.int k (k.wrap (a*b))):=by simp[dh,mi]
def aaQ:dh .quo (.int k a) (.int k b)=if b≠0 then some (.int k (k.wrap (a.tdiv b)))else none:=by
 by_cases h:b=0<;>simp[dh,mi,h]
def aaR:dh .rem (.int k a) (.int k b)=if b≠0 then some (.int k (a.tmod b))else none:=by
 by_cases h:b=0<;>simp[dh,mi,h]
def aaS:dh .lss (.int k a) (.int k b)=some (.bool (decide (a<b))):=by simp[dh,mi]
def aaT:dh .leq (.int k a) (.int k b)=some (.bool (decide (a<=b))):=by simp[dh,mi]
def aaU:dh .gtr (.int k a) (.int k b)=some (.bool (decide (b<a))):=by simp[dh,mi]
def aaV:dh .geq (.int k a) (.int k b)=some (.bool (decide (b<=a))):=by simp[dh,mi]
def DQ:dh .and (.int k a) (.int k b)=some (.int k (k.wrap (BitVec.ofInt k.bits a&&&BitVec.ofInt k.bits b).toNat)):=by simp[dh,mi,v7]
def Ie:dh .or (.int k a) (.int k b)=some (.int k (k.wrap (BitVec.ofInt k.bits a|||BitVec.ofInt k.bits b).toNat)):=by simp[dh,mi,v7]
def Pk:dh .xor (.int k a) (.int k b)=some (.int k (k.wrap (BitVec.ofInt k.bits a^^^BitVec.ofInt k.bits b).toNat)):=by simp[dh,mi,v7]
def Pl:dh .andNot (.int k a) (.int k b)=some (.int k (k.wrap (BitVec.ofInt k.bits a&&& ~~~ (BitVec.ofInt k.bits b)).toNat)):=by simp[dh,mi,v7]
def AL:k5 .shl (.int k a) (.int k' b)=if 0<=b then some (.int k (k.wrap (a*2^(min b.toNat k.bits))))else none:=by
 by_cases h:0<=b
 ·have: ¬b<0:=by omega
  simp[k5,v8,h,this]
 ·have:b<0:=by omega
  simp[k5,v8,h,this]
def DR:k5 .shr (.int k a) (.int k' b)=if 0<=b then some (.int k (a.fdiv (2^(min b.toNat k.bits))))else none:=by
 by_cases h:0<=b
 ·have: ¬b<0:=by omega
  simp[k5,v8,h,this]
 ·have:b<0:=by omega
  simp[k5,v8,h,this]
def eq_int:ed .int (.int k a) (.int k b)=some (decide (a=b)):=by
 simp only[ed,qw,aiZ];grind
theorem aaW{x y:Bool}:ed .bool (.bool x) (.bool y)=some (x==y):=rfl
theorem aaX{x:Bool}:xY .not (.bool x)=some (.bool !x):=rfl
theorem aaY:xY .neg (.int k a)=some (.int k (k.wrap (0-a))):=rfl
theorem aaZ:fj E .str (S l)=some (.int .i64 l.length):=by rfl
def aa0:xZ (S l) (.int k a)=if 0<=a/\a<l.length then some (.int .u8 (l.getD a.toNat 0).toNat)else none:=by
 simp only[xZ,rU,S]
 grind
def aq2(i j:Nat): (⟨l.toArray⟩:ByteArray).extract i j=⟨((l.take j).drop i).toArray⟩:=by
 apply ByteArray.ext;simp[ByteArray.data_extract,azv]
def Ig:ur (S l) (some (.int k a)) none=if 0<=a/\a<=l.length then some (S (l.drop a.toNat))else none:=by
 simp only[ur,S,fW,lK,aqW];by_cases h:0<=a/\a<=l.length
 ·simp_all[afJ,aq2]
 grind
theorem aa1: (S l).cb=false:=rfl
theorem aa2: (S l).cells=[S l]:=rfl
theorem aa3: (S l).refs=0:=rfl
def aa4:dp X n lo [.t t] R .ret ⟨e,[]⟩ E=R (.ret (finish n lo (e t) E).1 (finish n lo (e t) E).2):=by
 simp[dp,dA,ZD]
def aa5{u:Nat}:dp X n lo [.t t,.t u] R .ret ⟨e,[]⟩ E=R (.ret (finish n lo (.au [e t,e u]) E).1 (finish n lo (.au [e t,e u]) E).2):=by
 simp[dp,dA,aq0]
def aa6{u v:Nat}:dp X n lo [.t t,.t u,.t v] R .ret ⟨e,[]⟩ E=R (.ret (finish n lo (.au [e t,e u,e v]) E).1 (finish n lo (.au [e t,e u,e v]) E).2):=by
 simp[dp,dA,aq1]
def aa7:dp X n lo [] R .ret ⟨e,[]⟩ E=R (.ret (finish n lo (.au []) E).1 (finish n lo (.au []) E).2):=by
 simp[dp,dA,fk,jz]
def aa8:dp X n lo [] R .normal ⟨e,[]⟩ E=R (.ret (finish n lo (.au []) E).1 (finish n lo (.au []) E).2):=by
 simp[dp,dA,fk,jz]
def AM:finish n lo v ⟨H,none⟩=if v.refs<=n then(v,⟨H.take n,lo⟩)else match freeze ⟨H,none⟩ n 12 v with|some v'=>(v',⟨H.take n,lo⟩)|none=>(v,⟨H,fV lo none⟩):=by
 by_cases h:v.refs<=n
 ·rw[afJ h,Zx rfl h]
 ·rw[afB h];rfl
def DS:finish n lo v ⟨H,some j⟩=if n<=j then(if v.refs<=n then(v,⟨H.take n,lo⟩)else match freeze ⟨H,some j⟩ n 12 v with|some v'=>(v',⟨H.take n,lo⟩)|none=>(v,⟨H,fV lo (some j)⟩))else(v,⟨H,fV lo (some j)⟩):=by
 by_cases d:n<=j
 ·rw[afJ d];by_cases h:v.refs<=n
  ·rw[afJ h,Zx (by grind) h]
  ·rw[afB h];simp only[finish,amT,afJ d];rfl
 ·simp only[finish,amT,afB d]
def aa9(h:H.length=n):H.take n=H:=by grind
theorem aba{agg:Bool}{m id off:Nat}{lo:oN}:cg X ⟨H,lo⟩ agg m (.ptr id off)=match H[id]? with
 |some (.box cs _)=>part agg m cs off
 |_=>none:=rfl
theorem abb{agg:Bool}{m off:Nat}{cs:lA}:cg X E agg m (.eL cs off)=part agg m cs off:=rfl
theorem abc{m id off:Nat}{v:AV}{lo:oN}:kR ⟨H,lo⟩ m (.ptr id off) v=match H[id]? with
 |some (.box cs tg)=>if v.cb=false/\v.cells.length=m/\off+m<=cs.length then some (AS.set ⟨H,lo⟩ id (.box (aH cs off v.cells) tg) v.refs)else none
 |_=>none:=rfl
theorem abd{m:Nat}{cs:lA}{off:Nat}:part false m cs off=cs[off]?:=rfl
theorem abe{m:Nat}{cs:lA}{off:Nat}:part true m cs off=if off+m<=cs.length then some (.agg ((cs.drop off).take m))else none:=rfl
theorem abf{id off:Nat}:wb (.ptr id off)=some (.ptr id off):=rfl
theorem abg{id off:Nat}:wb (.dq id aj i off)=some (.dq id aj i off):=rfl
theorem abh{cs:lA}{off:Nat}:wb (.eL cs off)=some (.eL cs off):=rfl
theorem abi{id off m:Nat}:rY X m (.ptr id off)=some (.ptr id (off+m)):=rfl
theorem abj{id off m:Nat}:rY X m (.dq id aj i off)=some (.dq id aj i (off+m)):=rfl
theorem abk{cs:lA}{off m:Nat}:rY X m (.eL cs off)=some (.eL cs (off+m)):=rfl
theorem abl:qJ E (.int k a) tg=some (.ptr E.heap.length 0,E.push (.box [.int k a] tg)):=rfl
theorem abm{b:Bool}:qJ E (.bool b) tg=some (.ptr E.heap.length 0,E.push (.box [.bool b] tg)):=rfl
theorem abn:qJ E (S l) tg=some (.ptr E.heap.length 0,E.push (.box [S l] tg)):=rfl
theorem abo{cs:lA}:qJ E (.agg cs) tg=some (.ptr E.heap.length 0,E.push (.box cs tg)):=rfl
def abp{cs:lA}:aH cs 0 vs=vs++cs.drop vs.length:=by simp[aH]
def abq{cs:lA}{c:AV}{off:Nat}:aH (c::cs) (off+1) vs=c::aH cs off vs:=by
 simp[aH,Nat.add_right_comm]
theorem abr{k:IntKind}{n:Int}:AV.cb (.int k n)=false:=rfl
theorem abt{k:IntKind}{n:Int}:AV.cells (.int k n)=[.int k n]:=rfl
theorem abu{b:Bool}:AV.cb (.bool b)=false:=rfl
theorem abv{b:Bool}:AV.cells (.bool b)=[.bool b]:=rfl
theorem abw{o:Nat}:AV.cb (.ptr i o)=false:=rfl
theorem abx{o:Nat}:AV.cells (.ptr i o)=[.ptr i o]:=rfl
theorem aby{v o:Nat}:AV.cb (.dq i v j o)=false:=rfl
theorem abz{v o:Nat}:AV.cells (.dq i v j o)=[.dq i v j o]:=rfl
theorem abA{cs:lA}{o:Nat}:AV.cb (.eL cs o)=false:=rfl
theorem abB{cs:lA}{o:Nat}:AV.cells (.eL cs o)=[.eL cs o]:=rfl
theorem abC:AV.cb (.dZ)=false:=rfl
theorem abD:AV.cells (.dZ)=[.dZ]:=rfl
theorem abE:AV.cb (.ai)=false:=rfl
theorem abF:AV.cells (.ai)=[.ai]:=rfl
theorem abG{c:Bool}:AV.cb (.sl af c)=false:=rfl
theorem abH{c:Bool}:AV.cells (.sl af c)=[.sl af c]:=rfl
theorem abI{v z o l:Nat}{c:Bool}:AV.cb (.ref i v z o l c)=false:=rfl
theorem abJ{v z o l:Nat}{c:Bool}:AV.cells (.ref i v z o l c)=[.ref i v z o l c]:=rfl
theorem abK{z o l:Nat}:AV.cb (.fa i z o l)=false:=rfl
theorem abL{z o l:Nat}:AV.cells (.fa i z o l)=[.fa i z o l]:=rfl
theorem abM:AV.cb (.mh)=false:=rfl
theorem abN:AV.cells (.mh)=[.mh]:=rfl
theorem abO:AV.cb (.mp i)=false:=rfl
theorem abP:AV.cells (.mp i)=[.mp i]:=rfl
theorem abQ{f:Fn}{a b:lA}:AV.cb (.fn f a b)=false:=rfl
theorem abR{f:Fn}{a b:lA}:AV.cells (.fn f a b)=[.fn f a b]:=rfl
theorem abS:AV.cb (.cJ)=false:=rfl
theorem abT:AV.cells (.cJ)=[.cJ]:=rfl
theorem abU{t:TypeId}:AV.cb (.c9 t v)=false:=rfl
theorem abV{t:TypeId}:AV.cells (.c9 t v)=[.c9 t v]:=rfl
theorem abW:AV.cb (.ez)=false:=rfl
theorem abX:AV.cells (.ez)=[.ez]:=rfl
theorem abY{g:Nat}:AV.cb (.dg g)=false:=rfl
theorem abZ{g:Nat}:AV.cells (.dg g)=[.dg g]:=rfl
theorem ab0{cs:lA}:AV.cb (.agg cs)=false:=rfl
theorem ab1{cs:lA}:AV.cells (.agg cs)=cs:=rfl
theorem ab2{k:IntKind}{n:Int}:AV.refs (.int k n)=0:=by rfl
theorem ab3{b:Bool}:AV.refs (.bool b)=0:=by rfl
theorem ab4{o:Nat}:AV.refs (.ptr i o)=i+1:=by rfl
theorem ab5:AV.refs (.ai)=0:=by rfl
theorem ab6{v z o l:Nat}{c:Bool}:AV.refs (.ref i v z o l c)=i+1:=by rfl
theorem ab7:AV.refs (.mp i)=i+1:=by rfl
theorem ab8{f:Nat}{a b:lA}:AV.refs (.fn (.func f) a b)=max (aG a) (aG b):=by rfl
theorem ab9{t:TypeId}:AV.refs (.c9 t v)=v.refs:=by rfl
theorem aca{cs:lA}:AV.refs (.agg cs)=aG cs:=by rfl
theorem acb{cs:lA}:AV.refs (.au cs)=aG cs:=by rfl
theorem acd{c:Bool}:AV.refs (.sl af c)=b8 af:=by rfl
theorem ace:aG []=0:=by rfl
theorem acf{a:AV}{as:lA}:aG (a::as)=max a.refs (aG as):=by rfl
theorem acg{a:AV}{as:lA}:cZ (a::as) 0=a:=rfl
theorem ach{a:AV}{as:lA}{n:Nat}:cZ (a::as) (n+1)=cZ as n:=rfl
theorem aci{n:Nat}:cZ [] n= .undef:=rfl
theorem acj: (!true)=false:=rfl
theorem ack: (!false)=true:=rfl
end
structure Rd(E:AS)(v:AV)(sz:Nat)(af:List lA):Prop where
 kind:match v with|.ai|.sl .. |.ref .. =>True|_=>False
 eq:elems E sz v=some af
 aDh: ∀el∈af,el.length=sz
def fu(v:AV)(j off:Nat):AV:=
 match v with
 |.sl af _=>.eL (af.getD j []) off
 |.ref id aj _ o _ _=>.dq id aj (o+j) off
 |_=>.iD
section
variable{X:Ctx}{E:AS}{v:AV}{sz:Nat}{af:List lA}{k:IntKind}{a:Int}
def Rd.len(h:Rd E v sz af):fj E .sl v=some (.int .i64 af.length):=by
 obtain⟨i,d,j⟩:=h;cases v<;>simp only[]at i
 ·cases d;rfl
 ·simp only[elems]at d;split at d<;>cases d;rfl
 ·simp only[elems]at d;split at d
  ·split at d
   ·simp only[fj];grind
   grind
  grind
def Rd.addr(h:Rd E v sz af):jY sz v (.int k a)=if 0<=a/\a<af.length then some (fu v a.toNat 0)else none:=by
 obtain⟨o,d,p⟩:=h;cases v<;>simp only[]at o
 ·cases d;have: ¬(0<=a/\a< (([]:List lA).length:Int)):=by simp
  rw[afB this];rfl
 ·simp only[elems]at d;simp only[jY,rU,fu]
  grind
 ·rename_i id aj z off len cx;simp only[elems]at d;split at d
  ·split at d
   ·rename_i j;cases d;simp only[jY,rU,fu];have e: ((List.take len (List.drop off (by assumption))).length:Nat)=len:=by rw[ai1,ao2];omega
    rw[e];by_cases i:0<=a/\a<len
    ·rw[afJ ⟨i.1,i.2,j.2.2.1⟩,afJ i]
    ·rw[afB (λh=>i ⟨h.1,h.2.1⟩),afB i]
   grind
  grind
def Rd.load(h:Rd E v sz af){off:Nat}{agg:Bool}(q:j<af.length):cg X E agg n (fu v j off)=part agg n (af.getD j []) off:=by
 obtain⟨p,d,r⟩:=h;cases v<;>simp only[]at p
 ·simp only[elems]at d;grind
 ·simp only[elems]at d;split at d<;>cases d;rfl
 ·simp only[elems]at d;split at d
  ·rename_i v' o ty i hr;split at d
   ·simp only[fu,cg,hr]
    grind
   grind
  grind
def Rd.faddr(h:Rd E v sz af){off:Nat}(o:j<af.length):rY X n (fu v j off)=some (fu v j (off+n)):=by
 obtain⟨i,d,p⟩:=h;cases v<;>simp only[]at i
 ·simp only[elems]at d;grind
 ·rfl
 ·rfl
theorem Rd.sl{af:List lA}(h: ∀el∈af,el.length=sz):Rd E (.sl af c) sz af:=
 ⟨trivial,by simp only[elems];grind,h⟩
theorem Rd.ai:Rd E .ai sz []:=⟨trivial,rfl,by simp⟩
def Rd.ext{H L:List ae}(h:Rd ⟨H,lo⟩ v sz af):Rd ⟨H++L,ak⟩ v sz af:=by
 obtain⟨i,d,j⟩:=h;refine⟨i,?_,j⟩;cases v<;>simp only[]at i
 ·exact d
 ·exact d
 ·simp only[elems]at d⊢
  grind
end
def Pm{f:AV->AV->Option AV}{x:AV}:fY f [x]=some x:=by rw[fY]
def acm{f:AV->AV->Option AV}{x y z:AV}{r:lA}(h:f x y=some z):fY f (x::y::r)=fY f (z::r):=by rw[fY,h]
def Pn{k:IntKind}{a b:Int}{r:lA}:fY qy (.int k a:: .int k' b::r)=fY qy (.int k (max a b)::r):=by
 refine acm ?_;simp only[qy];grind
def acn{k:IntKind}{a b:Int}{r:lA}:fY wa (.int k a:: .int k' b::r)=fY wa (.int k (min a b)::r):=by
 refine acm ?_;simp only[wa];grind
def Rd.mono{H H':List ae}(h:Rd ⟨H,lo⟩ v sz af)(d:H<+:H'):Rd ⟨H',ak⟩ v sz af:=by
 obtain⟨L,rfl⟩:=d;exact h.ext
def Rv(v:AV)(sz:Nat)(af:List lA):Prop:= ∀E,Rd E v sz af
theorem Rv.len(h:Rv v sz af){E:AS}:fj E .sl v=some (.int .i64 af.length):=(h E).len
theorem Rv.addr(h:Rv v sz af){k:IntKind}{a:Int}:jY sz v (.int k a)=if 0<=a/\a<af.length then some (fu v a.toNat 0)else none:=(h ⟨[],none⟩).addr
theorem Rv.load{X:Ctx}(h:Rv v sz af){E:AS}{off:Nat}{agg:Bool}(d:j<af.length):cg X E agg n (fu v j off)=part agg n (af.getD j []) off:=(h E).load d
theorem Rv.faddr{X:Ctx}(h:Rv v sz af){off:Nat}(d:j<af.length):rY X n (fu v j off)=some (fu v j (off+n)):=(h ⟨[],none⟩).faddr d
theorem Rv.elems(h:Rv v sz af){E:AS}:Den.elems E sz v=some af:=(h E).eq
theorem Rv.sl(h: ∀el∈af,el.length=sz):Rv (.sl af c) sz af:=λ_=>.sl h
theorem Rv.ai:Rv .ai sz []:=λ_=>.ai
def da{v':AV}{H H':List ae}(h:v=v')(d:H=H'):aS.ret v ⟨H,lo⟩=aS.ret v' ⟨H',lo⟩:=by grind
theorem aco: ((k+m:Nat):Int)=(k:Int)+(m:Int):=by rfl
theorem cast_zero: ((0:Nat):Int)=0:=rfl
def acp{α:Type}[Inhabited α]{g:α->lA}{l:List α}(h:j<l.length): (l.map g).getD j []=g (l.getD j default):=by grind
section
variable{α:Type}{g:α->lA}{l:List α}{v:AV}{sz:Nat}
def Rv.bL(h:Rv v sz (l.map g)){E:AS}:fj E .sl v=some (.int .i64 l.length):=by rw[h.len,ahh]
def Rv.ck(h:Rv v sz (l.map g)){k:IntKind}{a:Int}:jY sz v (.int k a)=if 0<=a/\a<l.length then some (fu v a.toNat 0)else none:=by rw[h.addr,ahh]
def Rv.cD[Inhabited α]{X:Ctx}(h:Rv v sz (l.map g)){E:AS}{off:Nat}{agg:Bool}(d:j<l.length):cg X E agg n (fu v j off)=part agg n (g (l.getD j default)) off:=by
 rw[h.load (by grind),acp d]
def Rd.bL{E:AS}(h:Rd E v sz (l.map g)):fj E .sl v=some (.int .i64 l.length):=by rw[h.len,ahh]
def Rd.ck{E:AS}(h:Rd E v sz (l.map g)){k:IntKind}{a:Int}:jY sz v (.int k a)=if 0<=a/\a<l.length then some (fu v a.toNat 0)else none:=by rw[h.addr,ahh]
def Rd.cD[Inhabited α]{X:Ctx}{E:AS}(h:Rd E v sz (l.map g)){off:Nat}{agg:Bool}(d:j<l.length):cg X E agg n (fu v j off)=part agg n (g (l.getD j default)) off:=by
 rw[h.load (by grind),acp d]
end
def V1:=gG @aaN<|gG @aaO<|gG @aaP<|gG @aaQ<|gG @aaR<|gG @aaS<|gG @aaT<|gG @aaU<|gG @aaV<|gG @DQ<|gG @Ie<|gG @Pk<|gG @Pl<|gG @AL<|gG @DR<|gG @eq_int<|gG @aaW<|gG @aaX<|gG @aaY<|gG @aaZ<|gG @aa0<|gG @Ig<|gG @aa1<|gG @aa2<|gG @aa3<|gG @aa4<|gG @aa5<|gG @aa6<|gG @aa7<|gG @aa8<|gG @aba<|gG @abb<|gG @abc<|gG @abd<|gG @abe<|gG @abf<|gG @abg<|gG @abh<|gG @abi<|gG @abj<|gG @abk<|gG @abl<|gG @abm<|gG @abn<|gG @abo<|gG @abp<|gG @abq<|gG @Zw<|gG @Zu @Zv
theorem V3:type_of% @acg/\type_of% @cast_zero/\type_of% @aco/\type_of% @Int.toNat_natCast/\type_of% @Int.natCast_nonneg/\type_of% @Pm/\type_of% @Pn/\type_of% @acn/\type_of% @ach/\type_of% @aci/\type_of% @acj/\type_of% @ack/\type_of% @Option.map_some.{0,0}/\type_of% @Option.map_none.{0,0}/\type_of% @List.map_cons.{0,0}/\type_of% @List.map_nil.{0,0}/\type_of% @not_false_eq_true/\type_of% @true_and/\type_of% @and_true/\type_of% @Nat.zero_le/\type_of% @List.length_cons.{0}/\type_of% @List.length_nil.{0}/\type_of% @List.length_append.{0}/\type_of% @List.length_map.{0,0}/\type_of% @if_true.{1}/\type_of% @if_false.{1}/\type_of% @if_true.{0}/\type_of% @if_false.{0}/\type_of% @ne_eq.{1}/\type_of% @List.cons_append.{0}/\type_of% @List.nil_append.{0}/\type_of% @List.append_nil.{0}/\type_of% @Nat.zero_add/\type_of% @List.length_set.{0}/\type_of% @List.append_assoc.{0}/\type_of% @List.getElem?_cons_zero.{0}/\type_of% @List.getElem?_cons_succ.{0}/\type_of% @List.set_cons_zero.{0}/\type_of% @List.set_cons_succ.{0}/\type_of% @List.drop_succ_cons.{0}/\type_of% @List.drop_zero.{0}/\type_of% @List.take_succ_cons.{0}/\type_of% @List.take_zero.{0}/\type_of% @Nat.max_self/\type_of% @Nat.zero_max/\type_of% @Nat.max_zero:=
 ⟨@acg,@cast_zero,@aco,@azD,@Int.natCast_nonneg,@Pm,@Pn,@acn,@ach,@aci,@acj,@ack,@ahi.{0,0},@Option.map_none.{0,0},@aoZ.{0,0},@azp.{0,0},@not_false_eq_true,@aBV,@aq8,@aha,@aho.{0},@apt.{0},@ahc.{0},@ahh.{0,0},@aiZ.{1},@amJ.{1},@aiZ.{0},@amJ.{0},@ne_eq.{1},@alb.{0},@aj8.{0},@aiH.{0},@ans,@ahq.{0},@afL.{0},@arY.{0},@azF.{0},@List.set_cons_zero.{0},@List.set_cons_succ.{0},@ao0.{0},@amS.{0},@arV.{0},@List.take_zero.{0},@Nat.max_self,@Nat.zero_max,@Nat.max_zero⟩
def F1:=gG @AM @DS
def V2:=gG @abr<|gG @abu<|gG @abw<|gG @aby<|gG @abA<|gG @abC<|gG @abE<|gG @abG<|gG @abI<|gG @abK<|gG @abM<|gG @abO<|gG @abQ<|gG @abS<|gG @abU<|gG @abW<|gG @abY<|gG @ab0<|gG @abt<|gG @abv<|gG @abx<|gG @abz<|gG @abB<|gG @abD<|gG @abF<|gG @abH<|gG @abJ<|gG @abL<|gG @abN<|gG @abP<|gG @abR<|gG @abT<|gG @abV<|gG @abX<|gG @abZ<|gG @ab1<|gG @ab2<|gG @ab3<|gG @ab4<|gG @ab5<|gG @ab6<|gG @ab7<|gG @ab8<|gG @ab9<|gG @aca<|gG @acb<|gG @acd<|gG @ace @acf
def gp:List aO->lN
 | []=>[]
 |o::os=>match o.dst with
  |some d=>d::gp os
  |none=>gp os
def Fr.Dw{fr:Fr}(h:d≠some t): (fr.put d v).env t=fr.env t:=by
 cases d with
 |none=>rfl
 |some d=>
  simp only[Fr.put,Env.set]
  grind
section
variable{X:Ctx}{C:bw}{L:ee}
theorem Po: ∀ (os:List aO) (fr a:Fr) (E E':AS) (ex:Ex),eF X C os fr E=some (ex,a,E')-> ∀t,t∉gp os->a.env t=fr.env t
 | [],fr,a,E,E',ex,h,t,j=>by simp only[eF,afE,arE]at h;grind
 |o::os,fr,a,E,E',ex,h,t,j=>by
  have k:o.dst≠some t:=by
   intro e;apply j;simp[gp,e]
  have g:t∉gp os:=by
   intro e;apply j;simp only[gp];grind
  simp only[eF]at h;split at h
  ·split at h
   ·rw[Po os _ _ _ _ _ h t g,Fr.Dw k]
   ·grind
   grind
  ·rw[Po os _ _ _ _ _ h t g,Fr.Dw k]
end
def sg:lN->Nat->Bool
 | [],_=>false
 |a::as,t=>a==t||sg as t
theorem acq{t:Nat}: ∀ {W:lN},sg W t=true↔t∈W
 | []=>by simp[sg]
 |a::as=>by
  simp only[sg,arj,au5,ai2];rw[acq]
  grind
def acr(b:Bool)(a e:Env)(t:Nat):AV:=match b with|true=>a t|false=>e t
theorem acs{a:Env}:acr true a e t=a t:=rfl
theorem acu{a:Env}:acr false a e t=e t:=rfl
section
variable{X:Ctx}{f:FuncId}{rd:Bool}{E oc:AS}{Q:bQ}{e:Env}{ms:lN}{t:Nat}{b c:Bool}{d:oN}{i:I}{os:List aO}
def Pp(r:Nat)(v:AV)(ms:lN)(oc:AS)(Q:bQ):bQ
 |.normal,fr,E'=>fr.env r=v/\fr.marks=ms/\E'=oc
 |ex,fr,E'=>Q ex fr E'
theorem acv{ms a:lN}:Pp r v ms oc Q .normal ⟨e,a⟩ E=(e r=v/\a=ms/\E=oc):=rfl
end
def wu(e:Env):lN->Env->Env
 | [],a=>a
 |t::ts,a=>(wu e ts a).set t (e t)
theorem acw{W:lN}{e g:Env}(h: ∀t,t∉W->g t=e t): ∀a:lN,a.all (λk=>!sg W k)=true->wu e a g=g
 | [],_=>rfl
 |k::a,j=>by
  simp only[ax9,aiL]at j;have l:k∉W:=by grind [acq]
  simp only[wu];rw[acw h a j.2,<-h k l,Env.O8]
section
variable{X:Ctx}{f:FuncId}{rd:Bool}{E:AS}{Q:bQ}{e:Env}{ms:lN}{t:Nat}{b c:Bool}{d:oN}{i:I}{os:List aO}
def aq3(oc:AS)(r:Nat)(v:AV)(g:lN)(j:g.all (λk=>!sg (gp os) k)=true)(q:dn X os ⟨e,ms⟩ E (Pp r v ms oc Q))(p: ∀u,Q .normal ⟨(wu e g u).set r v,ms⟩ oc):dn X os ⟨e,ms⟩ E Q:=by
 obtain⟨ex,a,E',hr,h⟩:=q;have l:=Po os _ _ _ _ _ hr;refine⟨ex,a,E',hr,?_⟩;cases ex with
 |normal=>
  obtain⟨o,n,m⟩:=h;have:=p a.env;rw[acw l g j,<-o,Env.O8,<-n,<-m]at this;omega
 |_=>exact h
def uI(r:Nat)(v:AV)(a:lN){g:AV}(l:e t=g)(j:a.all (λk=>!sg (gp (⟨none,d,i⟩::os)) k)=true)(h:gK X t b d i os e ms E (Pp r v ms E Q) g)(m: ∀n,Q .normal ⟨(wu e a n).set r v,ms⟩ E):gK X t b d i os e ms E Q g:=by
 subst l;have key: ∀Q,gK X t b d i os e ms E Q (e t)=dn X (⟨some (t,b),d,i⟩::os) ⟨e,ms⟩ E Q:=by
  intro Q;cases b
  ·exact Ph.symm
  ·exact Pg.symm
 rw[key]at h⊢;exact aq3 E r v a j h m
def aq4(r:Nat)(v:AV)(ms:lN)(P:AS->Prop)(Q:bQ):bQ
 |.normal,fr,E'=>fr.env r=v/\fr.marks=ms/\P E'
 |ex,fr,E'=>Q ex fr E'
theorem acx{ms a:lN}{P:AS->Prop}:aq4 r v ms P Q .normal ⟨e,a⟩ E=(e r=v/\a=ms/\P E):=rfl
def Pq(P:Env->List ae->oN->Prop)(Q:bQ):bQ
 |.normal,fr,E'=>fr.marks=[]/\P fr.env E'.heap E'.lo
 |ex,fr,E'=>Q ex fr E'
def Ih{P:Env->List ae->oN->Prop}{H:List ae}:Pq P Q .normal ⟨e,[]⟩ ⟨H,lo⟩=P e H lo:=by simp[Pq]
def acy{p q:PC}{a:AV}(P:Env->List ae->oN->Prop)(g:od X f rd p q ⟨e,[]⟩ E (Pq P Q) a)(l: ∀e H lo,P e H lo->Q .normal ⟨e,[]⟩ ⟨H,lo⟩):od X f rd p q ⟨e,[]⟩ E Q a:=by
 have key: ∀Q,od X f rd p q ⟨e,[]⟩ E Q a=wp X f rd (.cond (.c a) p q) ⟨e,[]⟩ E Q:=λQ=>by rw[Pj];rfl
 rw[key]at g⊢;refine wp_mono g ?_;rintro ex ⟨m,ms⟩ ⟨H,lo⟩ h;cases ex with
 |normal=>obtain⟨k,j⟩:=h;grind
 |_=>exact h
end
def uJ(n:Nat)(a:AV):FP:=match a with
 |.ptr id off=>.rd id off (Nat.max n 1)
 |.dq .. =>.q
 |.eL .. =>.no
 |.dg _=>.no
 |_=>.all
def Ii(n:Nat)(a:AV):FP:=match a with
 |.ptr id off=>.wr id off n
 |.dq .. =>.app
 |_=>.all
noncomputable def Pr(E E':AS):FP:=open Classical in if E'=E then .q else .all
section
variable{e:Env}{E E':AS}
theorem acz:ba (.mov x) e E E'= .no:=rfl
theorem acA{c:ao}{a:ao}{b:ao}:ba (.pick c a b) e E E'= .no:=rfl
theorem acB{a:List (Nat×Nat×ao)}:ba (.build z a) e E E'= .no:=rfl
theorem acC{a:List (Nat×Nat×ao)}:ba (.bslice z n a) e E E'= .no:=rfl
theorem acD:ba (.nilck x) e E E'= .no:=rfl
theorem acE{a:BinOp}:ba (.bin a x y) e E E'= .no:=rfl
theorem acF{a:BinOp}:ba (.shf a x y) e E E'= .no:=rfl
theorem acG{k:EK}:ba (.eq k x y) e E E'= .no:=rfl
theorem acH{k:EK}:ba (.ne k x y) e E E'= .no:=rfl
theorem acI{a:UnOp}:ba (.un a x) e E E'= .no:=rfl
theorem acJ{a:IntKind}:ba (.conv a x) e E E'= .no:=rfl
theorem acK:ba (.s2b x) e E E'= .no:=rfl
theorem acL{ty:TypeId}:ba (.mki ty x) e E E'= .no:=rfl
theorem acM{fn:Fn}{g:List ao}{a:List ao}:ba (.mkf fn g a) e E E'= .no:=rfl
theorem acN{lo:Option ao}{a:Option ao}:ba (.slstr x lo a) e E E'= .no:=rfl
theorem acO{lo:Option ao}{g:Option ao}{a:Option ao}:ba (.slsl n x lo g a) e E E'= .no:=rfl
theorem acP{lo:Option ao}{a:Option ao}:ba (.slarr n m x lo a) e E E'= .no:=rfl
theorem acQ:ba (.faddr n x) e E E'= .no:=rfl
theorem acR:ba (.fld ag n m x) e E E'= .no:=rfl
theorem acS:ba (.iaddra n m x y) e E E'= .no:=rfl
theorem acT:ba (.iaddrs n x y) e E E'= .no:=rfl
theorem acU:ba (.idxa ag n m x y) e E E'= .no:=rfl
theorem acV:ba (.idxs x y) e E E'= .no:=rfl
theorem acW{a:AV}{ty:TypeId}{g:Bool}:ba (.ta a x ty g) e E E'= .no:=rfl
theorem acX:ba (.ext x n) e E E'= .no:=rfl
theorem acY{a:List ao}:ba (.max a) e E E'= .no:=rfl
theorem acZ{a:List ao}:ba (.min a) e E E'= .no:=rfl
theorem ac0{k:EK}{a:AV}{g:Bool}:ba (.lookup k a x y g) e E E'= .q:=rfl
theorem ac1:ba (.len .sl x) e E E'= .no/\ba (.len .str x) e E E'= .no/\ba (.len .map x) e E E'= .q:=⟨rfl,rfl,rfl⟩
theorem ac2{ty:TypeId}:ba (.append ty n m x y) e E E'= .app:=rfl
theorem ac3:ba (.alloc z tg) e E E'= .all:=rfl
theorem ac4:ba (.box x tg) e E E'= .all:=rfl
theorem ac5{ty:TypeId}{a:List (Nat×Nat×ao)}:ba (.rT ty z n a) e E E'= .all:=rfl
theorem ac6:ba (.nS) e E E'= .all:=rfl
theorem ac7{k:EK}{c:ao}:ba (.oW k x y c) e E E'= .all:=rfl
theorem ac8:ba (.copy n x y) e E E'= .all:=rfl
theorem ac9:ba (.clear z x) e E E'= .all:=rfl
theorem ada:ba (.panic x) e E E'= .all:=rfl
theorem adb:ba (.load ag n x) e E E'=uJ n (x.get e):=by rfl
theorem ade:ba (.store n x y) e E E'=Ii n (x.get e):=by rfl
theorem adf{a:List ao}:ba (.call x a) e E E'=Pr E E':=rfl
def adg:Pr E E= .q:=by simp[Pr]
theorem adh{id off:Nat}:uJ n (.ptr id off)= .rd id off (Nat.max n 1)/\uJ n (.dq id aj i off)= .q:=⟨rfl,rfl⟩
theorem adi{off:Nat}{cs:lA}:uJ n (.eL cs off)= .no:=rfl
theorem adj{g:Nat}:uJ n (.dg g)= .no:=rfl
theorem adk{id off:Nat}:Ii n (.ptr id off)= .wr id off n/\Ii n (.dq id aj i off)= .app:=⟨rfl,rfl⟩
theorem Rv.uJ(h:Rv v sz af){off:Nat}(k:j<af.length):Den.uJ n (fu v j off)= .no:=by
 obtain⟨g,a,l⟩:=h ⟨[],none⟩;cases v<;>simp only[]at g
 ·simp only[Den.elems]at a;grind
 ·rfl
 ·trivial
theorem Ij{x:FP}:FP.ok .no x=true:=by rfl
def Ik{x:FP}:FP.ok x .no=true:=by cases x<;>rfl
theorem Il{b c h g:Nat}:FP.ok (.rd a b c) (.rd a' h g)=true:=rfl
theorem Im{b c:Nat}:FP.ok (.rd a b c) .q=true:=rfl
theorem Io{b c:Nat}:FP.ok .q (.rd a b c)=true:=rfl
theorem Ip:FP.ok .q .q=true:=rfl
theorem Iq{b c:Nat}:FP.ok (.rd a b c) .app=true:=rfl
theorem Ir{b c:Nat}:FP.ok .app (.rd a b c)=true:=rfl
theorem Is{b c g h:Nat}:FP.ok (.rd a b c) (.wr a' g h)=(a !=a'||b+c<=g||g+h<=b):=rfl
theorem It{b c g h:Nat}:FP.ok (.wr a b c) (.rd a' g h)=(a !=a'||b+c<=g||g+h<=b):=rfl
end
def qK(bH:List FP)(x:FP):lN->Bool
 | []=>true
 |j::js=>(bH.getD j .all).ok x&&qK bH x js
theorem Ps{bH:List FP}{x:FP}: ∀js:lN,js.all (λj=>(bH.getD j .all).ok x)=qK bH x js
 | []=>rfl
 |j::js=>by simp only[ax9,qK,Ps js]
def kD(X:Ctx)(i:I)(ch:AS)(bH:List FP)(js:lN)(os:List (aO×lN))(d:oN)(e:Env)(ms:lN)(Q:bQ):AV->AS->Prop:=λv E=>
 qK bH (ba i e ch E) js=true/\gn X (bH++[ba i e ch E]) os (Fr.put ⟨e,ms⟩ d v) E Q
def kF(bH:List FP)(i:I)(d:oN)(js:lN)(os:List (aO×lN))(e:Env)(ms:lN)(Q:bQ):AV->AS->Prop:=λv E=>Dd bH (⟨none,d,i⟩,js) os=true/\Q (.panic v) ⟨e,ms⟩ E
def adl{X:Ctx}{E:AS}{Q:bQ}{ms:lN}{bH:List FP}{js:lN}{os:List (aO×lN)}{i:I}:gn X bH ((⟨none,d,i⟩,js)::os) ⟨e,ms⟩ E Q=aP X i e E (kD X i E bH js os d e ms Q) (kF bH i d js os e ms Q):=by
 apply propext;simp only[gn,aP,fZ,fL,aiZ];cases g:exec X (D X) i e E with
 |none=>simp[qI]
 |some o=>
  cases o with
  |ok v E'=>
   simp only[qI,Ps];by_cases a:qK bH (ba i e E E') js=true
   ·rw[afJ a];exact⟨λh=>⟨a,h⟩,λh=>h.2⟩
   ·simp[kD,a]
  |panic v E'=>
   simp only[qI,kF]
   grind
section
variable{X:Ctx}{f:FuncId}{rd:Bool}{E ch:AS}{Q:bQ}{e:Env}{ms:lN}{bH:List FP}{js:lN}{os:List (aO×lN)}{i:I}{d:Nat}{v:AV}
theorem adm:gn X bH [] ⟨e,ms⟩ E Q=Q .normal ⟨e,ms⟩ E:=propext (by simp only[gn,fZ];grind)
theorem adn:gn X bH ((o d i,js)::os) ⟨e,ms⟩ E Q=aP X i e E (kD X i E bH js os (some d) e ms Q) (kF bH i (some d) js os e ms Q):=adl
theorem ado:gn X bH ((u i,js)::os) ⟨e,ms⟩ E Q=aP X i e E (kD X i E bH js os none e ms Q) (kF bH i none js os e ms Q):=adl
theorem adp:kD X i ch bH js os (some d) e ms Q v E=(qK bH (ba i e ch E) js=true/\gn X (bH++[ba i e ch E]) os ⟨e.set d v,ms⟩ E Q):=rfl
theorem adq:kD X i ch bH js os none e ms Q v E=(qK bH (ba i e ch E) js=true/\gn X (bH++[ba i e ch E]) os ⟨e,ms⟩ E Q):=rfl
theorem adr{x:FP}:qK bH x []=true:=rfl
theorem ads{x:FP}:qK bH x (j::js)=((bH.getD j .all).ok x&&qK bH x js):=rfl
theorem adt{H:List ae}:wp X f rd (.uq os) ⟨e,ms⟩ ⟨H,lo⟩ Q=gn X [] (gQ H.length os) ⟨e,ms⟩ ⟨H++ds os,lo⟩ Q:=aqm
theorem adu{x y:FP}{l:List FP}: (x::l).getD 0 y=x:=rfl
end
def db:I->Option ae
 |.alloc z tg=>some (.box z tg)
 |_=>none
theorem adv{d:Nat}{i:I}:aO.fB (o d i)=db i:=by rfl
theorem adw{i:I}:aO.fB (u i)=db i:=by rfl
theorem adx{i:I}:aO.fB (gt t d i)=db i:=by rfl
theorem ady{i:I}:aO.fB (gf t d i)=db i:=by rfl
def iG(n:Nat)(x:aO)(l:lN)(os:List (aO×lN)):Option ae->List (aO×lN)
 |none=>(x,l)::gQ n os
 |some _=>({x with i:=.mov (.c (.ptr n 0))},l)::gQ (n+1) os
def zC(os:List (aO×lN)):Option ae->List ae
 |none=>ds os
 |some b=>b::ds os
theorem adz:gQ n []=[]:=rfl
def adA{x:aO}{l:lN}{os:List (aO×lN)}:gQ n ((x,l)::os)=iG n x l os x.fB:=by
 simp only[gQ,lO];cases x.fB<;>rfl
theorem adB{x:aO}{l:lN}{os:List (aO×lN)}:iG n x l os none=(x,l)::gQ n os:=rfl
theorem adC{d:Nat}{i:I}{l:lN}{os:List (aO×lN)}{b:ae}:iG n (o d i) l os (some b)=(o d (.mov (.c (.ptr n 0))),l)::gQ (n+1) os:=rfl
theorem adD{i:I}{l:lN}{os:List (aO×lN)}{b:ae}:iG n (gt t d i) l os (some b)=(gt t d (.mov (.c (.ptr n 0))),l)::gQ (n+1) os:=rfl
theorem adE{i:I}{l:lN}{os:List (aO×lN)}{b:ae}:iG n (gf t d i) l os (some b)=(gf t d (.mov (.c (.ptr n 0))),l)::gQ (n+1) os:=rfl
theorem adF:ds []=[]:=rfl
def adG{x:aO}{l:lN}{os:List (aO×lN)}:ds ((x,l)::os)=zC os x.fB:=by
 simp only[ds];cases x.fB<;>rfl
theorem adH{os:List (aO×lN)}:zC os none=ds os:=rfl
theorem adI{os:List (aO×lN)}{b:ae}:zC os (some b)=b::ds os:=rfl
theorem adJ:db (.alloc z tg)=some (.box z tg):=rfl
theorem adK{a:_}:db (.mov a)=none:=rfl
theorem adL{h:_}{g:_}{a:_}:db (.pick h g a)=none:=rfl
theorem adM{g:_}{a:_}:db (.box g a)=none:=rfl
theorem adN{g:_}{a:_}:db (.build g a)=none:=rfl
theorem adO{h:_}{g:_}{a:_}:db (.bslice h g a)=none:=rfl
theorem adP{j:_}{h:_}{g:_}{a:_}:db (.rT j h g a)=none:=rfl
theorem adQ{h:_}{g:_}{a:_}:db (.load h g a)=none:=rfl
theorem adR{h:_}{g:_}{a:_}:db (.store h g a)=none:=rfl
theorem adS{a:_}:db (.nilck a)=none:=rfl
theorem adT{h:_}{g:_}{a:_}:db (.bin h g a)=none:=rfl
theorem adU{h:_}{g:_}{a:_}:db (.shf h g a)=none:=rfl
theorem adV{h:_}{g:_}{a:_}:db (.eq h g a)=none:=rfl
theorem adW{h:_}{g:_}{a:_}:db (.ne h g a)=none:=rfl
theorem adX{g:_}{a:_}:db (.un g a)=none:=rfl
theorem adY{g:_}{a:_}:db (.conv g a)=none:=rfl
theorem adZ{a:_}:db (.s2b a)=none:=rfl
theorem ad0{g:_}{a:_}:db (.mki g a)=none:=rfl
theorem ad1{h:_}{g:_}{a:_}:db (.mkf h g a)=none:=rfl
theorem ad2:db .nS=none:=rfl
theorem ad3{h:_}{g:_}{a:_}:db (.slstr h g a)=none:=rfl
theorem ad4{k:_}{j:_}{h:_}{g:_}{a:_}:db (.slsl k j h g a)=none:=rfl
theorem ad5{k:_}{j:_}{h:_}{g:_}{a:_}:db (.slarr k j h g a)=none:=rfl
theorem ad6{g:_}{a:_}:db (.faddr g a)=none:=rfl
theorem ad7{j:_}{h:_}{g:_}{a:_}:db (.fld j h g a)=none:=rfl
theorem ad8{j:_}{h:_}{g:_}{a:_}:db (.iaddra j h g a)=none:=rfl
theorem ad9{h:_}{g:_}{a:_}:db (.iaddrs h g a)=none:=rfl
theorem aea{k:_}{j:_}{h:_}{g:_}{a:_}:db (.idxa k j h g a)=none:=rfl
theorem aeb{g:_}{a:_}:db (.idxs g a)=none:=rfl
theorem aec{k:_}{j:_}{h:_}{g:_}{a:_}:db (.lookup k j h g a)=none:=rfl
theorem aed{j:_}{h:_}{g:_}{a:_}:db (.oW j h g a)=none:=rfl
theorem aee{j:_}{h:_}{g:_}{a:_}:db (.ta j h g a)=none:=rfl
theorem aef{g:_}{a:_}:db (.ext g a)=none:=rfl
theorem aeg{g:_}{a:_}:db (.len g a)=none:=rfl
theorem aeh{k:_}{j:_}{h:_}{g:_}{a:_}:db (.append k j h g a)=none:=rfl
theorem aei{h:_}{g:_}{a:_}:db (.copy h g a)=none:=rfl
theorem aej{g:_}{a:_}:db (.clear g a)=none:=rfl
theorem aek{a:_}:db (.max a)=none:=rfl
theorem ael{a:_}:db (.min a)=none:=rfl
theorem aem{g:_}{a:_}:db (.call g a)=none:=rfl
theorem aen{a:_}:db (.panic a)=none:=rfl
def N1:=gG @adv<|gG @adw<|gG @adx<|gG @ady<|gG @adz<|gG @adA<|gG @adB<|gG @adC<|gG @adD<|gG @adE<|gG @adF<|gG @adG<|gG @adH<|gG @adI<|gG @adJ<|gG @adK<|gG @adL<|gG @adM<|gG @adN<|gG @adO<|gG @adP<|gG @adQ<|gG @adR<|gG @adS<|gG @adT<|gG @adU<|gG @adV<|gG @adW<|gG @adX<|gG @adY<|gG @adZ<|gG @ad0<|gG @ad1<|gG @ad2<|gG @ad3<|gG @ad4<|gG @ad5<|gG @ad6<|gG @ad7<|gG @ad8<|gG @ad9<|gG @aea<|gG @aeb<|gG @aec<|gG @aed<|gG @aee<|gG @aef<|gG @aeg<|gG @aeh<|gG @aei<|gG @aej<|gG @aek<|gG @ael<|gG @aem @aen
def P1:=gG @adt<|gG @adm<|gG @adn<|gG @ado<|gG @adp<|gG @adq<|gG @adr<|gG @ads<|gG @adu<|gG @adb<|gG @ade<|gG @adf<|gG @adg<|gG @adh<|gG @adi<|gG @adj<|gG @adk<|gG @Ij<|gG @Ik<|gG @Il<|gG @Im<|gG @Io<|gG @Ip<|gG @Iq<|gG @Ir<|gG @Is<|gG @It<|gG @acz<|gG @acA<|gG @acB<|gG @acC<|gG @acD<|gG @acE<|gG @acF<|gG @acG<|gG @acH<|gG @acI<|gG @acJ<|gG @acK<|gG @acL<|gG @acM<|gG @acN<|gG @acO<|gG @acP<|gG @acQ<|gG @acR<|gG @acS<|gG @acT<|gG @acU<|gG @acV<|gG @acW<|gG @acX<|gG @acY<|gG @acZ<|gG @ac0<|gG @ac1<|gG @ac2<|gG @ac3<|gG @ac4<|gG @ac5<|gG @ac6<|gG @ac7<|gG @ac8<|gG @ac9 @ada
def aq5{X:Ctx}(pf:PF){args cap:lA}{H:List ae}{a:aS}(g:X.bU f=none)(k:X.code f=some pf)(j:Nat.ble (args++cap).length pf.ntmps=true)
 (h: ∀n,H.length=n->wp X f false pf.body ⟨cZ (args++cap),[]⟩ ⟨H,none⟩ (dp X n lo pf.results (· =a))):D X (.fn (.func f) [] cap) args ⟨H,lo⟩=some a:=by grind [Nat.le_of_ble_eq_true,Zs]
def aq6{X:Ctx}{rd:Bool}{E:AS}{Q:bQ}(m:Nat)(I:Nat->Env->List ae->Prop){H:List ae}(k:Nat)(g:k<=m)(n:I k e H)
  (l: ∀k,k<=m-> ∀e H,I k e H->wp X f rd b ⟨e,[]⟩ ⟨H,none⟩ (λex a E'=>match ex with|.normal=>k<m/\ ∃h H',a=⟨h,[]⟩/\E'=⟨H',none⟩/\I (k+1) h H'|ex=>Q ex a E')):wp X f rd (.loop b) ⟨e,[]⟩ ⟨H,none⟩ Q:=by
 refine wp_loop (S:=Nat) (λk fr E=>k<=m/\ ∃e H,fr=⟨e,[]⟩/\E=⟨H,none⟩/\I k e H) (λk=>m-k) k ⟨g,e,H,rfl,rfl,n⟩ ?_;rintro k fr E ⟨g,e,H,rfl,rfl,j⟩;refine wp_mono (l k g e H j) ?_
 grind
def AN(k m:Nat)(I:Nat->Env->List ae->Prop)(Q:bQ):bQ:=λex a E'=>match ex with|.normal=>k<m/\ ∃g H',a=⟨g,[]⟩/\E'=⟨H',none⟩/\I (k+1) g H'|ex=>Q ex a E'
def aeo{I:Nat->Env->List ae->Prop}{Q:bQ}{H:List ae}:AN k m I Q .normal ⟨e,[]⟩ ⟨H,none⟩=(k<m/\I (k+1) e H):=by
 simp only[AN]
 grind
theorem aep{I:Nat->Env->List ae->Prop}{Q:bQ}{fr:Fr}{E:AS}:AN k m I Q (.exit i) fr E=Q (.exit i) fr E:=rfl
theorem aeq{I:Nat->Env->List ae->Prop}{Q:bQ}{fr:Fr}{E:AS}:AN k m I Q .ret fr E=Q .ret fr E:=rfl
theorem aer{I:Nat->Env->List ae->Prop}{Q:bQ}{fr:Fr}{E:AS}:AN k m I Q (.panic v) fr E=Q (.panic v) fr E:=rfl
theorem dV{X:Ctx}{rd:Bool}{Q:bQ}(m:Nat)(I:Nat->Env->List ae->Prop){H:List ae}(k:Nat)(a:k<=m)(j:I k e H)
  (h: ∀k,k<=m-> ∀e H,I k e H-> ∀n,H.length=n->wp X f rd b ⟨e,[]⟩ ⟨H,none⟩ (AN k m I Q)):wp X f rd (.loop b) ⟨e,[]⟩ ⟨H,none⟩ Q:=
 aq6 (E:=⟨H,none⟩) m I k a j λk a e H g=>h k a e H g _ rfl
def AO(k m:Nat)(I:Nat->Env->List ae->oN->Prop)(Q:bQ):bQ:=λex a E'=>match ex with|.normal=>k<m/\a.marks=[]/\I (k+1) a.env E'.heap E'.lo|ex=>Q ex a E'
def aes{I:Nat->Env->List ae->oN->Prop}{Q:bQ}{H:List ae}:AO k m I Q .normal ⟨e,[]⟩ ⟨H,lo⟩=(k<m/\I (k+1) e H lo):=by
 simp[AO]
theorem aet{I:Nat->Env->List ae->oN->Prop}{Q:bQ}{fr:Fr}{E:AS}:AO k m I Q (.exit i) fr E=Q (.exit i) fr E:=rfl
theorem aeu{I:Nat->Env->List ae->oN->Prop}{Q:bQ}{fr:Fr}{E:AS}:AO k m I Q .ret fr E=Q .ret fr E:=rfl
def gS{X:Ctx}{rd:Bool}{Q:bQ}(m:Nat)(I:Nat->Env->List ae->oN->Prop){H:List ae}(k:Nat)(g:k<=m)(o:I k e H lo)
  (l: ∀k,k<=m-> ∀e H lo,I k e H lo-> ∀n,H.length=n->wp X f rd b ⟨e,[]⟩ ⟨H,lo⟩ (AO k m I Q)):wp X f rd (.loop b) ⟨e,[]⟩ ⟨H,lo⟩ Q:=by
 refine wp_loop (S:=Nat) (λk fr E=>k<=m/\fr.marks=[]/\I k fr.env E.heap E.lo) (λk=>m-k) k ⟨g,rfl,o⟩ ?_;rintro k ⟨e,ms⟩ ⟨H,lo⟩ ⟨g,a,j⟩;subst a;refine wp_mono (l k g e H lo j _ rfl) ?_;intro ex fr E h;cases ex with
 |normal=>
  obtain⟨r,q,p⟩:=h
  grind
 |_=>exact h
section
variable{S:Type}{I:S->Env->List ae->Prop}{μ:S->Nat}{s:S}{Q:bQ}
end
def Iu(X:Ctx)(f:FuncId)(rd:Bool)(b:PC)(Q:bQ):bQ
 |.normal,fr,E=>wp X f rd (.loop b) fr E Q
 |ex,fr,E=>Q ex fr E
section
variable{X:Ctx}{f:FuncId}{rd:Bool}{b:PC}{fr:Fr}{E:AS}{Q:bQ}{i:Nat}{v:AV}
theorem aev:Iu X f rd b Q .normal fr E=wp X f rd (.loop b) fr E Q:=rfl
theorem aew:Iu X f rd b Q (.exit i) fr E=Q (.exit i) fr E:=rfl
theorem aex:Iu X f rd b Q .ret fr E=Q .ret fr E:=rfl
theorem aey:Iu X f rd b Q (.panic v) fr E=Q (.panic v) fr E:=rfl
end
theorem aez{a:Env}:wu e [] a=a:=rfl
theorem aeA{g:Env}{a:lN}:wu e (t::a) g=(wu e a g).set t (e t):=rfl
def aeB{p:Prop}[Decidable p]: (!decide p)=decide (¬p):=by simp
theorem aeC:gp []=[]:=rfl
theorem aeD{i:I}{os:List aO}:gp (o a i::os)=a::gp os:=rfl
theorem aeE{i:I}{os:List aO}:gp (u i::os)=gp os:=rfl
theorem aeF{i:I}{os:List aO}:gp (gt t (some a) i::os)=a::gp os:=rfl
theorem aeG{i:I}{os:List aO}:gp (gf t (some a) i::os)=a::gp os:=rfl
theorem aeH{i:I}{os:List aO}:gp (gt t none i::os)=gp os:=rfl
theorem aeI{i:I}{os:List aO}:gp (gf t none i::os)=gp os:=rfl
theorem aeJ{i:I}{os:List aO}:gp (⟨none,some a,i⟩::os)=a::gp os:=rfl
theorem aeK{i:I}{os:List aO}:gp (⟨none,none,i⟩::os)=gp os:=rfl
theorem aeL:sg [] t=false:=rfl
theorem aeM{as:lN}:sg (a::as) t=(a==t||sg as t):=rfl
def ff: (false=true)=False:=by simp
def tt: (true=true)=True:=by simp
def C1:=gG @acx<|gG @aes<|gG @aet<|gG @aeu<|gG @aev<|gG @aew<|gG @aex<|gG @aey<|gG @aeo<|gG @aep<|gG @aeq<|gG @aer<|gG @acs<|gG @acu<|gG @auP<|gG @au3<|gG @azH<|gG @ao1<|gG @aez<|gG @aeA<|gG @aeB<|gG @aeC<|gG @aeD<|gG @aeE<|gG @aeF<|gG @aeG<|gG @aeH<|gG @aeI<|gG @aeJ<|gG @aeK<|gG @aeL<|gG @aeM<|gG @ff @acv
def aF{X:Ctx}(pf:PF){args:lA}{H:List ae}{a:aS}
 (h: ∀n,H.length=n->wp X f false pf.body ⟨cZ args,[]⟩ ⟨H,none⟩ (dp X n lo pf.results (· =a))) (g:X.bU f=none:=by exact rfl) (k:X.code f=some pf:=by exact rfl) (j:Nat.ble args.length pf.ntmps=true:=by exact rfl):D X (.fn (.func f) [] []) args ⟨H,lo⟩=some a:=Pa pf g k j h
def cy{X:Ctx}(pf:PF){args:lA}{H:List ae}{R:aS->Prop}
 (h: ∀n,H.length=n->wp X f false pf.body ⟨cZ args,[]⟩ ⟨H,none⟩ (dp X n lo pf.results R)) (g:X.bU f=none:=by exact rfl) (k:X.code f=some pf:=by exact rfl) (j:Nat.ble args.length pf.ntmps=true:=by exact rfl): ∃a,D X (.fn (.func f) [] []) args ⟨H,lo⟩=some a/\R a:=aqZ pf g k j h
def eP{X:Ctx}(pf:PF){args cap:lA}{H:List ae}{a:aS}
 (h: ∀n,H.length=n->wp X f false pf.body ⟨cZ (args++cap),[]⟩ ⟨H,none⟩ (dp X n lo pf.results (· =a))) (g:X.bU f=none:=by exact rfl) (k:X.code f=some pf:=by exact rfl) (j:Nat.ble (args++cap).length pf.ntmps=true:=by exact rfl):D X (.fn (.func f) [] cap) args ⟨H,lo⟩=some a:=aq5 pf g k j h
section
variable{P:Program}{X:Ctx}{B:Nat}{av:World}{cS:List Deferred}
section
variable{C:bw}(hC:fI P B av C)(hg:fo X B av){r:oN}{n nt:Nat}{rows:Bool}
include hC hg
theorem Pt{c:Array Oper}(j:lN): ∀ (os:List Oper) (is:lN) (l:List aO),is.map (c[·]?)=os.map some->kW P rows c os=some l->(∀x∈l,∀d,x.dst=some d->d<nt)->
  ∀ (G:Gh) (E:AS) (w:World) (fr:Fr) (a:Act) (res:Ex×Fr×AS) (Q:Exit->Act->World->Prop),aU P B av G E w->cC G nt fr.env a.tmps->ga cS G fr.marks a.defers->eF X C l fr E=some res->
  (∀a w,res.1= .normal->mo P B av cS G E nt res .normal a w->wpOpsIn (W r) n P c Q j a w)->(∀e a w,res.1≠ .normal->mo P B av cS G E nt res e a w->Q e a w)->wpOpsIn (W r) n P c Q (is++j) a w
 | [],is,l,p,m,q,G,E,w,fr,a,res,Q,hw,he,hm,hr,z,u=>by
   have:is=[]:=by simp_all
   subst this;simp only[kW,afE]at m;subst m;simp only[eF,afE]at hr;subst hr;exact z _ _ rfl ⟨G,G.le_refl,hw,he,hm,.refl E,trivial⟩
 |o::os,is,l,p,m,q,G,E,w,fr,a,res,Q,hw,he,hm,hr,z,u=>by
  cases is with
  |nil=>grind
  |cons i is=>
   simp only[aoZ,aBT]at p;obtain⟨F,p⟩:=p;simp only[kW]at m;split at m
   ·rename_i x xs g s;cases m;simp only[alb,wpOpsIn,F];have H:guardOf c o=some x.g:=by
     unfold ie at g;split at g
     ·rename_i I;cases g;exact I
     ·cases g
    have t:x.dst=o.dst:=by
     unfold ie at g;split at g
     ·cases g;rfl
     ·cases g
    have D:=yg he H;simp only[eF]at hr;rw[D];split at hr
    ·rename_i k;rw[afJ k];split at hr
     ·rename_i v M hex;refine yh hC hg g (q x (by simp)) hw he hm hex (λb f e V a' w' K I J T S=>?_) (λb f e=>by cases e);cases e;exact Pt j os is xs p s (λy A=>q y (by simp[A])) V M w' _ a' res Q I T S hr (λa w e h=>z a w e (h.trans K J)) (λe a w U h=>u e a w U (h.trans K J))
     ·rename_i v M hex;cases hr;exact yh hC hg g (q x (by simp)) hw he hm hex (λb f e=>by cases e) (λb f e Y a' w' h=>by cases e;exact u _ _ _ (by simp) h)
     ·cases hr
    ·rename_i k;rw[afB k];refine⟨λ_ _=>trivial,?_⟩;obtain⟨R,O,N⟩:=qB (a:=a) he (q x (by simp)) (v:=.undef) (v':=undef) yf;rw[<-t];exact Pt j os is xs p s (λy A=>q y (by simp[A])) G E w _ _ res Q hw R (by rw[O,N];exact hm) hr z u
   grind
end
structure wv where
 dst:Nat
 pf:PF
 deriving Inhabited
def aeN(o:Oper):Bool:=match o.op with
 |.call c=>match c.callee,c.args.toList,o.guard with
  |.builtin .recover,[],none=>true
  |_,_,_=>false
 |_=>false
def Pu(o:Oper):Bool:=match o.op,o.guard with
 |.move _,none=>true
 |.assign _,none=>true
 |_,_=>false
def aeO(P:Program)(rows:Bool)(nt:Nat):Code->Option (Nat×PC)
 |.seq (.region _ ops false) b=>match ops.toList with
  |o::os=>match o.dst,kW P rows ops os,eG P rows nt b with
   |some d,some xs,some a=>if aeN o=true/\os.all Pu=true/\d<nt/\xs.all (λx=>match x.dst with|some d=>d<nt|none=>true)then some (d,.seq (.aL xs) a)else none
   |_,_,_=>none
  | []=>none
 |_=>none
def AP(P:Program)(rows:Bool)(fn:Func):Option wv:=
 match fn.body with
 |some c=>match aeO P rows fn.ntmps c,oY P fn.results.toList with
  |some (d,b),some rs=>if(fn.name != "runtime.NumGoroutine")then some ⟨d,{ntmps:=fn.ntmps,results:=rs,body:=b}⟩else none
  |_,_=>none
 |none=>none
noncomputable def Iv(X:Ctx)(C:bw)(L:ee)(g:FuncId)(pr:wv)(args:lA)(rv:AV)(E:AS):Option AS:=
 if args.length<=pr.pf.ntmps then
  match aY X C L g false pr.pf.body {env:=(cZ args).set pr.dst rv,marks:=[]} {E with lo:=none}with
  |some (.normal,⟨e,[]⟩,a)=>(fk X a e pr.pf.results).map λv=>(finish E.heap.length E.lo v a).2
  |some (.ret,⟨e,[]⟩,a)=>(fk X a e pr.pf.results).map λv=>(finish E.heap.length E.lo v a).2
  |_=>none
 else none
def aeP(G:Gh)(u:FrameMode)(rv:AV):Prop:=
 (u= .returning/\rv= .ez)\/ ∃v',u= .panicking [{v:=v',recovered:=false}]/\an G rv v'
section
variable{C:bw}(hC:fI P B av C)(hg:fo X B av)(hX:o7 P X)(gl:Ax P X B av){L:ee}(hL:yi L)
include hC hg hX gl hL
omit hC hg hX gl hL in
theorem aeQ{n nt:Nat}{rows:Bool}{b:Array Oper}{cs:List Frame}: ∀ (os:List Oper) (is:lN) (l:List aO),is.map (b[·]?)=os.map some->kW P rows b os=some l->os.all Pu=true->(∀x∈l,∀d,x.dst=some d->d<nt)->
  ∀ (G:Gh) (E:AS) (w:World) (fr:Fr) (a:Act) (Q:Exit->Act->List Frame->World->Prop) (res:Ex×Fr×AS),aU P B av G E w->cC G nt fr.env a.tmps->ga [] G fr.marks a.defers->eF X C l fr E=some res->
  (∀a' m,res=(.normal,m,E)->cC G nt m.env a'.tmps->ga [] G m.marks a'.defers->Q .normal a' cs w)->wpOpsSIn (W none) n P b Q is a cs w
 | [],is,l,k,h,_,I,G,E,w,fr,a,Q,res,hw,he,hm,hr,J=>by
   have:is=[]:=by simpa using k
   subst this;simp only[kW,afE]at h;subst h;simp only[eF,afE]at hr;exact J a fr hr.symm he hm
 |o::os,is,l,k,h,e,I,G,E,w,fr,a,Q,res,hw,he,hm,hr,J=>by
  cases is with
  |nil=>simp at k
  |cons i is=>
   simp only[aoZ,aBT]at k;obtain⟨H,k⟩:=k;simp only[ax9,aiL]at e;obtain⟨j,e⟩:=e;simp only[kW]at h;split at h
   ·rename_i x xs c A;cases h;have q: (∃z,(o.op= .move z\/o.op= .assign z))/\o.guard=none:=by
     unfold Pu at j;split at j
     ·rename_i z u t;exact⟨⟨_,.inl u⟩,t⟩
     ·rename_i z u t;exact⟨⟨_,.inr u⟩,t⟩
     ·cases j
    obtain⟨⟨z,f⟩,s⟩:=q;have D: ∃y,bJ z=some y/\x={g:=none,dst:=o.dst,i:=.mov y}:=by
     unfold ie at c;have u:guardOf b o=some none:=by unfold guardOf;rw[s]
     rw[u]at c;have t:kT P rows o=(bJ z).map .mov:=by
      rcases f with f|f<;>simp only[kT,f]
     rw[t]at c;cases v:bJ z with
     |none=>rw[v]at c;cases c
     |some y=>rw[v]at c;cases c;exact⟨y,rfl,rfl⟩
    obtain⟨y,v,rfl⟩:=D;have p: (execOp a.eval o).run P w= .ok (.value (a.eval z)) w:=by
     rcases f with f|f<;>(unfold execOp;simp only[f];rfl)
    simp only[wpOpsSIn,H];have F:Region.wanted o (yielded b a.tmps)=true:=by simp[Region.wanted,s]
    rw[afJ F,p];refine⟨λ_ _=>trivial,?_⟩;simp only[eF,fL,aiZ,exec]at hr;obtain⟨N,M,K⟩:=qB (a:=a) (dst:=o.dst) he (I {g:=none,dst:=o.dst,i:=.mov y} (by simp)) (cu he v);exact aeQ os is xs k A e (λx c=>I x (by simp[c])) G E w _ _ Q res hw N (by rw[M,K];exact hm) hr J
   ·cases h
theorem aq7{g:FuncId}{fn:Func}{pr:wv}{rows:Bool}(hfn:P.funcs[g]?=some fn)(q:AP P rows fn=some pr){args:lA}{E f:AS}{rv:AV}
  (h:Iv X C L g pr args rv E=some f) {G:Gh}  {a:Array Value} (hw:aU P B av G E w) (hl:aD G args a.toList) {u:FrameMode} (hu:aeP G u rv):
  CallsDIn (W none) n P g a u w (λe A w'=>settle A= .returning/\ ∃v K,e= .returned v/\G.le K/\aU P B av K f w'/\E.Ext f):=by
 unfold AP at q;split at q
 case h_2=>grind
 rename_i c hb;split at q
 case h_2=>grind
 rename_i d b rs p hrs;split at q
 case isFalse=>grind
 cases q;unfold aeO at p;split at p
 case h_2=>cases p
 rename_i id ops b';split at p
 case h_2=>cases p
 rename_i o os y;split at p
 case h_2=>cases p
 rename_i d' xs pb Pv wx hpb;split at p
 case isFalse=>cases p
 rename_i U;cases p;obtain⟨I,hmv,hdn,yu⟩:=U;unfold Iv at h;split at h
 case isFalse=>cases h
 rename_i z;simp only at z h;cases H:aY X C L g false (.seq (.aL xs) pb) {env:=(cZ args).set d rv,marks:=[]} {E with lo:=none}with
 |none=>rw[H]at h;cases h
 |some res=>
 have k:=H;simp only[aY]at k;cases s:eF X C xs {env:=(cZ args).set d rv,marks:=[]} {E with lo:=none}with
 |none=>rw[s]at k;cases k
 |some Y=>
 rw[s]at k;refine callsDIn_of_wpSIn hfn hb trivial λl cs T=>?_
 refine wpSIn_seq (wpSIn_region ?_);have aDi:0<ops.size:=by rw[<-anS,y];simp
 have M:List.range ops.size=0:: (List.range' 1 (ops.size-1)):=by
  rw[aBW,show ops.size=(ops.size-1)+1 by omega,List.range'_succ];simp
 have h0:ops[0]?=some o:=by rw[<-arG,y];rfl
 rw[M];simp only[wpOpsSIn,h0];have ard: (∃c,o.op= .call c/\c.callee= .builtin .recover/\c.args.toList=[])/\o.guard=none:=by
  unfold aeN at I;split at I
  ·rename_i c R;split at I
   ·rename_i h1 h2 h3;exact⟨⟨c,R,h1,h2⟩,h3⟩
   ·cases I
  ·cases I
 obtain⟨⟨cc,R,Pw,aDj⟩,ij⟩:=ard;have Px: ∀t:Array Value,Region.wanted o (yielded ops t)=true:=λt=>by simp[Region.wanted,ij]
 have S: ∀ρ,(execOp ρ o).run P w= .ok .recover w:=by
  intro ρ;unfold execOp;simp only[R,resolve,Pw];simp[invoke,builtin]
 rw[afJ (Px _),S];refine⟨λ_ _=>trivial,?_⟩;have he0:cC G fn.ntmps (cZ args) (a++Array.replicate (fn.ntmps-a.size) undef):=HE hl z;have Py: (List.range' 1 (ops.size-1)).map (ops[·]?)=os.map some:=by
  apply apg;intro j;have hos:os.length=ops.size-1:=by
   have:ops.toList.length=os.length+1:=by rw[y];rfl
   rw[anS]at this;omega
  by_cases hj:j<os.length
  ·have e1: (List.range' 1 (ops.size-1))[j]?=some (1+j):=by
     rw[List.getElem?_range' (by omega)];simp
   simp only[aiY,e1,ahi,ag6 hj];rw[<-arG,y,Nat.add_comm,azF,ag6 hj]
  ·rw[anQ (by simp;omega),anQ (by simp;omega)]
 have arf: ∀x∈xs,∀d,x.dst=some d->d<fn.ntmps:=by
  intro x hx d Z;have:=ahp.1 yu x hx;rw[Z]at this;simpa using this
 have key: ∀ (v':Value) (N:List Frame) (A:FrameMode),an G rv v'->settle A= .returning->N={l with mode:=A}::cs->
   wpOpsSIn (W none) n P ops (Exit.thenS (b'.wpSIn (W none) n P (bodyPostS P fn l cs (λe A w'=>settle A= .returning/\ ∃v K,e= .returned v/\G.le K/\aU P B av K f w'/\E.Ext f))) (bodyPostS P fn l cs (λe A w'=>settle A= .returning/\ ∃v K,e= .returned v/\G.le K/\aU P B av K f w'/\E.Ext f)))
    (List.range' 1 (ops.size-1)) (Act.put {tmps:=a++Array.replicate (fn.ntmps-a.size) undef,defers:=[]} o.dst v') N w:=by
  intro v' N A hv O Hx;rw[Pv];have he1:cC G fn.ntmps ((cZ args).set d rv) (Act.put {tmps:=a++Array.replicate (fn.ntmps-a.size) undef,defers:=[]} (some d) v').tmps:=he0.set hdn hv;refine aeQ os _ xs Py wx hmv arf G {E with lo:=none} w {env:=(cZ args).set d rv,marks:=[]} _ _ Y (hw.lo none) he1 rfl s (λa1 Iw Q he2 hm2=>?_);subst Q;simp only at k;simp only[Exit.thenS];refine wpSIn_of_wpIn rfl (wg hC hg hX gl hL (r:=none) rfl b' pb hpb G {E with lo:=none} w Iw a1 res _ (hw.lo none) he2 hm2 k (λe a2 w2 ark=>?_));obtain⟨G2,q1,q2,q3,q4,q5,q6⟩:=ark;obtain⟨ex,⟨e2,ms⟩,V⟩:=res;rw[H]at h;have fin:ms=[]->(∃v,fk X V e2 rs=some v/\ (finish E.heap.length E.lo v V).2=f)->(e= .normal\/e= .ret)->bodyPostS P fn l cs (λe A w'=>settle A= .returning/\ ∃v K,e= .returned v/\G.le K/\aU P B av K f w'/\E.Ext f) e a2 N w2:=by
   intro hms ⟨v,F,D⟩ hee;subst hms;obtain⟨v2,r1,r2⟩:=Du hg q2 q3 hrs F;obtain⟨G3,p1,p2,p3,p4⟩:=ye hw q1 q2 q5 r2;rw[D]at p2 p4;have hd2:a2.defers=[]:=q4;rcases hee with rfl|rfl
   ·exact⟨hd2,A,Hx,v2,r1,O,v2,G3,rfl,p1,p2,p4⟩
   ·exact⟨hd2,A,Hx,v2,r1,O,v2,G3,rfl,p1,p2,p4⟩
  cases ex with
  |normal=>
   cases ms with
   |cons m ms=>cases h
   |nil=>
    obtain⟨v,F,D⟩:=ahg.1 h;cases e<;>simp[fJ]at q6;exact fin rfl ⟨v,F,D⟩ (.inl rfl)
  |ret=>
   cases ms with
   |cons m ms=>cases h
   |nil=>
    obtain⟨v,F,D⟩:=ahg.1 h;cases e<;>simp[fJ]at q6;exact fin rfl ⟨v,F,D⟩ (.inr rfl)
  |exit i=>cases h
  |panic v=>cases h
 rcases hu with⟨rfl,rfl⟩| ⟨v',rfl,hv⟩
 ·have J:recoverD (l::cs)=none:=by simp[recoverD,T]
  simp only[J];refine key .nilIface (l::cs) .returning (by simp[an]) rfl ?_;rw[<-T]
 ·have J:recoverD (l::cs)=some (v',{l with mode:=.panicking [{v:=v',recovered:=true}]}::cs):=by simp[recoverD,T]
  simp only[J];exact key v' _ _ hv rfl rfl
end
end
section
variable{P:Program}{X:Ctx}{B:Nat}{av:World}{cS:List Deferred}
inductive DT where
 |here(ops:List aO)(k6:ao)(fw:List ao)(rest:PC)
 |later(pre:PC)(d:DT)
 deriving Inhabited
structure uK where
 ntmps:Nat
 results:List RV
 body:DT
 deriving Inhabited
def aeS(P:Program)(rows:Bool)(nt:Nat):Code->Option (List aO×ao×List ao)
 |.region _ ops false=>match ops.toList.getLast? with
  |some o=>match o.op,o.guard,o.dst with
   |.defer c,none,none=>match c.callee with
    |.value f=>match kW P rows ops ops.toList.dropLast,bJ f,nU c.args.toList with
     |some xs,some a,some as=>if xs.all (λx=>match x.dst with|some d=>d<nt|none=>true)then some (xs,a,as)else none
     |_,_,_=>none
    |_=>none
   |_,_,_=>none
  |none=>none
 |_=>none
def DU(P:Program)(rows:Bool)(nt:Nat):Code->Option DT
 |.seq a b=>match aeS P rows nt a with
  |some (xs,f,as)=>(eG P rows nt b).map (.here xs f as)
  |none=>match eG P rows nt a,DU P rows nt b with
   |some d,some c=>some (.later d c)
   |_,_=>none
 |_=>none
def AQ(P:Program)(rows:Bool)(fn:Func):Option uK:=
 match fn.body with
 |some c=>match DU P rows fn.ntmps c,oY P fn.results.toList with
  |some b,some rs=>if(fn.name != "runtime.NumGoroutine")then some {ntmps:=fn.ntmps,results:=rs,body:=b}else none
  |_,_=>none
 |none=>none
def AV.Ix:AV->Bool
 |.fn .. =>true
 |_=>false
noncomputable def wy(X:Ctx)(C:bw)(L:ee)(bO:FuncId):DT->Fr->AS->Option (Option (AV×lA)×(Ex×Fr×AS))
 |.here ops a c rest,fr,E=>match eF X C ops fr E with
  |some (.normal,⟨e,[]⟩,f)=>if(a.get e).Ix then(aY X C L bO false rest ⟨e,[]⟩ f).map λr=>(some (a.get e,c.map (·.get e)),r)else none
  |some (.normal,_,_)=>none
  |some r=>some (none,r)
  |none=>none
 |.later pre d,fr,E=>match aY X C L bO false pre fr E with
  |some (.normal,b,f)=>wy X C L bO d b f
  |some r=>some (none,r)
  |none=>none
abbrev pn:=FuncId->Option wv
noncomputable def AR(X:Ctx)(C:bw)(L:ee)(R:pn)(b:AV)(a:lA)(rv:AV)(E:AS):Option AS:=
 match b with
 |.fn (.func g) first cap=>(R g).bind λpr=>Iv X C L g pr (first++a++cap) rv E
 |_=>none
def Ex.Pz:Ex->Option AV
 |.normal=>some .ez
 |.ret=>some .ez
 |.panic v=>some v
 |.exit _=>none
noncomputable def PA(X:Ctx)(C:bw)(L:ee)(R:pn)(n:Nat)(dy:oN)(c:uK):Option (Option (AV×lA)×(Ex×Fr×AS))->Option aS
 |some (none,r)=>leave X n dy {ntmps:=c.ntmps,results:=c.results,body:=.skip} (some r)
 |some (some (tv,d),(ex,fr,E))=>match ex.Pz,dA E fr.marks with
  |some rv,some b=>(AR X C L R tv d rv b).bind λa=>(fk X a fr.env c.results).map λv=>.ret (finish n dy v a).1 (finish n dy v a).2
  |_,_=>none
 |none=>none
noncomputable def wz(X:Ctx)(C:bw)(L:ee)(R:pn)(f:FuncId)(a:uK)(args:lA)(E:AS):Option aS:=
 if args.length<=a.ntmps then PA X C L R E.heap.length E.lo a (wy X C L f a.body {env:=cZ args,marks:=[]} {E with lo:=none})else none
def PB(P:Program)(R:pn):Prop:= ∀g pr,R g=some pr-> ∃rows fn,P.funcs[g]?=some fn/\AP P rows fn=some pr
section
variable{C:bw}(hC:fI P B av C)(hg:fo X B av)(hX:o7 P X)(gl:Ax P X B av){L:ee}(hL:yi L)
include hC hg hX gl hL
theorem aro{rows:Bool}{nt:Nat}{bO:FuncId}: ∀ (c:Code) (pd:DT),DU P rows nt c=some pd->
  ∀ (G:Gh) (E:AS) (w:World) (fr:Fr) (a:Act) (N:Option (AV×lA)) (r:Ex×Fr×AS) (Q:Exit->Act->World->Prop),aU P B av G E w->cC G nt fr.env a.tmps->ga [] G fr.marks a.defers->wy X C L bO pd fr E=some (N,r)->
  (N=none-> ∀e a w,mo P B av [] G E nt r e a w->Q e a w)->
  (∀tv I,N=some (tv,I)-> ∀z q G1,G.le G1->an G1 tv z->aD G1 I q.toList-> ∀d,(∀w:World,(Deferred.ofValue z q).run P w= .ok d w)-> ∀e a w,mo P B av [d] G1 E nt r e a w->Q e a w)->c.wpIn (W none) n P Q a w:=by
 intro c
 induction c with
 |seq x y ihx ihy=>
  intro pd h G E w fr a N r Q hw he hm hr hN hD;rw[DU]at h;split at h
  ·rename_i xs f' as g;obtain⟨rest,K,rfl⟩:=ahg.1 h;unfold aeS at g;split at g
   case h_2=>cases g
   rename_i id ops;split at g
   case h_2=>cases g
   rename_i o u;split at g
   case h_2=>cases g
   rename_i cc pa ij Pv;split at g
   case h_2=>cases g
   rename_i fop Pw;split at g
   case h_2=>cases g
   rename_i xs' f'' HD wx hfo has;split at g
   case isFalse=>cases g
   rename_i uD;cases g;have hd: ∀x∈xs,∀d,x.dst=some d->d<nt:=by
    intro x hx d yu;have:=ahp.1 uD x hx;rw[yu]at this;simpa using this
   have p:ops.toList=ops.toList.dropLast++[o]:=by
    rw[List.getLast?_eq_some_iff]at u;obtain⟨ys,PD⟩:=u;rw[PD];simp
   have oZ:ops.size=ops.toList.dropLast.length+1:=by
    rw[<-anS];conv=>lhs;rw[p]
    simp
   have A:List.range ops.size=List.range (ops.size-1)++[ops.size-1]:=by
    conv=>lhs;rw[show ops.size=(ops.size-1)+1 by omega,ary]
   have Py: (List.range (ops.size-1)).map (ops[·]?)=ops.toList.dropLast.map some:=by
    apply apg;intro j;by_cases hj:j<ops.toList.dropLast.length
    ·have e1: (List.range (ops.size-1))[j]?=some j:=by rw[arB (by omega)]
     simp only[aiY,e1,ahi,ag6 hj];rw[<-arG]
     conv=>lhs;rw[p]
     rw[aeT hj,ag6 hj]
    ·rw[anQ (by simp;simp at hj;omega),anQ (by simpa using hj)]
   have F:ops[ops.size-1]?=some o:=by
    rw[<-arG]
    conv=>lhs;rw[p]
    rw[ahr (by omega)];rw[show ops.size-1-ops.toList.dropLast.length=0 by omega];rfl
   refine aCZ (wpIn_region ?_);rw[A];simp only[wy]at hr;cases b:eF X C xs fr E with
   |none=>rw[b]at hr;cases hr
   |some i=>
   refine Pt hC hg [ops.size-1] _ _ xs Py wx hd G E w fr a i _ hw he hm b (λk w1 D f=>?_) (λe k w1 D f=>?_)
   ·obtain⟨ex,⟨e1,ms⟩,s⟩:=i;simp only at D;subst D;obtain⟨G1,q1,q2,R,q4,q5,q6⟩:=f;rw[b]at hr;cases ms with
    |cons m ms=>cases hr
    |nil=>
    simp only at hr;split at hr
    case isFalse=>cases hr
    rename_i v;obtain⟨r',PE,AT⟩:=ahg.1 hr;cases AT;have PG:k.defers=[]:=q4;have ars:=x8 R has;have H:=cu R hfo;simp only[wpOpsIn,F];have Px:Region.wanted o (yielded ops k.tmps)=true:=by simp[Region.wanted,ij]
    rw[afJ Px];refine⟨λ_ _=>trivial,?_⟩;have DC:o.semAt (W none).round k.eval=execOp k.eval o:=Oper.semAt_none _ _;rw[DC];have art: ∀d,(∀w:World,(Deferred.ofValue (k.eval fop) (cc.args.map k.eval)).run P w= .ok d w)->(execOp k.eval o).run P w1= .ok (.defer d) w1:=by
     intro d t;unfold execOp;simp only[pa,resolve,Pw];rw[Sem.run_bind,t w1];rfl
    have aru: ∃d,∀w:World,(Deferred.ofValue (k.eval fop) (cc.args.map k.eval)).run P w= .ok d w:=by
     cases Z:f'.get e1<;>rw[Z]at v<;>simp only[AV.Ix,ahf]at v;rw[Z]at H;simp only[an]at H;obtain⟨f0,fs0,PH,hfe,_⟩:=H;rw[hfe];exact⟨_,λw=>rfl⟩
    obtain⟨d,t⟩:=aru;rw[art d t];simp only[Oper.uponIn,Pv,Act.put,PG];refine wg hC hg hX gl hL (r:=none) (cS:=[d]) rfl y rest K G1 s w1 ⟨e1,[]⟩ {k with defers:=[d]} r _ q2 R rfl PE (λe a2 O l=>?_);refine hD _ _ rfl _ _ G1 q1 H (by simpa using ars) d t e a2 O ?_;obtain⟨G2,Y,V,U,T,S,J⟩:=l;exact⟨G2,Y,V,U,T,q5.trans S,J⟩
   ·rw[b]at hr;obtain⟨ex,⟨e1,ms⟩,s⟩:=i;have M:some (none,(ex,⟨e1,ms⟩,s))=some (N,r):=by
     cases ex with
     |normal=>exact absurd rfl D
     |_=>exact hr
    cases M;have M:=hN rfl e k w1 f;obtain⟨G2,Y,V,U,T,S,J⟩:=f;cases e<;>first|exact M| (exfalso;cases ex<;>simp[fJ]at J;exact D rfl)
  ·split at h
   ·rename_i px pd' hx hy;cases h;simp only[wy]at hr;cases b:aY X C L bO false px fr E with
    |none=>rw[b]at hr;cases hr
    |some i=>
    rw[b]at hr;obtain⟨ex,Iw,s⟩:=i;by_cases D:ex= .normal
    ·subst D;simp only at hr;refine aCZ (wg hC hg hX gl hL (r:=none) rfl x px hx G E w fr a _ _ hw he hm b (λe k w1 f=>?_));obtain⟨G1,q1,q2,R,q4,q5,q6⟩:=f;cases e<;>simp[fJ]at q6;refine ihy pd' hy G1 s w1 Iw k N r Q q2 R q4 hr (λarx e a2 O hh=>hN arx e a2 O (hh.trans q1 q5)) (λtv I t z q G2 hG2 hv hl d hd e a2 O l=>?_);refine hD tv I t z q G2 (Gh.le_trans q1 hG2) hv hl d hd e a2 O ?_;obtain⟨G3,Y,V,U,T,S,J⟩:=l;exact⟨G3,Y,V,U,T,q5.trans S,J⟩
    ·have M:some (none,(ex,Iw,s))=some (N,r):=by
       cases ex with
       |normal=>exact absurd rfl D
       |_=>exact hr
     cases M;refine aCZ (wg hC hg hX gl hL (r:=none) rfl x px hx G E w fr a _ _ hw he hm b (λe k w1 f=>?_));have M:=hN rfl e k w1 f;obtain⟨G2,Y,V,U,T,S,J⟩:=f;cases e<;>first|exact M| (exfalso;cases ex<;>simp[fJ]at J;exact D rfl)
   ·cases h
 |_=>intro pd h;simp[DU]at h
omit hC hX gl hL in
theorem arz{fn:Func}{G:Gh}{E:AS}{w':World}{r:Ex×Fr×AS}{k:aS}{e:Exit}{a:Act}(g:oY P fn.results.toList=some pf.results)(y:aU P B av G E w)
  (h:leave X E.heap.length E.lo pf (some r)=some k) (F:mo P B av [] G {heap:=E.heap,lo:=none} fn.ntmps r e a w'):bodyPostM (W none) 0 P fn (Ends P B av G E k) e a w':=by
 obtain⟨H,x,u,A,t,s,j⟩:=F;obtain⟨ex,fr,q⟩:=r;have f:qA X E.heap.length E.lo pf fr q=some k->LeavesInM (W none) 0 P fn a.tmps (Ends P B av G E k) a.defers .returning w':=by
  intro h;unfold qA at h;split at h
  ·rename_i d i;split at h
   ·rename_i v D;cases h;refine yk (by simp) fr.marks a.defers q d w' t u i (λl b=>?_);obtain⟨v',e1,z⟩:=Du hg b A g D;refine⟨v',e1,?_⟩;obtain⟨c,p,o,n,m⟩:=ye y x b (s.trans (yj _ _ _ i)) z;exact⟨c,p,o,n,m⟩
   ·cases h
  ·cases h
 cases ex with
 |normal=>cases e<;>simp[fJ]at j;exact f h
 |ret=>cases e<;>simp[fJ]at j;exact f h
 |exit id=>simp[leave]at h
 |panic v=>
  cases e<;>simp[fJ]at j;rename_i chain;obtain⟨v',rfl,rv⟩:=j;simp only[leave]at h;split at h
  ·rename_i d i;cases h;refine yk (by simp) fr.marks a.defers q d w' t u i (λl b=>?_);obtain⟨c,p,o,n,m⟩:=ye y x b (s.trans (yj _ _ _ i)) rv;exact⟨c,v',rfl,p,o,n,m⟩
  ·cases h
theorem arA{R:pn}(hR:PB P R){fn:Func}{pd:uK}{rows:Bool}(O:P.funcs[f]?=some fn)(n:AQ P rows fn=some pd):gb P B av f (wz X C L R f pd):=by
 intro args E cr h G w l hw hl;unfold AQ at n;split at n
 case h_2=>grind
 rename_i c hb;split at n
 case h_2=>grind
 rename_i bd rs D y;split at n
 case isFalse=>grind
 rename_i aDp;cases n;unfold wz at h;split at h
 case isFalse=>cases h
 rename_i q;simp only at q h;have x: ¬fn.name= "runtime.NumGoroutine" :=by grind
 have Q: (callFunc f l).run P w= .ok (.enter f l) w:=by
  simp[callFunc,ar0,O,x,hb]
 rw[Q];show CallsIn (W none) 0 P f l w _;have he:cC G fn.ntmps (cZ args) (l++Array.replicate (fn.ntmps-l.size) undef):=HE hl q;cases t:wy X C L f bd {env:=cZ args,marks:=[]} {E with lo:=none}with
 |none=>rw[t]at h;cases h
 |some res=>
 obtain⟨dr,r⟩:=res;rw[t]at h;refine aAF O hb trivial (aro hC hg hX gl hL c bd D G {E with lo:=none} w {env:=cZ args,marks:=[]} _ dr r _ (hw.lo none) he rfl t ?_ ?_) rfl
 ·rintro rfl e a w' hr;exact arz hg (pf:={ntmps:=fn.ntmps,results:=rs,body:=.skip}) y hw h hr
 ·rintro tv T rfl tv' m G1 hG1 hv hld d hd e a w' ⟨G',Y,q2,q3,q4,q5,V⟩;obtain⟨ex,fr,I⟩:=r;simp only[PA]at h;have az: ∀ (rv:AV) (j:AS) (u:FrameMode),dA I fr.marks=some j->aeP G' u rv->u≠ .run->
    ((AR X C L R tv T rv j).bind λs=>(fk X s fr.env rs).map λv=>aS.ret (finish E.heap.length E.lo v s).1 (finish E.heap.length E.lo v s).2)=some cr->
    LeavesInM (W none) 0 P fn a.tmps (Ends P B av G E cr) a.defers u w':=by
   intro rv j u o A hu hcr;refine yk hu fr.marks a.defers I j w' q4 q2 o (λw'' J=>?_);obtain⟨s,p,N⟩:=apB.1 hcr;obtain⟨v,hv1,rfl⟩:=ahg.1 N;unfold AR at p;split at p
   case h_2=>cases p
   rename_i g first cap
   obtain⟨pr,hpr,AT⟩:=apB.1 p;obtain⟨apv,S,z,b⟩:=hR g pr hpr;have hgb: ∃Z,S.body=some Z/\ ¬S.name= "runtime.NumGoroutine" :=by
    unfold AP at b;split at b
    case h_2=>cases b
    rename_i Z F;split at b
    case h_2=>cases b
    split at b
    case isFalse=>cases b
    rename_i hn;exact⟨Z,F,by simpa using hn⟩
   obtain⟨Z,F,hgn⟩:=hgb;have K:=hv;simp only[an,kY]at K;obtain⟨f',i,k,rfl,rfl,hf,hc⟩:=K;have yr:d={target:=.fn (.func g) k,args:=i++m}:=by
    have h1:=hd w;have h2: (Deferred.ofValue (.func (.func g) i k) m).run P w= .ok {target:=.fn (.func g) k,args:=i++m} w:=rfl;rw[h2]at h1;simpa using h1.symm
   subst yr;have H:aD G' (first++T++cap) (i++m++k).toList:=by
    simp only[Array.toList_append];exact((hf.mono Y).append (hld.mono Y)).append (hc.mono Y)
   refine⟨hu,.inr ⟨λh=>by simp[W]at h,.func g,k,g,i++m++k,rfl,?_,λ_ _=>trivial,?_⟩⟩
   ·show(callFunc g (i++m++k)).run P w''=_;simp[callFunc,ar0,z,hgn,F]
   ·refine(aq7 hC hg hX gl hL z b AT J H A).mono ?_;rintro e2 u2 w3 ⟨M,v3,G3,rfl,g1,g2,g3⟩;show LeavesInM (W none) 0 P fn a.tmps _ [] (settle u2) w3;rw[M];obtain⟨v',e1,r1⟩:=Du hg g2 (q3.mono g1) y hv1;refine⟨v',e1,?_⟩;obtain⟨U,p1,p2,p3,p4⟩:=ye hw (Gh.le_trans hG1 (Gh.le_trans Y g1)) g2 ((q5.trans (yj _ _ _ o)).trans g3) r1;exact⟨U,p1,p2,p3,p4⟩
  cases ex with
  |normal=>
   cases e<;>simp[fJ]at V;cases o:dA I fr.marks with
   |none=>rw[o]at h;cases h
   |some j=>rw[o]at h;exact az .ez j .returning o (.inl ⟨rfl,rfl⟩) (by simp) h
  |ret=>
   cases e<;>simp[fJ]at V;cases o:dA I fr.marks with
   |none=>rw[o]at h;cases h
   |some j=>rw[o]at h;exact az .ez j .returning o (.inl ⟨rfl,rfl⟩) (by simp) h
  |exit id=>
   cases o:dA I fr.marks<;>rw[o]at h<;>cases h
  |panic v=>
   cases e<;>simp[fJ]at V;obtain⟨v',rfl,rv⟩:=V;cases o:dA I fr.marks with
   |none=>rw[o]at h;cases h
   |some j=>rw[o]at h;exact az v j (.panicking [{v:=v',recovered:=false}]) o (.inr ⟨v',rfl,rv⟩) (by simp) h
end
theorem aeU:yi Lw:=λ_ _ _ _ h=>DM h
theorem PI(hg:fo X B av)(hX:o7 P X)(e: ∀f p,X.bU f=some p->gb P B av f p){R:pn}(d:PB P R){fn:Func}{c:uK}{rows:Bool}(b:P.funcs[f]?=some fn)(a:AQ P rows fn=some c):
 gb P B av f (wz X (D X) Lw R f c):=arA (O3 hg hX e) hg hX (OM hg) aeU d b a
end
def aQ(N:Nat)(H:List ae)(v:AV)(sz:Nat)(ty:TypeId)(af:List lA):Prop:=
 (∀el∈af,el.length=sz)/\ ((v= .ai/\af=[])\/ ∃id aj,N<=id/\v= .ref id aj sz 0 af.length false/\H[id]?=some (.row aj sz ty af))
def bt(v:AV)(af:List lA):AV:=match v with
 |.ai=>.ai
 |_=>.sl af false
section
variable{N:Nat}{H H':List ae}{v:AV}{sz bytes:Nat}{ty:TypeId}{af ys:List lA}{lo:oN}
theorem aQ.ai:aQ N H .ai sz ty []:=⟨by simp,.inl ⟨rfl,rfl⟩⟩
def aQ.mono(h:aQ N H v sz ty af)(b:H<+:H'):aQ N H' v sz ty af:=by
 obtain⟨c,a⟩:=h;refine⟨c,?_⟩;rcases a with a| ⟨id,aj,e,d,hr⟩
 ·grind
 ·obtain⟨L,rfl⟩:=b
  grind
theorem aQ.ext{L:List ae}(h:aQ N H v sz ty af):aQ N (H++L) v sz ty af:=h.mono (ar2 _ _)
def aQ.rd(h:aQ N H v sz ty af):Rd ⟨H,lo⟩ v sz af:=by
 obtain⟨b,a⟩:=h;rcases a with⟨rfl,rfl⟩| ⟨id,aj,c,rfl,hr⟩
 ·exact .ai
 ·refine⟨trivial,?_,b⟩;simp only[elems,hr,aBV]
  grind
def arJ{H0:List ae}{id:Nat}{o:ae}(a:H0<+:H)(b:H0.length<=id):H0<+:H.set id o:=by
 obtain⟨L,rfl⟩:=a
 grind
def aQ.append{H0:List ae}(h:aQ N H v sz ty af)(b:H0<+:H)(o:H0.length=N)(i:0<sz)(k: ∀el∈ys,el.length=sz)(l:b8 ys=0)(f: (af.length+ys.length)*bytes<=room):
  ∃v' H',dx ⟨H,lo⟩ ty sz bytes v ys=some (v',⟨H',lo⟩)/\aQ N H' v' sz ty (af++ys)/\H0<+:H'/\H.length<=H'.length/\ (∀id,id<N->H'[id]?=H[id]?):=by
 have e:0<sz/\ys.all (λel=>el.length==sz)=true:=⟨i,by grind⟩;obtain⟨q,g⟩:=h;have p: ∀el∈af++ys,el.length=sz:=by grind
 by_cases he:ys.length=0
 ·have d:ys=[]:=amK.1 he;subst d;refine⟨v,H,?_,by simpa using⟨q,g⟩,b,ahd _,λ_ _=>rfl⟩;unfold dx
  grind
 rcases g with⟨rfl,rfl⟩| ⟨id,aj,m,rfl,a⟩
 ·refine⟨.ref H.length 0 sz 0 ys.length false,H++[.row 0 sz ty ys],?_,⟨by simpa using k,.inr ⟨H.length,0,?_,by simp,by simp⟩⟩,b.trans (ar2 _ _),by simp,λid n=>?_⟩
  ·unfold dx;rw[afJ e];simp only[afB he];rw[afJ (by simpa using f)];rfl
  ·rw[<-o];exact b.length_le
  ·rw[aeT (by have:=b.length_le;omega)]
 ·have c:=(afA.1 a).1;refine⟨.ref id (aj+1) sz 0 (af.length+ys.length) false,H.set id (.row (aj+1) sz ty (af++ys)),?_,⟨p,.inr ⟨id,aj+1,m,by simp,by simp[c]⟩⟩,arJ b (by omega),by simp,λj r=>?_⟩
  ·unfold dx;rw[afJ e];simp only[a];rw[afJ ⟨trivial,trivial,trivial,trivial,by omega,f⟩,afB he];simp[AS.set,l]
  ·rw[aeR (by omega)]
def po{K:AV->AS->Prop}{H0:List ae}(h:aQ N H v sz ty af)(d:H0<+:H)(f:H0.length=N)(a:0<sz)(b: ∀el∈ys,el.length=sz)(c:b8 ys=0)(e: (af.length+ys.length)*bytes<=room)
  (g: ∀v' H',aQ N H' v' sz ty (af++ys)->H0<+:H'->K v' ⟨H',lo⟩):uH (dx ⟨H,lo⟩ ty sz bytes v ys) K:=by
 obtain⟨v',H',k,j,i,_⟩:=h.append d f a b c e;rw[k];exact g v' H' j i
def aQ.aeV(h:aQ N H v sz ty af)(w:N<=H.length)(k:0<sz)(l: ∀el∈ys,el.length=sz)(m:b8 ys=0)(q: (af.length+ys.length)*bytes<=room):
  ∃v' H',dx ⟨H,lo⟩ ty sz bytes v ys=some (v',⟨H',lo⟩)/\aQ N H' v' sz ty (af++ys)/\H.length<=H'.length/\ (∀id,id<N->H'[id]?=H[id]?)/\ (∀ (id:Nat) o,(∀a d,o≠ .row a sz ty d)->H[id]?=some o->H'[id]?=some o):=by
 have n:H.take N<+:H:=List.take_prefix _ _;obtain⟨v',H',b,t,x,s,r⟩:=h.append n (by grind) k l m q;refine⟨v',H',b,t,s,r,λid o f e=>?_⟩;have p:=(afA.1 e).1;unfold dx at b;have i:0<sz/\ys.all (λel=>el.length==sz)=true:=⟨k,by grind⟩;rw[afJ i]at b;rcases h.2 with⟨rfl,rfl⟩| ⟨j,aj,u,rfl,c⟩
 ·simp only at b;split at b
  ·grind
  ·split at b
   ·simp only[AS.push,afE,arE,AS.mk.injEq]at b
    grind
   grind
 ·simp only[c]at b;split at b
  ·split at b
   ·simp only[afE,arE,AS.mk.injEq]at b;rw[<-b.2.1];exact e
   ·simp only[ahf,amJ,AS.set,afE,arE,AS.mk.injEq]at b;rw[<-b.2.1];have g:j≠id:=by rintro rfl;rw[c]at e;cases e;exact f _ _ rfl
    rw[aeR g];exact e
  ·cases b
def Iy{E:AS}:freeze E n (k+1) (.au vs)=if(AV.au vs).refs<=n then some (.au vs)else match ib E n k vs with|some a=>some (.au a)|none=>none:=by
 rw[freeze]
 grind
theorem PJ{E:AS}{n k:Nat}: ∀l:lA,aG l<=n->ib E n (k+2) l=some l
 | [],_=>by rw[ib]
 |b::bs,a=>by
  simp only[aG]at a;rw[ib,yB (by omega)];rw[PJ bs (by omega)]
theorem PK{E:AS}{n k:Nat}: ∀af:List lA,b8 af<=n->r0 E n (k+3) af=some af
 | [],_=>by rw[r0]
 |a::as,h=>by
  simp only[b8]at h;rw[r0,PJ a (by omega)];rw[PK as (by omega)]
theorem aQ.freeze(h:aQ N H v sz ty af)(c:b8 af<=N):Den.freeze ⟨H,lo⟩ N (k+4) v=some (bt v af):=by
 obtain⟨f,d⟩:=h;rcases d with⟨rfl,rfl⟩| ⟨id,aj,e,rfl,a⟩
 ·exact yB (aha _)
 ·have b: ¬(AV.ref id aj sz 0 af.length false).refs<=N:=by simp only[AV.refs];omega
  rw[Den.freeze,afB b];simp only[a];rw[afJ ⟨trivial,trivial,by omega⟩];simp only[amS,ahn];rw[PK af c];rfl
theorem aQ.PM(h:aQ N H v sz ty af)(a:b8 af<=N):finish N lo v ⟨H,none⟩=(bt v af,⟨H.take N,lo⟩):=
 Ib rfl (h.freeze a)
def aQ.aeW{b:AV}(h:aQ N H v sz ty af)(d:b8 af<=N)(e:b.refs<=N):finish N lo (.au [v,b]) ⟨H,none⟩=(.au [bt v af,b],⟨H.take N,lo⟩):=by
 refine Ib rfl ?_;rw[Iy];have e1:ib ⟨H,none⟩ N 11 [v,b]=some [bt v af,b]:=by
  rw[ib,h.freeze d];rw[ib,yB e];rw[ib]
 rw[e1];split
 ·rename_i hle;have a:bt v af=v:=by
   obtain⟨i,f⟩:=h;rcases f with⟨rfl,rfl⟩| ⟨id,aj,g,rfl,c⟩
   ·rfl
   ·simp only[AV.refs,aG]at hle;omega
  rw[a]
 ·rfl
def aQ.sh(h:aQ N H v sz ty af):Rv (bt v af) sz af:=by
 obtain⟨c,b⟩:=h;rcases b with⟨rfl,rfl⟩| ⟨id,aj,d,rfl,a⟩
 ·exact .ai
 ·exact .sl c
theorem bD{α:Type}{g:α->lA}(a: ∀x,aG (g x)=0): ∀l:List α,b8 (l.map g)=0
 | []=>rfl
 |x::xs=>by simp only[aoZ,b8,a,bD a xs];rfl
def arK{E:AS}(h:af.all (λel=>el.length==sz)=true):Den.elems E sz (.sl af c)=some af:=by
 simp only[Den.elems];grind
end
def aeX{k:IntKind}{a b:Int}{c:List EK}{as bs:lA}:jc (.int::c) (.int k a::as) (.int k b::bs)=if a=b then jc c as bs else some false:=by
 simp only[jc,qw,aiZ]
 grind
def arL{a b:Bool}{c:List EK}{as bs:lA}:jc (.bool::c) (.bool a::as) (.bool b::bs)=if a=b then jc c as bs else some false:=by
 simp only[jc,qw]
 grind
theorem aeY:jc [] [] []=some true:=rfl
def aeZ{N:Nat}{H:List ae}(b: ¬v.refs<=N)(a:freeze ⟨H,none⟩ N 12 v=none):finish N lo v ⟨H,none⟩=(v,⟨H,lo⟩):=by
 rw[AM,afB b,a];rfl
def PN{N id o:Nat}{E:AS}(h:N<=id):freeze E N k (.ptr id o)=none:=by
 cases k with
 |zero=>rw[freeze]
 |succ k=>
  have a: ¬(AV.ptr id o).refs<=N:=by simp only[AV.refs];omega
  simp[freeze,a]
def DV{X:Ctx}{p:lA->AS->Option aS}{args:lA}{E:AS}{a:aS}(b:X.bU f=some p)(h:p args E=some a):D X (.fn (.func f) [] []) args E=some a:=by
 refine HZ ?_;simp only[step,b,aj8,aiH];exact h
theorem ae0{cs:lA}:ea cs []=some cs:=rfl
theorem ae1{cs:lA}{off:Nat}{r:List (Nat×Nat×AV)}:ea cs ((off,n,v)::r)=if v.cb=false/\v.cells.length=n/\off+n<=cs.length then ea (aH cs off v.cells) r else none:=rfl
theorem ae2{len:Nat}{a:List (Nat×Nat×AV)}:Pc z len a=(ea (List.replicate len z).flatten a).map λcs=>.sl (chunks z.length len cs) true:=rfl
theorem ae3{E:AS}{ty:TypeId}{len:Nat}{a:List (Nat×Nat×AV)}:Pd E ty z len a=(ea (List.replicate len z).flatten a).map λcs=>(.ref E.heap.length 0 z.length 0 len false,E.push (.row 0 z.length ty (chunks z.length len cs))):=rfl
theorem ae4{a:List (Nat×Nat×AV)}:Pb z a=(ea z a).map .agg:=rfl
theorem ae5{cs:lA}:chunks sz 0 cs=[]:=rfl
theorem ae6{cs:lA}:chunks sz (k+1) cs=cs.take sz::chunks sz k (cs.drop sz):=rfl
theorem ae7{E:AS}:Den.elems E sz (.sl af c)=if af.all (λel=>el.length==sz)then some af else none:=rfl
theorem ae8{X:Ctx}{id off:Nat}{k:IntKind}{a:Int}:uu X n sz (.ptr id off) (.int k a)=if 0<=a/\a<n then some (.ptr id (off+a.toNat*sz))else none:=rfl
theorem ae9{X:Ctx}{id off:Nat}{k:IntKind}{a:Int}:uu X n sz (.dq id aj j off) (.int k a)=if 0<=a/\a<n then some (.dq id aj j (off+a.toNat*sz))else none:=rfl
theorem afa{X:Ctx}{off:Nat}{cs:lA}{k:IntKind}{a:Int}:uu X n sz (.eL cs off) (.int k a)=if 0<=a/\a<n then some (.eL cs (off+a.toNat*sz))else none:=rfl
theorem afb{X:Ctx}{g:Nat}{k:IntKind}{a:Int}:uu X n sz (.dg g) (.int k a)=if 0<=a/\a<n then(match X.dg g with|some cs=>some (.eL cs (a.toNat*sz))|none=>none)else none:=rfl
theorem afc{off:Nat}{cs:lA}:ZE ag n off (.agg cs)=Den.part ag n cs off:=rfl
theorem afd:DP (.au vs) i=vs[i]?:=rfl
theorem afe{E:AS}:fj E .sl (.sl af c)=some (.int .i64 af.length):=rfl
theorem aff{E:AS}:fj E .sl .ai=some (.int .i64 0):=rfl
theorem afg{E:AS}{id v z o:Nat}:fj E .sl (.ref id v z o n c)=some (.int .i64 n):=rfl
theorem afh{E:AS}{id off:Nat}:fj E .sl (.fa id sz off n)=some (.int .i64 n):=rfl
theorem PO{id off:Nat}{k:IntKind}{a:Int}:jY m (.fa id sz off n) (.int k a)=if 0<=a/\a<n/\sz=m then some (.ptr id (off+a.toNat*m))else none:=rfl
def afi{X:Ctx}{id off:Nat}{b:Int}:qx X n sz (.ptr id off) none (some (.int k' b))=if 0<=b/\b<=n then some (.fa id sz off b.toNat)else none:=by
 simp only[qx,fW,lK]
 grind
theorem afj{H:List ae}{lo:oN}{id sz m off n:Nat}:Den.elems ⟨H,lo⟩ m (.fa id sz off n)=match H[id]? with
 |some (.box cs _)=>if sz=m/\off+n*m<=cs.length then some (chunks m n (cs.drop off))else none
 |_=>none:=rfl
theorem afk:v9 []=some []:=rfl
theorem afl{n:Int}{r:List lA}:v9 ([.int .u8 n]::r)=(v9 r).map (UInt8.ofNat n.toNat:: ·):=rfl
def afm{H:List ae}{x:ae}(h:H.length=n)(a:m=n+1): (H++[x]).take m=H++[x]:=by grind
def dT{h:Decidable True}: @decide True h=true:=by simp
def dF{h:Decidable False}: @decide False h=false:=by simp
def O1:=gG @ae0<|gG @ae1<|gG @ae2<|gG @ae3<|gG @ae4<|gG @ae5<|gG @ae6<|gG @ae7<|gG @afc<|gG @afh<|gG @afe<|gG @aff<|gG @afg<|gG @PO<|gG @afi<|gG @afj<|gG @afk<|gG @afl<|gG @dT<|gG @dF<|gG @List.getD_cons_zero.{0}<|gG @List.getD_cons_succ.{0}<|gG @ae8<|gG @ae9<|gG @afa<|gG @afb<|gG @Nat.mul_one<|gG @afd<|gG @atT.{0}<|gG @List.replicate_zero.{0}<|gG @arh.{0}<|gG @List.flatten_nil.{0}<|gG @ax9.{0} @List.all_nil.{0}
section
variable{X:Ctx}{n:Nat}{lo:oN}{e:Env}{E:AS}{R:aS->Prop}{a b c d m k:Nat}{ag ah:Bool}
def mv(n:Nat)(lo:oN)(R:aS->Prop):AV->AS->Prop:=λv E=>R (.ret (finish n lo v E).1 (finish n lo v E).2)
theorem afn:mv n lo R v E=R (.ret (finish n lo v E).1 (finish n lo v E).2):=rfl
def AU:dp X n lo [.cell a ag m] R .ret ⟨e,[]⟩ E=okV (cg X E ag m (e a)) (mv n lo R) E:=by
 simp only[wm,wo,fk,jz,nT];cases h:cg X E ag m (e a)with
 |none=>simp[okV,h]
 |some v=>simp[okV,mv,h]
def pq:dp X n lo [.cell a ag m,.t b] R .ret ⟨e,[]⟩ E=okV (cg X E ag m (e a)) (λv E=>mv n lo R (.au [v,e b]) E) E:=by
 simp only[wm,wo,fk,jz,nT];cases h:cg X E ag m (e a)with
 |none=>simp[okV,h]
 |some v=>simp[okV,mv,h]
def afo:dp X n lo [.cell a ag m,.t b,.t c] R .ret ⟨e,[]⟩ E=okV (cg X E ag m (e a)) (λv E=>mv n lo R (.au [v,e b,e c]) E) E:=by
 simp only[wm,wo,fk,jz,nT];cases h:cg X E ag m (e a)with
 |none=>simp[okV,h]
 |some v=>simp[okV,mv,h]
def afp:dp X n lo [.cell a ag m,.t b,.t c,.t d] R .ret ⟨e,[]⟩ E=okV (cg X E ag m (e a)) (λv E=>mv n lo R (.au [v,e b,e c,e d]) E) E:=by
 simp only[wm,wo,fk,jz,nT];cases h:cg X E ag m (e a)with
 |none=>simp[okV,h]
 |some v=>simp[okV,mv,h]
def afq:dp X n lo [.cell a ag m,.cell b ah k] R .ret ⟨e,[]⟩ E=okV (cg X E ag m (e a)) (λv E=>okV (cg X E ah k (e b)) (λu E=>mv n lo R (.au [v,u]) E) E) E:=by
 simp only[wm,wo,fk,jz,nT];cases h:cg X E ag m (e a)with
 |none=>simp[okV,h]
 |some v=>
  cases f:cg X E ah k (e b)with
  |none=>simp[okV,h,f]
  |some u=>simp[okV,mv,h,f]
def Q1:=gG @afn<|gG @AU<|gG @pq<|gG @afo<|gG @afp @afq
end
section
variable{X:Ctx}{R:pn}
def qL(X:Ctx)(R:pn)(tv:AV)(fw:lA)(rv:AV)(E:AS)(K:AS->Prop):Prop:= ∃a,AR X (D X) Lw R tv fw rv E=some a/\K a
def dK(X:Ctx)(R:pn)(n:Nat)(lo:oN)(res:List RV)(P:aS->Prop)(tv:AV)(fw:lA):bQ
 |.normal,fr,E=> ∃a,dA E fr.marks=some a/\qL X R tv fw .ez a λb=>dp X n lo res P .ret ⟨fr.env,[]⟩ b
 |.ret,fr,E=> ∃a,dA E fr.marks=some a/\qL X R tv fw .ez a λb=>dp X n lo res P .ret ⟨fr.env,[]⟩ b
 |.panic v,fr,E=> ∃a,dA E fr.marks=some a/\qL X R tv fw v a λb=>dp X n lo res P .ret ⟨fr.env,[]⟩ b
 |.exit _,_,_=>False
section
variable{n:Nat}{lo:oN}{res:List RV}{P:aS->Prop}{tv:AV}{fw:lA}{e:Env}{E:AS}{v:AV}
def DW:dK X R n lo res P tv fw .ret ⟨e,[]⟩ E=qL X R tv fw .ez E λa=>dp X n lo res P .ret ⟨e,[]⟩ a:=by
 simp[dK,dA]
def og:dK X R n lo res P tv fw (.panic v) ⟨e,[]⟩ E=qL X R tv fw v E λa=>dp X n lo res P .ret ⟨e,[]⟩ a:=by
 simp[dK,dA]
end
def Iz(X:Ctx)(R:pn)(f:FuncId)(n:Nat)(lo:oN)(res:List RV)(P:aS->Prop)(k6:ao)(fw:List ao)(rest:PC):bQ:=λex fr E=>
 ex= .normal/\fr.marks=[]/\ (k6.get fr.env).Ix=true/\wp X f false rest ⟨fr.env,[]⟩ E (dK X R n lo res P (k6.get fr.env) (fw.map (·.get fr.env)))
def PQ(X:Ctx)(R:pn)(f:FuncId)(n:Nat)(lo:oN)(res:List RV)(P:aS->Prop)(ops:List aO)(k6:ao)(fw:List ao)(rest:PC):bQ:=λex fr E=>
 ex= .normal/\wp X f false (.aL ops) fr E (Iz X R f n lo res P k6 fw rest)
section
variable{f:FuncId}{n:Nat}{lo:oN}{res:List RV}{P:aS->Prop}{ops:List aO}{k6:ao}{fw:List ao}{rest:PC}{e:Env}{fr:Fr}{E:AS}
def j4:Iz X R f n lo res P k6 fw rest .normal ⟨e,[]⟩ E=((k6.get e).Ix=true/\wp X f false rest ⟨e,[]⟩ E (dK X R n lo res P (k6.get e) (fw.map (·.get e)))):=by simp[Iz]
def j5:PQ X R f n lo res P ops k6 fw rest .normal fr E=wp X f false (.aL ops) fr E (Iz X R f n lo res P k6 fw rest):=by simp[PQ]
end
def PR(i:uK){k:PC}{ops:List aO}{k6:ao}{fw:List ao}{rest:PC}(x:i.body= .later k (.here ops k6 fw rest)){args:lA}{H:List ae}{P:aS->Prop}(u:Nat.ble args.length i.ntmps=true)
  (h: ∀n,H.length=n->wp X f false k ⟨cZ args,[]⟩ ⟨H,none⟩ (PQ X R f n lo i.results P ops k6 fw rest)): ∃m,wz X (D X) Lw R f i args ⟨H,lo⟩=some m/\P m:=by
 obtain⟨ex,fr,E,hr,rfl,hw⟩:=h _ rfl;rw[O6]at hw;obtain⟨A,⟨j,t⟩,s,p,rfl,hm,w,d,c,g,o,q⟩:=hw;subst hm;have l:wy X (D X) Lw f i.body ⟨cZ args,[]⟩ ⟨H,none⟩=some (some (k6.get j,fw.map (·.get j)),(d,c,g)):=by
  rw[x];simp only[wy,hr,p,w,aiZ,o,ahi]
 unfold wz;rw[afJ (arF u)];simp only[l,PA];have key: ∀rv,d.Pz=some rv->(∃b,dA g c.marks=some b/\qL X R (k6.get j) (fw.map (·.get j)) rv b λa=>dp X H.length lo i.results P .ret ⟨c.env,[]⟩ a)->
   ∃m,(match d.Pz,dA g c.marks with
    |some rv,some b=>(AR X (D X) Lw R (k6.get j) (fw.map (·.get j)) rv b).bind λa=>(fk X a c.env i.results).map λv=>aS.ret (finish H.length lo v a).1 (finish H.length lo v a).2
    |_,_=>none)=some m/\P m:=by
  rintro rv B ⟨b,I,a,G,z⟩;obtain⟨r,v,y,F,C⟩:=z;simp only[dA,afE]at y
  grind
 cases d with
 |normal=>exact key _ rfl q
 |ret=>exact key _ rfl q
 |panic v=>exact key _ rfl q
 |exit _=>trivial
def IA{g:FuncId}{pr:wv}(c:R g=some pr){cap fw:lA}{rv:AV}{H:List ae}{K:AS->Prop}(b:Nat.ble (fw++cap).length pr.pf.ntmps=true)
  (h: ∀n,H.length=n->wp X g false pr.pf.body ⟨(cZ (fw++cap)).set pr.dst rv,[]⟩ ⟨H,none⟩ (λex fr E=>fr.marks=[]/\ (ex= .normal\/ex= .ret)/\ ∃v,fk X E fr.env pr.pf.results=some v/\K (finish n lo v E).2)):
  qL X R (.fn (.func g) [] cap) fw rv ⟨H,lo⟩ K:=by
 obtain⟨ex,⟨e,ms⟩,E,hr,hm,hex,v,i,d⟩:=h _ rfl;have a:=arF b;refine⟨_,?_,d⟩;simp only[AR,c,arn,Iv,aj8]
 grind
end
section
structure Ext(X X':Ctx):Prop where
 dg:X'.dg=X.dg
 fb:X'.fb=X.fb
 code:X'.code=X.code
 bU: ∀f,X'.bU f=X.bU f\/ (X.bU f=none/\X.code f=none)
variable{X X':Ctx}
def arM(h:Ext X X'):cg X'=cg X:=by
 unfold cg;rw[h.dg]
def afr(h:Ext X X'){C:bw}(i:I)(e:Env)(E:AS):exec X' C i e E=exec X C i e E:=by
 obtain⟨g,j,c,m'⟩:=X';obtain⟨b,a,f,d⟩:=h;subst b a;cases i<;>rfl
theorem afs(h:Ext X X'){C:bw}: ∀ (os:List aO),eF X' C os=eF X C os
 | []=>by rfl
 |o::os=>by
  simp only[eF,afr h,afs h os]
theorem aft(h:Ext X X'){C:bw}: ∀ (os:List (aO×lN)) (a:List FP),fZ X' C a os=fZ X C a os
 | [],a=>by rfl
 |o::os,a=>by
  simp only[fZ,afr h,aft h os]
def arN(h:Ext X X')(a:rZ X v=true):rZ X' v=true:=by
 unfold rZ at a⊢;split at a
 ·rename_i f _ _;rw[h.code];rcases h.bU f with b| ⟨_,c⟩
  ·grind
  grind
 omega
theorem si(h:Ext X X'){C:bw}{L:ee}(e:ee.le L L)(bO:FuncId)(rd:Bool): ∀j,qF (aY X C L bO rd j) (aY X' C L bO rd j)
 |.skip,_,_,_,d=>by trivial
 |.seq a b,fr,E,r,d=>by
  simp only[aY]at d⊢;split at d
  ·rename_i k;rw[si h e bO rd a _ _ _ k];exact si h e bO rd b _ _ _ d
  ·cases hr:aY X C L bO rd a fr E with
   |none=>grind
   |some q=>
    rw[si h e bO rd a _ _ _ hr]
    grind
 |.cond c a b,fr,E,r,d=>by
  simp only[aY]at d⊢;split at d
  ·rename_i t m;split at d
   ·rename_i f;rw[afJ f];exact si h e bO rd a _ _ _ d
   ·rename_i f;rw[afB f];exact si h e bO rd b _ _ _ d
  omega
 |.block id body,fr,E,r,d=>by
  simp only[aY]at d⊢;cases hr:aY X C L bO rd body fr E with
  |none=>rw[hr]at d;cases d
  |some q=>rw[si h e bO rd body _ _ _ hr];rw[hr]at d;exact d
 |.loop body,fr,E,r,d=>by
  simp only[aY]at d⊢;exact e _ _ (si h e bO rd body) _ _ _ d
 |.exit id,_,_,_,d=>by simpa only[aY]using d
 |.ret,_,_,_,d=>by simpa only[aY]using d
 |.aL ops,fr,E,r,d=>by
  simp only[aY]at d⊢;rw[afs h];exact d
 |.uq ops,fr,E,r,d=>by
  simp only[aY]at d⊢;rw[aft h];exact d
 |.ia g ps as bd,fr,E,r,d=>by
  simp only[aY]at d⊢;split at d
  ·cases d
  ·rename_i i;rw[afB i];split at d
   ·rename_i l;rw[afJ (arN h l)];exact d
   ·cases d
def arO(h:Ext X X'){C:bw}{L:ee}(m:ee.le L L)(l:Nat)(args:lA)(E:AS)(r:aS)(c:j0 X C L l args E=some r):j0 X' C L l args E=some r:=by
 simp only[j0]at c⊢;split at c
 ·rename_i st j f env ps as bd s;split at c
  ·rename_i a;simp only[a,aiZ];split at c
   ·rename_i fr e n;rw[si h m _ _ _ _ _ _ n];simp only;split at c
    ·rename_i b p d g i iF o;cases k:aY X C L f true bd fr (e.set l (.loop .busy b p d g i iF) 0)with
     |none=>rw[k]at c;cases c
     |some q=>rw[si h m _ _ _ _ _ _ k];grind
    omega
   grind
  grind
 omega
theorem afu(h:Ext X X')(E:AS)(e:Env): ∀rs,jz X' E e rs=jz X E e rs
 | []=>rfl
 |r::rs=>by
  have:nT X' E e r=nT X E e r:=by
   cases r with
   |t i=>rfl
   |cell a ag n=>simp only[nT,arM h]
  simp only[jz,this,afu h E e rs]
def arP(h:Ext X X')(n:Nat)(lo:oN)(pf:PF)(r:jd):leave X' n lo pf r=leave X n lo pf r:=by
 have e1: ∀fr E,qA X' n lo pf fr E=qA X n lo pf fr E:=λfr E=>by
  simp only[qA,fk,afu h]
 rcases r with _| ⟨ex,fr,E⟩
 ·rfl
 ·cases ex<;>simp only[leave,e1]
def arQ(h:Ext X X'){C:bw}{L:ee}(d:ee.le L L):bw.le (step X C L) (step X' C L):=by
 intro v args E r b;unfold step at b⊢;split at b
 ·rename_i f first cap
  split at b
  ·rename_i p g;have:X'.bU f=some p:=by
    rcases h.bU f with q| ⟨q,_⟩
    ·grind
    grind
   grind
  ·split at b
   ·rename_i pf e;split at b
    ·rename_i a;have:X'.bU f=none:=by
      rcases h.bU f with q| ⟨_,q⟩
      ·grind
      grind
     rw[this,h.code,e];simp only;rw[afJ a,arP h];cases c:aY X C L f false pf.body {env:=cZ (first++args++cap),marks:=[]} {E with lo:=none}with
     |none=>rw[c]at b;cases b
     |some q=>rw[si h d _ _ _ _ _ _ c];grind
    grind
   grind
 ·exact arO h d _ _ _ _ b
 omega
theorem afv(h:Ext X X'): ∀n,bw.le (ic X n) (ic X' n)
 |0=>λf args E r h=>by trivial
 |n+1=>by
  exact bw.le_trans (arQ h (HX n)) (Y6 (afv h n) (HX n))
theorem afw(h:Ext X X'):bw.le (D X) (D X'):=λf a s r hr=>by
 obtain⟨n,b⟩:=yx hr;exact OY (n:=n) _ _ _ _ (afv h n _ _ _ _ b)
end
def qM(a:List (Nat×lB×Nat)):List (AV×AV):=a.map λx=>(.int .u8 x.1,.fn (.func x.2.2) [] [])
theorem PT{n:Int}: ∀l:List (AV×AV),(∀p∈l,∃m:Int,p.1= .int .u8 m)->dS (.int .u8 n) l=some ((l.find? λp=>match p.1 with|.int _ m=>n==m|_=>false).map (·.2))
 | [],_=>rfl
 | (k,v)::l,h=>by
   obtain⟨m,hm⟩:=h (k,v) (by simp);have a:=PT (n:=n) l (λp b=>h p (by grind));simp only[dS,oX,List.find?_cons]
   grind
theorem afx: ∀ {l:List (AV×AV)} {p q:AV×AV},(l.Pairwise λp q=>p.1≠q.1)->p∈l->q∈l->p≠q->p.1≠q.1
 |a::l,p,q,h,f,e,b=>by
  rw[ara]at h;rcases ai2.1 f with d|d
  ·grind
  ·rcases ai2.1 e with c|c
   ·grind
   ·exact afx h.2 d c b
def arR{α β:Type}{F:α->β}{l g:List β}(h:l.Perm g): ∀m:List α,m.map F=l-> ∃m':List α,m'.Perm m/\m'.map F=g:=by
 induction h with
 |nil=>simp
 |cons x _ j=>
  intro m hm;cases m with
  |nil=>grind
  |cons a m=>
   simp only[aoZ,aBT]at hm;obtain⟨m',f,i⟩:=j m hm.2;exact⟨a::m',f.cons a,by grind⟩
 |swap x y l=>
  intro m hm
  match m,hm with
  |a::b::m,hm=>
   exact⟨b::a::m,.swap a b m,by grind⟩
 |trans _ _ e d=>
  intro m hm;obtain⟨m',f,i⟩:=e m hm;obtain⟨c,n,k⟩:=d m' i;exact⟨c,n.trans f,k⟩
def arS{l e:List (AV×AV)}(h: ∀p∈l,∃m:Int,p.1= .int .u8 m)(o:l.Perm e)(u:l.Pairwise λp q=>p.1≠q.1){k:AV}{v:Option AV}(f:dS k l=some v):dS k e=some v:=by
 have w: ∀p∈e,∃m:Int,p.1= .int .u8 m:=λp j=>h p (o.mem_iff.2 j)
 cases l with
 |nil=>simp_all
 |cons a l=>
  obtain⟨m,hm⟩:=h a (by simp);obtain⟨z,r⟩:=a;simp only at hm;subst hm;cases k with
  |int q n=>
   by_cases t:q= .u8
   ·subst t;rw[PT _ h]at f;rw[PT _ w];rw[<-f]
    congr 2
    have hu: ∀p q:AV×AV,p∈((AV.int .u8 m,r)::l)->q∈((AV.int .u8 m,r)::l)->(match p.1 with|.int _ m=>n==m|_=>false)=true->(match q.1 with|.int _ m=>n==m|_=>false)=true->p=q:=by
     intro p q c b e1 d;obtain⟨g,y⟩:=h p c;obtain⟨s,x⟩:=h q b;have e3:p.1=q.1:=by grind
     by_cases i:p=q
     ·omega
     ·exact absurd e3 (afx u c b i)
    cases e1: ((AV.int .u8 m,r)::l).find? (λp=>match p.1 with|.int _ m=>n==m|_=>false)with
    |none=>grind
    |some p=>
     have g:=ase e1;have t1:=List.find?_some e1;cases d:e.find? (λp=>match p.1 with|.int _ m=>n==m|_=>false)with
     |none=>
      rw[aC5]at d;exact absurd t1 (d p (o.mem_iff.1 g))
     |some q=>
      have s:=o.mem_iff.2 (ase d);have t2:=List.find?_some d;rw[hu q p s g t2 t1]
   ·exfalso;simp[dS,oX,t]at f
  |_=>exfalso;simp[dS,oX]at f
section
variable{P:Program}{W:World}
theorem afy{α β:Type}{f:α->Option β}: ∀ {l:List α} {r:List β},l.mapM f=some r->l.length=r.length/\ ∀ (i:Nat) a b,l[i]?=some a->r[i]?=some b->f a=some b
 | [],r,h=>by grind
 |x::l,r,h=>by
  rw[aCu]at h;simp only[bind,apB,pure,afE]at h;obtain⟨y,d,c,hr,rfl⟩:=h;obtain⟨g,e⟩:=afy hr
  grind
def afz{n:String}{d:DataW Unit}{g e:Nat}{ps rs:Array TypeId}{va:Bool}{a:List (Nat×lB×Nat)}(hfa:funcsAt P W n d)(hd:d.funcsOut= .map (a.map λx=>(.int .u8 x.1,.held x.2.1)))
  (hg:P.globalNamed n=some g) (ht: (P.globals[g]?).map (·.type)=some t) (hu:P.underlying t=some (.map k e)) (hk:P.underlying k=some (.int .u8)) (he:P.underlying e=some (.func ps rs va))
  (S: ∀x∈a,((List.range P.funcs.size).filter λf=>(P.funcs[f]?).any (·.name.toUTF8.data.toList==x.2.1))=[x.2.2]) (se: ∀x∈a,x.2.1≠[]) (D:a.Pairwise λx y=>x.1≠y.1):
  g<W.heap.size/\ ∃es' r ms clock,r<W.heap.size/\W.cell? ⟨g,0,none⟩=some (.map (some r))/\W.heap[r]?=some (.map ms clock)/\eN (G0 W.heap.size W) es' ms.toList/\ ∀k v,dS k (qM a)=some v->dS k es'=some v:=by
 obtain⟨g',t',cs,fuel,p,h1,h2,h3,u⟩:=hfa;obtain rfl:g'=g:=amP (h1.symm.trans hg);obtain rfl:t'=t:=amP (h2.symm.trans ht);rw[hd]at u;cases fuel with
 |zero=>simp[DataW.trod]at u
 |succ fuel=>
 unfold DataW.trod at u;rw[hu]at u;obtain⟨b,K⟩: ∃b,cs.toList=[.map (some b)]:=by
  split at u<;>simp_all
 rw[K]at u;simp only at u;split at u
 case h_2=>cases u
 rename_i es clock hb;split at u
 case isFalse=>cases u
 obtain⟨entries,hm,hs⟩:=apB.1 u;split at hs
 case isFalse=>cases hs
 rename_i aDr;simp only[afE,arE,DataW.map.injEq]at hs;obtain⟨G,_⟩:=hs;obtain⟨E,arU⟩:=afy hm;have z: (entries.map (·.1)).Perm (a.map λx=>(Lit.int .u8 x.1,DataW.held x.2.1)):=by
  rw[<-G];exact(WideShapes.sorted_perm _).symm
 have B: ∀ (i:Nat) (m:MapEntry),es.toList[i]?=some m-> ∃x∈a,(entries.map (·.1))[i]?=some (Lit.int .u8 x.1,DataW.held x.2.1)/\m.key= .int .u8 x.1/\m.val= .func (.func x.2.2) #[] #[]:=by
  intro i m J;have I:i<entries.length:=by rw[<-E];exact(afA.1 J).1
  have B:=arU i m entries[i] J (ag6 I);obtain⟨key,l,s⟩:=apB.1 B;have U:entries[i].1∈a.map λx=>(Lit.int .u8 x.1,DataW.held x.2.1):=z.mem_iff.1 (ahk.2 ⟨entries[i],atQ I,rfl⟩)
  obtain⟨x,C,q⟩:=ahk.1 U;refine⟨x,C,by rw[aiY,ag6 I,ahi,<-q],?_⟩;split at s
  case isFalse=>cases s
  rename_i A;obtain⟨y,F,N⟩:=ahg.1 s;have hk1:key= .int .u8 x.1:=by rw[<-N]at q;simp only[arE]at q;exact q.1.symm
  have V:y.1= .held x.2.1:=by rw[<-N]at q;simp only[arE]at q;exact q.2.symm
  constructor
  ·subst hk1;unfold keyOf at l;rw[hk]at l;simp only at l;unfold mapKey at l;rw[hk]at l;split at l<;>simp_all
  ·have L:m.val.cells.toList=[m.val]:=by
     cases hv:m.val<;>first|rfl| (rw[hv]at A;simp[Value.formed,he]at A)
   rw[L]at F;obtain⟨y1,y2⟩:=y;simp only at V;subst V;cases H:x.2.1 with
   |nil=>exact absurd H (se x C)
   |cons c r=>
    rw[H]at F;have ho:=S x C;rw[H]at ho;exact func_of_trod he ho F
 obtain⟨w,R,Q⟩:=arR z.symm a rfl;have O:g'<W.heap.size:=by
  have hc:W.cell? ⟨g',0,none⟩=some (.map (some b)):=by rw[World.var?_cell hg h3,<-arG,K];rfl
  unfold World.cell? at hc;cases hh:W.heap[g']? with
  |none=>rw[hh]at hc;cases hc
  |some o=>exact(anV.1 hh).1
 have Z: ∀x∈a,∀y∈a,x.1=y.1->x=y:=by
  intro x C y F e;obtain⟨i,J⟩:=awV C;obtain⟨j,Y⟩:=awV F;rw[List.pairwise_iff_getElem]at D;have hi1:=(afA.1 J).1;have X:=(afA.1 Y).1;rcases azC i j with h|h|h
  ·have:=D i j hi1 X h;rw[(afA.1 J).2,(afA.1 Y).2]at this;exact absurd e this
  ·subst h;rw[J]at Y;cases Y;rfl
  ·have:=D j i X hi1 h;rw[(afA.1 J).2,(afA.1 Y).2]at this;exact absurd e.symm this
 refine⟨O,qM w,b,es,clock,(anV.1 hb).1,?_,hb,?_,?_⟩
 ·rw[World.var?_cell hg h3,<-arG,K];rfl
 ·have hl':w.length=es.toList.length:=by
    have:=akG List.length Q;simp only[ahh]at this;omega
  have key: ∀ (T:List (Nat×lB×Nat)) (M:List MapEntry),T.length=M.length->(∀ (i:Nat) x m,T[i]?=some x->M[i]?=some m->m.key= .int .u8 x.1/\m.val= .func (.func x.2.2) #[] #[])->eN (G0 W.heap.size W) (qM T) M:=by
   intro T
   induction T with
   |nil=>
    intro M hM _;cases M with
    |nil=>rfl
    |cons m M=>simp at hM
   |cons x T ih=>
    intro M hM hh;cases M with
    |nil=>simp at hM
    |cons m M=>
     obtain⟨e1,e2⟩:=hh 0 x m rfl rfl;refine⟨m,M,rfl,rfl,by rw[e1];rfl,by rw[e2];exact⟨.func x.2.2,#[],#[],rfl,rfl,rfl,rfl⟩,ih M (by simpa using hM) λi x' m' C hm=>hh (i+1) x' m' (by simpa using C) (by simpa using hm)⟩
  refine key w es.toList hl' λi x m C hm=>?_
  obtain⟨y,F,hy1,hy2,hy3⟩:=B i m hm;have e1: (entries.map (·.1))[i]?=some (Lit.int .u8 x.1,DataW.held x.2.1):=by
   rw[<-Q,aiY,C];rfl
  rw[hy1]at e1;simp only[afE,arE,Lit.int.injEq,aBV]at e1;have e2:y.1=x.1:=by have:=e1.1;omega
  have:y=x:=Z y F x (R.mem_iff.1 (anr C)) e2;subst this;exact⟨hy2,hy3⟩
 ·intro k v hf;refine arS (λp hp=>?_) (R.symm.map _) ?_ hf
  ·obtain⟨x,_,rfl⟩:=ahk.1 hp;exact⟨x.1,rfl⟩
  ·rw[aDm];refine D.imp λhab=>?_
   simp only[ne_eq,AV.int.injEq,aBV];omega
end
section
variable{X:Ctx}
theorem IB{args:lA}{E:AS}{r:aS}(h:j0 X (D X) Lw l args E=some r):D X (.fn (.yield l) [] []) args E=some r:=
 HZ (by trivial)
def afC(X:Ctx)(y:AV)(a k:Nat)(x:lA)(P:List ae->List ae->Prop)(Q:Bool->List ae->List ae->Prop):Prop:=
 ∀A M,P A M->A.length=a-> ∀G L lo,G.length=k-> ∃b A' c,A'.length=a/\c.length=M.length/\D X y x ⟨A++(G++(M++L)),lo⟩=some (.ret (.bool b) ⟨A'++(G++(c++L)),lo⟩)/\Q b A' c
def afD(X:Ctx)(g:AV)(a:Nat)(G:List ae)(xs:List lA):Prop:=
 ∀ (y:AV) (I:Nat->List ae->List ae->Prop) (J:List ae->List ae->Prop),
   (∀j x,xs[j]?=some x->afC X y a G.length x (I j) (λb A M=>if b=true then I (j+1) A M else J A M))->
   ∀A M,A.length=a->I 0 A M-> ∀lo,∃A' d c,A'.length=a/\d.length=G.length/\c.length=M.length/\
    D X g [y] ⟨A++(G++M),lo⟩=some (.ret (.au []) ⟨A'++(d++c),lo⟩)/\ (I xs.length A' c\/J A' c)
def PU(a:Nat)(R:List ae)(I:List ae->Prop)(J:Ex->List ae->Prop):bQ:=λex _ E=>
 E.lo=none/\ ∃b iD,E.heap=b++(R++iD)/\b.length=a/\ (match ex with|.normal=>I b|.panic _=>False|ex=>J ex b)
def Ex.code:Ex->PC
 |.ret=>.ret
 |.exit id=>.exit id
 |_=>.skip
def ar1{g:ao}{a:lN}{as c:PC}{Q:bQ}(xs:List lA)(A G:List ae)
  (hg:rZ X (g.get e)=true) (PV:afD X (g.get e) A.length G xs) (I:Nat->List ae->Prop) (J:Ex->List ae->Prop) (h0:I 0 A)
  (hb: ∀j x,xs[j]?=some x->x.length=a.length/\ ∀k,k.length=A.length->I j k-> ∀R,
    wp X f true as ⟨iE e a x,[]⟩ ⟨k++R,none⟩ (λex fr N=>ex= .normal/\ ∃R1,N=⟨k++(R++R1),none⟩/\
     ∀R',R'.length=R.length->wp X f true c fr ⟨k++(R'++R1),none⟩ (PU A.length R' (I (j+1)) J)))
  (h1: ∀A' i o,A'.length=A.length->i.length=G.length->I xs.length A'->Q .normal ⟨e,[(A++G).length]⟩ ⟨A'++(i++[.bB,o]),none⟩)
  (h2: ∀ex A' i o,A'.length=A.length->i.length=G.length->J ex A'->Q ex ⟨e,[(A++G).length]⟩ ⟨A'++(i++[.bB,o]),none⟩):
  wp X f false (.ia g a as c) ⟨e,[]⟩ ⟨A++G,none⟩ Q:=by
 obtain⟨l,hl⟩: ∃l,l=A.length+G.length+1:=⟨_,rfl⟩;have w: ∀ (A' i:List ae) (d o:ae) (L:List ae),A'.length=A.length->i.length=G.length->(A'++(i++([d,o]++L)))[l]?=some o:=by
  intro A' i d o L ha E;rw[ahr (by omega),ahr (by omega),ha,E,hl];rw[show A.length+G.length+1-A.length-G.length=1 by omega];rfl
 have z: ∀ (A' i:List ae) (d o o':ae) (L:List ae),A'.length=A.length->i.length=G.length->(A'++(i++([d,o]++L))).set l o'=A'++(i++([d,o']++L)):=by
  intro A' i d o o' L ha E;rw[aqk _ _ (by omega),aqk _ _ (by omega),ha,E,hl];rw[show A.length+G.length+1-A.length-G.length=1 by omega];rfl
 have n: ∀ (H:List ae) (o:ae),AS.set ⟨H,none⟩ l o 0=⟨H.set l o,none⟩:=λH o=>by simp[AS.set]
 let I':Nat->List ae->List ae->Prop:=λj k M=>M=[.bB,.loop .ready none f e a as c]/\I j k
 let J':List ae->List ae->Prop:=λk M=> ∃ex,M=[.bB,.loop .done (some ex.code) f e a as c]/\Aj ex.code=some ex/\J ex k
 have C: ∀j x,xs[j]?=some x->afC X (.fn (.yield l) [] []) A.length G.length x (I' j) (λb A M=>if b=true then I' (j+1) A M else J' A M):=by
  intro j x hx k M ⟨T,hI⟩ q G1 L lo y;subst T;obtain⟨Z,hbj⟩:=hb j x hx;have h:=hbj k q hI (G1++([.bB,.loop .ready none f e a as c]++L));obtain⟨ex,fr,N,DX,rfl,R1,rfl,F⟩:=h;have F:=F (G1++([.bB,.loop .busy none f e a as c]++L)) (by simp);obtain⟨V,fr2,Y,PW,B,t,iD,S,m,hex⟩:=F;obtain⟨h2',jB⟩:=Y;simp only at B S;subst B S;have hn: (k++(G1++([ae.bB,.loop .ready none f e a as c]++L))).length=(t++(G1++([ae.bB,.loop .busy none f e a as c]++L))).length:=by
   simp[q,m]
  have u: ∀ (O:Option PC),r6 V=some O->j0 X (D X) Lw l x ⟨k++(G1++([ae.bB,.loop .ready none f e a as c]++L)),lo⟩=some (.ret (.bool O.isNone) ⟨t++(G1++([ae.bB,.loop (if O.isNone then .ready else .done) O f e a as c]++L)),lo⟩):=by
   intro O DY;unfold j0;simp only[w k G1 _ _ L q y];rw[afJ Z,DX];simp only;have e1:k++((G1++([ae.bB,.loop .ready none f e a as c]++L))++R1)=k++(G1++([ae.bB,.loop .ready none f e a as c]++(L++R1))):=by simp
   rw[e1,w k G1 _ _ (L++R1) q y];simp only[n,z k G1 _ _ _ (L++R1) q y];have e2:k++(G1++([ae.bB,.loop .busy none f e a as c]++(L++R1)))=k++((G1++([ae.bB,.loop .busy none f e a as c]++L))++R1):=by simp
   rw[e2,PW];have e3:t++((G1++([ae.bB,.loop .busy none f e a as c]++L))++iD)=t++(G1++([ae.bB,.loop .busy none f e a as c]++(L++iD))):=by simp
   simp only[endRound,DY,e3,w t G1 _ _ (L++iD) m y,n,z t G1 _ _ _ (L++iD) m y];have e4: ∀o:ae,(t++(G1++([ae.bB,o]++(L++iD)))).take (k++(G1++([ae.bB,.loop .ready none f e a as c]++L))).length=t++(G1++([ae.bB,o]++L)):=by
    intro o;have:t++(G1++([ae.bB,o]++(L++iD)))=(t++(G1++([ae.bB,o]++L)))++iD:=by simp
    rw[this];exact apE (by simp[q,m])
   simp only[finish,freeze,AV.refs,aha,aiZ,e4]
  cases V with
  |normal=>
   exact⟨true,t,_,m,rfl,IB (u none rfl),by simp only[aiZ];exact⟨rfl,hex⟩⟩
  |ret=>
   exact⟨false,t,[.bB,.loop .done (some .ret) f e a as c],m,rfl,IB (u (some .ret) rfl),by simp only[ahf,amJ];exact⟨.ret,rfl,rfl,hex⟩⟩
  |exit id=>
   exact⟨false,t,[.bB,.loop .done (some (.exit id)) f e a as c],m,rfl,IB (u (some (.exit id)) rfl),by simp only[ahf,amJ];exact⟨.exit id,rfl,rfl,hex⟩⟩
  |panic v=>exact hex.elim
 obtain⟨A',i,M',s,p,hM',hD,IC⟩:=PV (.fn (.yield l) [] []) I' J' C A [.bB,.loop .ready none f e a as c] rfl ⟨rfl,h0⟩ none;have K: ((AS.push ⟨A++G,none⟩ .bB).push (.loop .ready none f e a as c))=(⟨A++(G++[.bB,.loop .ready none f e a as c]),none⟩:AS):=by simp[AS.push]
 have W: (A++G).length+1=l:=by simp[hl]
 have P: ∀r,endLoop l ⟨e,[(A++G).length]⟩ ⟨A'++(i++M'),none⟩=some r->aY X (D X) Lw f false (.ia g a as c) ⟨e,[]⟩ ⟨A++G,none⟩=some r:=by
  intro r hr;simp only[aY,ahf,amJ];rw[afJ hg,W,K,hD];exact hr
 rcases IC with⟨T,hI⟩| ⟨ex,T,hj,hJ⟩
 ·subst T;refine⟨.normal,⟨e,[(A++G).length]⟩,⟨A'++(i++[.bB,.loop .exhausted none f e a as c]),none⟩,P _ ?_,h1 A' i _ s p hI⟩;have:=w A' i .bB (.loop .ready none f e a as c) [] s p;have U:=z A' i .bB (.loop .ready none f e a as c) (.loop .exhausted none f e a as c) [] s p;simp only[aiH]at this U;unfold endLoop;simp only[this];rw[afB (by decide),n,U]
 ·subst T;refine⟨ex,⟨e,[(A++G).length]⟩,⟨A'++(i++[.bB,.loop .exhausted (some ex.code) f e a as c]),none⟩,P _ ?_,h2 ex A' i _ s p hJ⟩;have:=w A' i .bB (.loop .done (some ex.code) f e a as c) [] s p;have U:=z A' i .bB (.loop .done (some ex.code) f e a as c) (.loop .exhausted (some ex.code) f e a as c) [] s p;simp only[aiH]at this U;unfold endLoop;simp only[this,hj];rw[afB (by decide),n,U]
end
section
structure YV(S:Type)where
 P:S->List ae->Prop
 row:S->oN
 dP:Nat->Prop
 c:Nat
structure YV.Ok{S:Type}(V:YV S):Prop where
 st: ∀s W W',V.P s W->(∀i,V.dP i\/V.row s=some i->W'[i]?=W[i]?)->V.P s W'
 lt: ∀s W r,V.P s W->V.row s=some r-> ∃v z t af,W[r]?=some (.row v z t af)
def YV.Fr{S:Type}(V:YV S)(s:S)(W a:List ae):Prop:=W.length<=a.length/\ ∀i,i<W.length-> ¬V.dP i->V.row s≠some i->a[i]?=W[i]?
def m0(c b:Nat)(lo ak:oN)(r a:oN):Prop:=(ak=lo/\a=r)\/ ∃j,c<=j/\j<b/\ak=cA lo j
variable{X:Ctx}
def afF(X:Ctx){S:Type}(V:YV S)(b:Nat)(y:AV)(x:lA)(s:S)(Q:Bool->S->Prop):Prop:=
 ∀W,V.P s W->b<=W.length-> ∀lo,∃c a d ak,D X y x ⟨W,lo⟩=some (.ret (.bool c) ⟨d,ak⟩)/\V.P a d/\V.Fr s W d/\ (V.row a=V.row s\/ ∃r,V.row a=some r/\W.length<=r)/\m0 V.c b lo ak (V.row s) (V.row a)/\Q c a
def uL(X:Ctx)(g:AV)(a:Nat)(G:List ae)(xs:List lA):Prop:=
 ∀ (S:Type) (V:YV S) (y:AV) (I:Nat->S->Prop) (J:S->Prop) (b:Nat),V.Ok->(∀i,V.dP i->i<b/\ ¬(a<=i/\i<a+G.length))->
   (∀j x s,xs[j]?=some x->I j s->afF X V b y x s (λc d=>if c=true then I (j+1) d else J d))->
   ∀W s,V.P s W->I 0 s->W.length=b->V.row s=none->(∀i,i<G.length->W[a+i]?=G[i]?)-> ∀lo,∃d e ak,
    D X g [y] ⟨W,lo⟩=some (.ret (.au []) ⟨e,ak⟩)/\V.P d e/\ (I xs.length d\/J d)/\b<=e.length/\
    (∀i,i<b-> ¬V.dP i-> ¬(a<=i/\i<a+G.length)->e[i]?=W[i]?)/\m0 V.c b lo ak none (V.row d)
theorem D0:cA none j=some j:=rfl
def afG: ∃q,cA (some i) j=some q/\ (q=i\/q=j):=by
 refine⟨Nat.min j i,rfl,?_⟩
 grind
def afH{S:Type}(V:YV S)(b:Nat)(s:S)(W:List ae)(I:S->Prop)(J:Ex->S->Prop):bQ:=λex _ E=>
 ∃a,V.P a E.heap/\V.Fr s W E.heap/\ ((E.lo=none/\V.row a=V.row s)\/ ∃j,V.c<=j/\j<b/\E.lo=some j/\ (V.row a=V.row s\/ ∃r,V.row a=some r/\W.length<=r))/\
  (match ex with|.normal=>I a|.panic _=>False|ex=>J ex a)
def PX{H:List ae}(a:v.refs=0): (finish n lo v ⟨H,ak⟩).2=(match ak with|none=>⟨H.take n,lo⟩|some j=>if n<=j then⟨H.take n,lo⟩else⟨H,cA lo j⟩):=by
 have c: ∀k E,freeze E n (k+1) v=some v:=λk E=>yB (by omega)
 unfold finish;cases ak with
 |none=>grind
 |some j=>
  simp only[amT];split
  ·grind
  ·rfl
def qN{W:List ae}{o:ae}(h:i≠l): (W.set l o)[i]?=W[i]?:=by grind
def afI{W:List ae}{o:ae}(h:l<W.length): (W.set l o)[l]?=some o:=by grind
def yV{S:Type}(V:YV S)(m:Nat)(f:FuncId)(e:Env)(a:lN)(as d:PC):YV (S×Option Ex)where
 P:=λs W=>V.P s.1 W/\W[m]?=some .bB/\W[m+1]?=some (match s.2 with|none=>.loop .ready none f e a as d|some ex=>.loop .done (some ex.code) f e a as d)
 row:=λs=>V.row s.1
 dP:=λi=>V.dP i\/i=m\/i=m+1
 c:=V.c
theorem ar3{S:Type}{V:YV S}(c:V.Ok){d:lN}{as l:PC}: (yV V m f e d as l).Ok where
 st:=λs W n ⟨k,j,g⟩ h=>by
  refine⟨c.st _ _ _ k λi a=>h i ?_,?_,?_⟩
  ·rcases a with a|a
   ·exact .inl (.inl a)
   ·exact .inr a
  ·rw[h m (.inl (.inr (.inl rfl)))];exact j
  ·rw[h (m+1) (.inl (.inr (.inr rfl)))];exact g
 lt:=λs W r h hr=>c.lt _ _ r h.1 hr
def ID{S:Type}(V:YV S)(O:V.Ok){g:ao}{p:lN}{as u:PC}{Q:bQ}(xs:List lA)(a:Nat)(G W0:List ae)(s0:S)
  (hg:rZ X (g.get e)=true) (PV:uL X (g.get e) a G xs) (hG: ∀i,i<G.length->W0[a+i]?=G[i]?) (hGl:a+G.length<=W0.length)
  (q: ∀i,V.dP i->i<W0.length/\ ¬(a<=i/\i<a+G.length)) (hP:V.P s0 W0) (T:V.row s0=none)
  (I:Nat->S->Prop) (J:Ex->S->Prop) (h0:I 0 s0) (hJ: ∀ex s,J ex s-> ∃t,r6 ex=some (some t)/\Aj t=some ex/\ex.code=t)
  (hb: ∀j x s,xs[j]?=some x->I j s->x.length=p.length/\ ∀W,V.P s W->W0.length+2<=W.length->
    wp X f true as ⟨iE e p x,[]⟩ ⟨W,none⟩ (λex fr AW=>ex= .normal/\ ∃R1,AW=⟨W++R1,none⟩/\
     ∀H,H.length=W.length->V.P s H->wp X f true u fr ⟨H++R1,none⟩ (afH V (W0.length+2) s H (I (j+1)) J)))
  (h1: ∀n k ak,I xs.length n->V.P n k->W0.length+2<=k.length->k[W0.length]?=some .bB->(∀i,i<W0.length-> ¬V.dP i-> ¬(a<=i/\i<a+G.length)->k[i]?=W0[i]?)->m0 V.c (W0.length+2) none ak none (V.row n)->Q .normal ⟨e,[W0.length]⟩ ⟨k,ak⟩)
  (h2: ∀ex n k ak,J ex n->V.P n k->W0.length+2<=k.length->k[W0.length]?=some .bB->(∀i,i<W0.length-> ¬V.dP i-> ¬(a<=i/\i<a+G.length)->k[i]?=W0[i]?)->m0 V.c (W0.length+2) none ak none (V.row n)->Q ex ⟨e,[W0.length]⟩ ⟨k,ak⟩):
  wp X f false (.ia g p as u) ⟨e,[]⟩ ⟨W0,none⟩ Q:=by
 obtain⟨m,hm⟩: ∃m,m=W0.length:=⟨_,rfl⟩
 let A:=yV V m f e p as u
 have hV':A.Ok:=ar3 O
 let I':Nat->S×Option Ex->Prop:=λj s=>s.2=none/\I j s.1
 let J':S×Option Ex->Prop:=λs=> ∃ex,s.2=some ex/\J ex s.1
 have AX: ∀s W r,V.P s W->V.row s=some r->r<W.length:=λs W r h1 h2=>by
  obtain⟨_,_,_,_,h⟩:=O.lt s W r h1 h2;exact(afA.1 h).1
 have ar5: ∀j x s,xs[j]?=some x->I' j s->afF X A (m+2) (.fn (.yield (m+1)) [] []) x s (λc n=>if c=true then I' (j+1) n else J' n):=by
  rintro j x ⟨s,so⟩ hx ⟨z,hI⟩ W ⟨L,hd,hl⟩ hW lo;simp only at z hI L hl;subst z;simp only at hl;obtain⟨qD,hw⟩:=hb j x s hx hI;obtain⟨ex,fr,AW,DX,rfl,R1,rfl,hbd⟩:=hw W L (by omega);have hnp: ∀i,V.dP i\/V.row s=some i->i≠m/\i≠m+1:=by
   rintro i (d|d)
   ·have:=(q i d).1;omega
   ·obtain⟨_,_,_,_,h⟩:=O.lt s W i L d;refine⟨?_,?_⟩
    ·rintro rfl;rw[hd]at h;cases h
    ·rintro rfl;rw[hl]at h;cases h
  obtain⟨H,E⟩: ∃H,H=W.set (m+1) (.loop .busy none f e p as u):=⟨_,rfl⟩;have AH:H.length=W.length:=by rw[E,ahq]
  have PY:V.P s H:=O.st _ _ _ L λi d=>by rw[E,qN (hnp i d).2]
  obtain⟨IE,fr2,l,PW,n,F,P,N,hex⟩:=hbd H AH PY;have IF: (W++R1)[m+1]?=some (.loop .ready none f e p as u):=by rw[aeT (by omega)];exact hl
  have ar7:AS.set ⟨W++R1,none⟩ (m+1) (.loop .busy none f e p as u) 0=⟨H++R1,none⟩:=by
   simp only[AS.set,aha,aiZ,E];rw[asa _ _ (by omega)]
  have ar8:H[m+1]?=some (.loop .busy none f e p as u):=by rw[E];exact afI (by omega)
  have M: ∀i,i=m\/i=m+1-> ¬V.dP i/\V.row s≠some i:=λi d=>⟨λh=>by have:=(q i h).1;omega,λh=>by have:=hnp i (.inr h);omega⟩
  have K:l.heap[m+1]?=some (.loop .busy none f e p as u):=by
   rw[P.2 (m+1) (by omega) (M _ (.inr rfl)).1 (M _ (.inr rfl)).2];exact ar8
  have R:l.heap[m]?=some .bB:=by
   rw[P.2 m (by omega) (M _ (.inl rfl)).1 (M _ (.inl rfl)).2,E,qN (by omega)];exact hd
  have Y: ∀i,V.dP i\/V.row n=some i->i≠m/\i≠m+1:=by
   rintro i (d|d)
   ·have:=(q i d).1;omega
   ·obtain⟨_,_,_,_,h⟩:=O.lt n _ i F d;refine⟨?_,?_⟩
    ·rintro rfl;rw[R]at h;cases h
    ·rintro rfl;rw[K]at h;cases h
  have aDv:W.length<=l.heap.length:=by have:=P.1;omega
  have DD: ∀ (t:Option PC),r6 IE=some t->j0 X (D X) Lw (m+1) x ⟨W,lo⟩=some (.ret (.bool t.isNone)
    (finish W.length lo (.bool t.isNone) ⟨l.heap.set (m+1) (.loop (if t.isNone then .ready else .done) t f e p as u),l.lo⟩).2):=by
   intro t DY;unfold j0;simp only[hl];rw[afJ qD,DX];simp only[IF,ar7,PW];simp only[endRound,DY,K,AS.set,aha,aiZ]
  have key: ∀ (t:Option PC) (w:Option Ex),r6 IE=some t->(match w with|none=>ae.loop .ready none f e p as u|some ex=>.loop .done (some ex.code) f e p as u)= .loop (if t.isNone then .ready else .done) t f e p as u->
    ∃k ak,D X (.fn (.yield (m+1)) [] []) x ⟨W,lo⟩=some (.ret (.bool t.isNone) ⟨k,ak⟩)/\A.P (n,w) k/\A.Fr (s,none) W k/\ (A.row (n,w)=A.row (s,none)\/ ∃r,A.row (n,w)=some r/\W.length<=r)/\m0 A.c (m+2) lo ak (A.row (s,none)) (A.row (n,w)):=by
   intro t w DY U;obtain⟨o,ho⟩: ∃o,o=ae.loop (if t.isNone then .ready else .done) t f e p as u:=⟨_,rfl⟩;rw[<-ho]at U;have hD:=IB (DD t DY);rw[<-ho]at hD;have Z: ∀k,(∀i,i<W.length->k[i]?=(l.heap.set (m+1) o)[i]?)->(∀i,V.row n=some i->k[i]?=(l.heap.set (m+1) o)[i]?)->W.length<=k.length->A.P (n,w) k/\A.Fr (s,none) W k:=by
    intro k B hrw y;refine⟨⟨O.st _ _ _ F λi d=>?_,?_,?_⟩,y,λi d hp hr=>?_⟩
    ·rcases d with d|d
     ·rw[B i (by have:=(q i d).1;omega),qN (Y i (.inl d)).2]
     ·rw[hrw i d,qN (Y i (.inr d)).2]
    ·rw[B m (by omega),qN (by omega)];exact R
    ·rw[B (m+1) (by omega),afI (by omega)];exact akG some U.symm
    ·have hp1: ¬V.dP i:=λh=>hp (.inl h)
     have D1:i≠m/\i≠m+1:=⟨λh=>hp (.inr (.inl h)),λh=>hp (.inr (.inr h))⟩;rw[B i d,qN D1.2,P.2 i (by omega) hp1 hr,E,qN D1.2]
   rcases N with⟨hn,hr⟩| ⟨jj,hc,hj,hn,hr⟩
   ·have e1: (finish W.length lo (.bool t.isNone) ⟨l.heap.set (m+1) o,l.lo⟩).2=⟨(l.heap.set (m+1) o).take W.length,lo⟩:=by rw[PX rfl,hn]
    rw[e1]at hD;refine⟨_,_,hD,?_⟩;obtain⟨g1,g2⟩:=Z ((l.heap.set (m+1) o).take W.length) (λi d=>by rw[aiX d])
     (λi d=>by rw[aiX (AX s W i L (by rw[<-hr];exact d))]) (by rw[ai1,ahq];omega)
    exact⟨g1,g2,.inl hr,.inl ⟨rfl,hr⟩⟩
   ·have e1: (finish W.length lo (.bool t.isNone) ⟨l.heap.set (m+1) o,l.lo⟩).2=⟨l.heap.set (m+1) o,cA lo jj⟩:=by
      rw[PX rfl,hn];simp only;rw[afB (by omega)]
    rw[e1]at hD;refine⟨_,_,hD,?_⟩;obtain⟨g1,g2⟩:=Z (l.heap.set (m+1) o) (λi _=>rfl) (λi _=>rfl) (by rw[ahq];omega);refine⟨g1,g2,?_,.inr ⟨jj,hc,by omega,rfl⟩⟩;rcases hr with hr| ⟨r,hr,aDw⟩
    ·exact .inl hr
    ·exact .inr ⟨r,hr,by omega⟩
  cases IE with
  |normal=>
   obtain⟨k,ak,g1,g2,g3,g4,g5⟩:=key none none rfl rfl;exact⟨true,(n,none),k,ak,g1,g2,g3,g4,g5,by simp only[aiZ];exact⟨rfl,hex⟩⟩
  |panic v=>exact hex.elim
  |ret=>
   obtain⟨k,ak,g1,g2,g3,g4,g5⟩:=key (some .ret) (some .ret) rfl rfl;exact⟨false,(n,some .ret),k,ak,g1,g2,g3,g4,g5,by simp only[ahf,amJ];exact⟨.ret,rfl,hex⟩⟩
  |exit id=>
   obtain⟨k,ak,g1,g2,g3,g4,g5⟩:=key (some (.exit id)) (some (.exit id)) rfl rfl;exact⟨false,(n,some (.exit id)),k,ak,g1,g2,g3,g4,g5,by simp only[ahf,amJ];exact⟨.exit id,rfl,hex⟩⟩
 have asb: ∀i,A.dP i->i<m+2/\ ¬(a<=i/\i<a+G.length):=by
  rintro i (d|rfl|rfl)
  ·have:=q i d;exact⟨by omega,this.2⟩
  ·exact⟨by omega,by omega⟩
  ·exact⟨by omega,by omega⟩
 have asc: ∀i,V.dP i\/V.row s0=some i->i<W0.length:=by
  rintro i (d|d)
  ·exact(q i d).1
  ·rw[T]at d;cases d
 have PZ:A.P (s0,none) (W0++[.bB,.loop .ready none f e p as u]):=by
  refine⟨O.st _ _ _ hP λi d=>by rw[aeT (asc i d)],?_,?_⟩
  ·rw[hm,di rfl];rfl
  ·rw[hm,bA rfl];rfl
 obtain⟨⟨n,w⟩,k,ak,hD,⟨F,AD,C⟩,IC,y,pt,N⟩:=PV _ A (.fn (.yield (m+1)) [] []) I' J' (m+2) hV' asb ar5 (W0++[.bB,.loop .ready none f e p as u]) (s0,none) PZ ⟨rfl,h0⟩ (by simp[hm]) T
  (λi d=>by rw[aeT (by omega)];exact hG i d) none
 simp only at F C;have asd: ∀i,V.dP i\/V.row n=some i->i≠m/\i≠m+1:=by
  rintro i (d|d)
  ·have:=(q i d).1;omega
  ·obtain⟨_,_,_,_,h⟩:=O.lt n _ i F d;refine⟨?_,?_⟩
   ·rintro rfl;rw[AD]at h;cases h
   ·rintro rfl;rw[C]at h;cases w<;>cases h
 have afK: ∀o,V.P n (k.set (m+1) o)/\m+2<=(k.set (m+1) o).length/\ (k.set (m+1) o)[m]?=some .bB/\ (∀i,i<m-> ¬V.dP i-> ¬(a<=i/\i<a+G.length)->(k.set (m+1) o)[i]?=W0[i]?):=by
  intro o;refine⟨O.st _ _ _ F λi d=>by rw[qN (asd i d).2],by rw[ahq];exact y,by rw[qN (by omega)];exact AD,λi d hp hg'=>?_⟩;rw[qN (by omega),pt i (by omega) (λh=>by rcases h with h|h|h;exact hp h;omega;omega) hg',aeT (by omega)]
 have asf: ((AS.push ⟨W0,none⟩ .bB).push (.loop .ready none f e p as u))=(⟨W0++[.bB,.loop .ready none f e p as u],none⟩:AS):=by simp[AS.push]
 have hrc: ∀r,endLoop (m+1) ⟨e,[m]⟩ ⟨k,ak⟩=some r->aY X (D X) Lw f false (.ia g p as u) ⟨e,[]⟩ ⟨W0,none⟩=some r:=by
  intro r hr;simp only[aY,ahf,amJ];rw[afJ hg,<-hm,asf,hD];exact hr
 rcases IC with⟨z,hI⟩| ⟨ex,z,hJx⟩
 ·simp only at z;subst z;simp only at C;obtain⟨q1,q2,q3,q4⟩:=afK (.loop .exhausted none f e p as u);refine⟨.normal,⟨e,[m]⟩,⟨k.set (m+1) (.loop .exhausted none f e p as u),ak⟩,hrc _ ?_,?_⟩
  ·unfold endLoop;simp only[C,AS.set,aha,aiZ];rfl
  ·rw[hm]at q2 q3 q4⊢;exact h1 n _ ak hI (hm ▸ q1) q2 q3 q4 (hm ▸ N)
 ·simp only at z;subst z;simp only at C;obtain⟨t,j1,j2,j3⟩:=hJ ex n hJx;obtain⟨q1,q2,q3,q4⟩:=afK (.loop .exhausted (some ex.code) f e p as u);refine⟨ex,⟨e,[m]⟩,⟨k.set (m+1) (.loop .exhausted (some ex.code) f e p as u),ak⟩,hrc _ ?_,?_⟩
  ·unfold endLoop;simp only[C,j3,j2,AS.set,aha,aiZ];rfl
  ·rw[hm]at q2 q3 q4⊢;exact h2 ex n _ ak hJx (hm ▸ q1) q2 q3 q4 (hm ▸ N)
structure j6{S:Type}(V:YV S)(b:Nat)(W0:List ae)(own:Nat->Prop)(s:S)(W:List ae)(lo:oN):Prop where
 P:V.P s W
 len:b<=W.length
 fr: ∀i,i<b-> ¬V.dP i-> ¬own i->W[i]?=W0[i]?
 lo: (lo=none/\V.row s=none)\/ ∃j,V.c<=j/\j<b/\lo=some j
 row: ∀r,V.row s=some r->b<=r
section
variable{S:Type}{V:YV S}{b:Nat}{W0 W:List ae}{own:Nat->Prop}{s:S}{lo:oN}
def YV.Ok.IG(a:V.Ok)(d:V.P s W)(c:V.row s=some r):r<W.length:=by
 obtain⟨_,_,_,_,h⟩:=a.lt s W r d c
 grind
def j6.push(c:V.Ok)(d: ∀i,V.dP i->i<b)(h:j6 V b W0 own s W lo)(L:List ae):j6 V b W0 own s (W++L) lo where
 P:=c.st _ _ _ h.P λi a=>by
  have:i<W.length:=by
   rcases a with a|a
   ·have:=d i a;have:=h.len;omega
   ·exact c.IG h.P a
  grind
 len:=by have:=h.len;grind
 fr:=λi a f e=>by rw[aeT (by have:=h.len;omega)];exact h.fr i a f e
 lo:=h.lo
 row:=h.row
theorem j6.set(c:V.Ok)(h:j6 V b W0 own s W lo){o:ae}(g: ¬V.dP k)(f:V.row s≠some k)(ho:own k\/b<=k):j6 V b W0 own s (W.set k o) lo where
 P:=c.st _ _ _ h.P λi a=>by grind
 len:=by rw[ahq];exact h.len
 fr:=λi a e d=>by
  rw[qN]
  ·exact h.fr i a e d
  grind
 lo:=h.lo
 row:=h.row
def j6.step(h:j6 V b W0 own s W lo){a:S}{d:List ae}(t:V.P a d)(k:V.Fr s W d)(p:V.row a=V.row s\/ ∃r,V.row a=some r/\W.length<=r)(o:m0 V.c b lo ak (V.row s) (V.row a)):j6 V b W0 own a d ak where
 P:=t
 len:=akH h.len k.1
 fr:=λi g c f=>by
  have w:=h.len;rw[k.2 i (by omega) c (λe=>by have:=h.row i e;omega)];exact h.fr i g c f
 lo:=by
  rcases o with⟨rfl,e⟩| ⟨j,n,l,rfl⟩
  ·rcases h.lo with⟨c,f⟩|q
   ·grind
   grind
  ·rcases h.lo with⟨rfl,_⟩| ⟨i,m,g,rfl⟩
   ·exact .inr ⟨j,n,l,rfl⟩
   ·obtain⟨q,e,v⟩:=afG (i:=i) (j:=j)
    grind
 row:=λr e=>by
  rcases p with q| ⟨u,q,hr⟩
  ·exact h.row r (by grind)
  ·rw[q]at e;cases e;exact akH h.len hr
def j6.fin(m:V.Ok)(p: ∀i,V.dP i->i<b)(h:j6 V b W0 own s W lo){dy:oN}: ∃a ak,(finish b dy (.au []) ⟨W,lo⟩)=(.au [],⟨a,ak⟩)/\V.P s a/\b<=a.length/\
  (∀i,i<b-> ¬V.dP i-> ¬own i->a[i]?=W0[i]?)/\m0 V.c b dy ak none (V.row s):=by
 have e: (finish b dy (.au []) ⟨W,lo⟩).1= .au []:=by
  have r:freeze ⟨W,lo⟩ b 12 (.au [])=some (.au []):=yB (aha _);have key: ∀c:Bool,(if c=true then(match freeze ⟨W,lo⟩ b 12 (.au [])with|some v'=>(v',(⟨W.take b,dy⟩:AS))|none=>(.au [],⟨W,fV dy lo⟩))else(.au [],⟨W,fV dy lo⟩)).1= .au []:=by grind
  cases lo with
  |none=>exact key true
  |some j=>exact key (decide (b<=j))
 have o:=PX (n:=b) (lo:=dy) (ak:=lo) (v:=.au []) (H:=W) rfl;rcases h.lo with⟨rfl,q⟩| ⟨j,l,k,rfl⟩
 ·refine⟨W.take b,dy,Prod.ext e o,?_,?_,?_,.inl ⟨rfl,q⟩⟩
  ·refine m.st _ _ _ h.P λi d=>?_
   grind
  ·rw[ai1];have:=h.len;omega
  ·intro i d g f;rw[aiX d];exact h.fr i d g f
 ·refine⟨W,cA dy j,Prod.ext e ?_,h.P,h.len,h.fr,.inr ⟨j,l,k,rfl⟩⟩
  grind
end
def SV(p sz:Nat)(ty:TypeId)(W:List ae)(r:oN)(af:List lA):Prop:=
 (r=none/\af=[]/\W[p]?=some (.box [.ai] none))\/ ∃id aj,r=some id/\af≠[]/\p<id/\W[p]?=some (.box [.ref id aj sz 0 af.length false] none)/\W[id]?=some (.row aj sz ty af)
def SV.st{ty:TypeId}{W f:List ae}{r:oN}(h:SV p sz ty W r af)(j:f[p]?=W[p]?)(g: ∀i,r=some i->f[i]?=W[i]?):SV p sz ty f r af:=by
 rcases h with⟨a,b,c⟩| ⟨id,aj,a,e,b,c,d⟩
 ·exact .inl ⟨a,b,by grind⟩
 ·exact .inr ⟨id,aj,a,e,b,by grind,by grind⟩
theorem SV.row{ty:TypeId}{W:List ae}{r:oN}(h:SV p sz ty W r af)(e:r=some i): ∃v z t es,W[i]?=some (.row v z t es):=by
 rcases h with⟨a,b,c⟩| ⟨id,aj,a,f,b,c,d⟩
 ·grind
 grind
def afN{H:List ae}{v0:AV}(h:H[p]?=some (.box [v0] tg))(c:v.cb=false)(a:v.cells=[v])(d:p+1<v.refs):kR ⟨H,lo⟩ 1 (.ptr p 0) v=some ⟨H.set p (.box [v] tg),cA lo p⟩:=by
 unfold kR;simp only[h,a];rw[afJ ⟨c,rfl,ahd _⟩];simp only[AS.set];rw[afB (by omega)];rfl
def SV.append{bytes:Nat}{ty:TypeId}{W:List ae}{r:oN}{el:lA}(h:SV p sz ty W r af)(l:p<W.length)(t:0<sz)(w:el.length=sz)(u:aG el=0)(n: (af.length+1)*bytes<=room)(lo:oN):
  ∃v v' o a f,W[p]?=some (.box [v] none)/\dx ⟨W,lo⟩ ty sz bytes v [el]=some (v',⟨o,lo⟩)/\kR ⟨o,lo⟩ 1 (.ptr p 0) v'=some ⟨a,cA lo p⟩/\SV p sz ty a f (af++[el])/\
   W.length<=a.length/\ (∀i,i<W.length->i≠p->r≠some i->a[i]?=W[i]?)/\ (f=r\/ ∃q,f=some q/\W.length<=q):=by
 have m:0<sz/\ [el].all (λx=>x.length==sz)=true:=⟨t,by grind⟩;rcases h with⟨rfl,rfl,c⟩| ⟨id,aj,rfl,_,g,c,d⟩
 ·have e1:dx ⟨W,lo⟩ ty sz bytes .ai [el]=some (.ref W.length 0 sz 0 1 false,⟨W++[.row 0 sz ty [el]],lo⟩):=by
    unfold dx;rw[afJ m];simp only[aho,apt,ans,Nat.one_ne_zero,amJ];rw[afJ (by simpa using n)];rfl
  have k: (W++[ae.row 0 sz ty [el]])[p]?=some (.box [.ai] none):=by rw[aeT l];exact c
  refine⟨.ai,_,_,(W++[ae.row 0 sz ty [el]]).set p (.box [.ref W.length 0 sz 0 1 false] none),some W.length,c,e1,?_,.inr ⟨W.length,0,rfl,by simp,l,?_,?_⟩,?_,?_,.inr ⟨_,rfl,ahd _⟩⟩
  ·exact afN k rfl rfl (by simp only[AV.refs];omega)
  ·exact ahj (by rw[ahc];omega)
  ·rw[aeR (by omega)];simp
  ·simp
  grind
 ·have j:=(afA.1 d).1;have e1:dx ⟨W,lo⟩ ty sz bytes (.ref id aj sz 0 af.length false) [el]=some (.ref id (aj+1) sz 0 (af.length+1) false,⟨W.set id (.row (aj+1) sz ty (af++[el])),lo⟩):=by
   unfold dx;rw[afJ m];simp only[d];rw[afJ ⟨trivial,trivial,trivial,trivial,by omega,by simpa using n⟩];simp[AS.set,b8,u]
  have k: (W.set id (ae.row (aj+1) sz ty (af++[el])))[p]?=some (.box [.ref id aj sz 0 af.length false] none):=by rw[aeR (by omega)];exact c
  refine⟨_,_,_,(W.set id (.row (aj+1) sz ty (af++[el]))).set p (.box [.ref id (aj+1) sz 0 (af.length+1) false] none),some id,c,e1,?_,.inr ⟨id,aj+1,rfl,by simp,g,?_,?_⟩,?_,?_,.inl rfl⟩
  ·exact afN k rfl rfl (by simp only[AV.refs];omega)
  ·rw[ahj (by rw[ahq];omega)];simp
  ·rw[aeR (by omega),ahj j]
  ·simp
  ·intro i A z y;rw[aeR (λe=>z e.symm),aeR (λe=>y (by rw[e]))]
end
section
variable{X:Ctx}{f:FuncId}{rd:Bool}{E:AS}{Q:bQ}{e:Env}{ms:lN}{bH:List FP}{js:lN}{os:List (aO×lN)}{i:I}{d:oN}{dd t:Nat}{v:AV}
def AY(bH:List FP)(o:aO)(js:lN)(os:List (aO×lN))(e:Env)(ms:lN)(Q:bQ):AV->AS->Prop:=λv E=>Dd bH (o,js) os=true/\Q (.panic v) ⟨e,ms⟩ E
def gD(X:Ctx)(t:Nat)(b:Bool)(d:oN)(i:I)(js:lN)(os:List (aO×lN))(bH:List FP)(e:Env)(ms:lN)(E:AS)(Q:bQ)(c:AV):Prop:=match c with
 |.bool x=>if x=b then aP X i e E (kD X i E bH js os d e ms Q) (AY bH ⟨some (t,b),d,i⟩ js os e ms Q)else gn X (bH++[.no]) os (Fr.put ⟨e,ms⟩ d .undef) E Q
 |_=>gn X (bH++[.no]) os (Fr.put ⟨e,ms⟩ d .undef) E Q
def afO{b:Bool}:gn X bH ((⟨some (t,b),d,i⟩,js)::os) ⟨e,ms⟩ E Q=gD X t b d i js os bH e ms E Q (e t):=by
 unfold gD;split
 ·rename_i x a;by_cases h:x=b
  ·subst h;apply propext;simp only[gn,aP,fZ,fL,a,beq_self_eq_true,aiZ];cases a:exec X (D X) i e E with
   |none=>simp[qI]
   |some o=>
    cases o with
    |ok v g=>
     simp only[qI,Ps];by_cases c:qK bH (ba i e E g) js=true
     ·rw[afJ c];exact⟨λh=>⟨c,h⟩,λh=>h.2⟩
     ·simp[kD,c]
    |panic v g=>
     simp only[qI,AY]
     grind
  ·rw[afB h];have: (x==b)=false:=by grind
   simp only[gn,fZ,fL,a,this,ahf,amJ]
 ·have:fL e (some (t,b))=false:=by
    unfold fL;simp only
  simp only[gn,fZ,this,ahf,amJ]
theorem afP:gn X bH ((gt t d i,js)::os) ⟨e,ms⟩ E Q=gD X t true d i js os bH e ms E Q (e t):=afO
theorem afQ:gn X bH ((gf t d i,js)::os) ⟨e,ms⟩ E Q=gD X t false d i js os bH e ms E Q (e t):=afO
theorem afR:gD X t true (some dd) i js os bH e ms E Q (.bool true)=aP X i e E (kD X i E bH js os (some dd) e ms Q) (AY bH ⟨some (t,true),(some dd),i⟩ js os e ms Q):=rfl
theorem afS:gD X t true none i js os bH e ms E Q (.bool true)=aP X i e E (kD X i E bH js os none e ms Q) (AY bH ⟨some (t,true),none,i⟩ js os e ms Q):=rfl
theorem afT:gD X t false (some dd) i js os bH e ms E Q (.bool false)=aP X i e E (kD X i E bH js os (some dd) e ms Q) (AY bH ⟨some (t,false),(some dd),i⟩ js os e ms Q):=rfl
theorem afU:gD X t false none i js os bH e ms E Q (.bool false)=aP X i e E (kD X i E bH js os none e ms Q) (AY bH ⟨some (t,false),none,i⟩ js os e ms Q):=rfl
theorem afV:gD X t true (some dd) i js os bH e ms E Q (.bool false)=gn X (bH++[.no]) os ⟨e.set dd .undef,ms⟩ E Q:=rfl
theorem afW:gD X t true none i js os bH e ms E Q (.bool false)=gn X (bH++[.no]) os ⟨e,ms⟩ E Q:=rfl
theorem afX:gD X t false (some dd) i js os bH e ms E Q (.bool true)=gn X (bH++[.no]) os ⟨e.set dd .undef,ms⟩ E Q:=rfl
theorem afY:gD X t false none i js os bH e ms E Q (.bool true)=gn X (bH++[.no]) os ⟨e,ms⟩ E Q:=rfl
theorem afZ{b:Bool}{c:lA}:gD X t b (some dd) i js os bH e ms E Q (.au c)=gn X (bH++[.no]) os ⟨e.set dd .undef,ms⟩ E Q:=rfl
theorem af0{b:Bool}{c:lA}:gD X t b none i js os bH e ms E Q (.au c)=gn X (bH++[.no]) os ⟨e,ms⟩ E Q:=rfl
def G1:=gG @afP<|gG @afQ<|gG @afR<|gG @afS<|gG @afT<|gG @afU<|gG @afV<|gG @afW<|gG @afX<|gG @afY<|gG @afZ @af0
end
def Fz(E:AS)(N d:Nat)(v v':AV):Prop:= ∀k,freeze E N (k+d) v=some v'
def gT(E:AS)(N d:Nat)(cs sj:lA):Prop:= ∀k,ib E N (k+d) cs=some sj
section
variable{E:AS}{N d:Nat}{a a' v v':AV}{cs sj:lA}
theorem Fz.low(h:v.refs<=N):Fz E N (d+1) v v:=λk=>yB h
theorem gT.nil:gT E N d [] []:=λk=>by cases h:k+d<;>rw[ib]
theorem gT.cons(h:Fz E N d a a')(b:gT E N (d+1) cs sj):gT E N (d+1) (a::cs) (a'::sj):=λk=>by
 have e1:=h k;have c:=b k;rw[<-anW]at c⊢;rw[ib,e1]
 grind
def gT.eq(h:gT E N d cs sj)(b:aG cs<=N):sj=cs:=by
 have e1:=h 2;rw[Nat.add_comm 2 d,PJ cs b]at e1
 grind
theorem Fz.agg(h:gT E N d cs sj):Fz E N (d+1) (.agg cs) (.agg sj):=λk=>by
 have e1:=h k;rw[<-anW,freeze];split
 ·rename_i b;rw[h.eq b]
 grind
theorem Fz.au(h:gT E N d cs sj):Fz E N (d+1) (.au cs) (.au sj):=λk=>by
 have e1:=h k;rw[<-anW,freeze];split
 ·rename_i b;rw[h.eq b]
 grind
theorem Fz.own{H:List ae}{ty:TypeId}(h:aQ N H v sz ty af)(b:b8 af<=N):Fz ⟨H,lo⟩ N (d+4) v (bt v af):=λk=>by
 exact h.freeze b
theorem Fz.mono(h:Fz E N d v v')(b:d<=m):Fz E N m v v':=λk=>by
 have:=h (k+(m-d))
 grind
def uM{H:List ae}(b:ak=none\/ ∃j,N<=j/\ak=some j)(h:Fz ⟨H,ak⟩ N 12 v v'):finish N lo v ⟨H,ak⟩=(v',⟨H.take N,lo⟩):=by
 refine Ib ?_ (by simpa using h 0)
 grind
def SV.own{ty:TypeId}{W:List ae}{r:oN}(h:SV p sz ty W r af)(f:N<=p)(b: ∀el∈af,el.length=sz): ∃v,W[p]?=some (.box [v] none)/\aQ N W v sz ty af/\v.cb=false/\v.cells=[v]/\ (v= .ai\/p+1<v.refs):=by
 rcases h with⟨_,rfl,c⟩| ⟨id,aj,_,_,q,c,e⟩
 ·exact⟨.ai,c,aQ.ai,rfl,rfl,.inl rfl⟩
 ·exact⟨_,c,⟨b,.inr ⟨id,aj,by omega,rfl,e⟩⟩,rfl,rfl,.inr (by simp only[AV.refs];omega)⟩
end
def dI(N:Nat)(lo:oN):Prop:=lo=none\/ ∃j,N<=j/\lo=some j
def dI.min{N:Nat}(h:dI N lo)(b:N<=p)(c:ak=lo\/ak=cA lo p):dI N ak:=by
 rcases c with rfl|rfl
 ·exact h
 ·rcases h with rfl| ⟨j,g,rfl⟩
  ·exact .inr ⟨p,b,rfl⟩
  ·obtain⟨q,e,f⟩:=afG (i:=j) (j:=p);exact .inr ⟨q,by omega,e⟩
section
variable{P:Program}{X:Ctx}{B:Nat}{av:World}
noncomputable def AZ(X:Ctx)(dy:oN)(pf:PF):jd->Option aS
 |some (.normal,fr,E)=>(dA E fr.marks).bind λa=>(fk X a fr.env pf.results).map λv=>.ret v {heap:=a.heap,lo:=fV dy a.lo}
 |some (.ret,fr,E)=>(dA E fr.marks).bind λa=>(fk X a fr.env pf.results).map λv=>.ret v {heap:=a.heap,lo:=fV dy a.lo}
 |_=>none
noncomputable def oh(X:Ctx)(C:bw)(L:ee)(f:FuncId)(pf:PF)(args:lA)(E:AS):Option aS:=
 if args.length<=pf.ntmps then AZ X E.lo pf (aY X C L f false pf.body {env:=cZ args,marks:=[]} {heap:=E.heap,lo:=none})else none
def asg{ch:AS}{G:Gh}{E:AS}(c:fN.le G)(d:aU P B av G E w)(b:AS.Ext {heap:=ch.heap,lo:=none} E){v:AV}{v':Value}(f:an G v v'):
  ∃a,fN.le a/\aU P B av a {heap:=E.heap,lo:=fV ch.lo E.lo} w/\an a v v'/\ch.Ext {heap:=E.heap,lo:=fV ch.lo E.lo}:=by
 refine⟨G,c,d.lo _,f,b.len,λj h=>?_,λj o h=>?_⟩
 ·cases E.lo with
  |none=>exact h
  |some l=>exact Ao (.inl h)
 ·obtain⟨o',k,i⟩:=b.obj j o h;refine⟨o',k,i.imp id λ ⟨l,e,g⟩=>?_⟩;simp only[fV,e];exact Ao (.inr g)
section
variable{C:bw}(hC:fI P B av C)(hg:fo X B av)(hX:o7 P X)(gl:Ax P X B av){L:ee}(hL:yi L)
include hC hg hX gl hL
theorem ash(U:eO P f pf):gb P B av f (oh X C L f pf):=by
 intro args E t h G w b hw T;unfold oh at h;split at h
 ·rename_i V;obtain⟨rows,fn,o,n⟩:=U;obtain⟨c,y,l,m,S,q⟩:=HA n;have k: (callFunc f b).run P w= .ok (.enter f b) w:=by
   have s: ¬fn.name= "runtime.NumGoroutine" :=by grind
   simp[callFunc,ar0,o,s,y]
  rw[k];show CallsIn (W none) 0 P f b w (Ends P B av G E t);cases g:aY X C L f false pf.body {env:=cZ args,marks:=[]} {heap:=E.heap,lo:=none}with
  |none=>rw[g]at h;simp[AZ]at h
  |some res=>
   rw[g]at h;have he:cC G fn.ntmps (cZ args) (b++Array.replicate (fn.ntmps-b.size) undef):=HE T (by omega);refine aAF o y trivial (wg hC hg hX gl hL (r:=none) rfl c pf.body l G {heap:=E.heap,lo:=none} w {env:=cZ args,marks:=[]} _ res _ (hw.lo none) he rfl g (λe a w' hr=>?_)) rfl;obtain⟨Y,K,J,I,H,F,u⟩:=hr;obtain⟨ex,fr,z⟩:=res;have j: ((dA z fr.marks).bind λd=>(fk X d fr.env pf.results).map λv=>aS.ret v {heap:=d.heap,lo:=fV E.lo d.lo})=some t->LeavesInM (W none) 0 P fn a.tmps (Ends P B av G E t) a.defers .returning w':=by
    intro h;rw[apB]at h;obtain⟨d,x,h⟩:=h;rw[ahg]at h;obtain⟨v,R,rfl⟩:=h;refine yk (by simp) fr.marks a.defers z d w' H J x (λA i=>?_);obtain⟨v',e1,D⟩:=Du hg i I m R;refine⟨v',e1,?_⟩;obtain⟨p,Q,O,N,M⟩:=asg K i (F.trans (yj _ _ _ x)) D;exact⟨p,Q,O,N,M⟩
   cases ex with
   |normal=>cases e<;>simp[fJ]at u;exact j h
   |ret=>cases e<;>simp[fJ]at u;exact j h
   |exit id=>simp[AZ]at h
   |panic v=>simp[AZ]at h
 grind
end
theorem wA(hg:fo X B av)(hX:o7 P X)(b: ∀f p,X.bU f=some p->gb P B av f p)(a:eO P f pf):gb P B av f (oh X (D X) Lw f pf):=
 ash (O3 hg hX b) hg hX (OM hg) aeU a
def A0(X:Ctx)(lo:oN)(b:List RV)(R:aS->Prop):bQ
 |.normal,fr,E=> ∃a v,dA E fr.marks=some a/\fk X a fr.env b=some v/\R (.ret v {heap:=a.heap,lo:=fV lo a.lo})
 |.ret,fr,E=> ∃a v,dA E fr.marks=some a/\fk X a fr.env b=some v/\R (.ret v {heap:=a.heap,lo:=fV lo a.lo})
 |_,_,_=>False
def wB(pf:PF){args:lA}{H:List ae}{R:aS->Prop}(i:Nat.ble args.length pf.ntmps=true)
  (h: ∀n,H.length=n->wp X f false pf.body ⟨cZ args,[]⟩ ⟨H,none⟩ (A0 X lo pf.results R)): ∃g,oh X (D X) Lw f pf args ⟨H,lo⟩=some g/\R g:=by
 obtain⟨ex,fr,E,hr,e⟩:=h _ rfl;unfold oh;rw[afJ (arF i),hr];cases ex with
 |normal=>
  obtain⟨a,v,d,c,b⟩:=e;exact⟨_,by simp only[AZ,d,arn,c,ahi],b⟩
 |ret=>
  obtain⟨a,v,d,c,b⟩:=e;exact⟨_,by simp only[AZ,d,arn,c,ahi],b⟩
 |exit _=>trivial
 |panic _=>trivial
def sk{R:aS->Prop}{E:AS}:A0 X lo [.t a] R .ret ⟨e,[]⟩ E=R (.ret (e a) {heap:=E.heap,lo:=fV lo E.lo}):=by
 simp only[A0,wo,ZD]
 grind
end
def j7(W:List ae)(N:Nat):Nat->List ae->Prop
 |_,[]=>True
 |k,b::bs=>W[N+k]?=some b/\j7 W N (k+1) bs
theorem gE{W:List ae}{N:Nat}:j7 W N k []=True:=rfl
theorem gF{W:List ae}{N:Nat}{b:ae}{bs:List ae}:j7 W N k (b::bs)=(W[N+k]?=some b/\j7 W N (k+1) bs):=rfl
theorem af1{W:List ae}{N:Nat}: ∀ {k:Nat} {bs:List ae},j7 W N k bs-> ∀i,i<bs.length->W[N+k+i]?=bs[i]?
 |_,[],_,i,h=>by grind
 |k,b::bs,⟨c,a⟩,i,h=>by
  cases i with
  |zero=>grind
  |succ i=>
   have:=af1 a i (by grind)
   grind
theorem P0{W:List ae}{N:Nat}: ∀ {k:Nat} {bs:List ae},(∀i,i<bs.length->W[N+k+i]?=bs[i]?)->j7 W N k bs
 |_,[],_=>trivial
 |k,b::bs,h=>by
  refine⟨by have:=h 0 (by simp);grind,P0 λi a=>?_⟩;have:=h (i+1) (by grind)
  grind
def j8(N:Nat)(H W:List ae):Prop:= ∀i,i<N->W[i]?=H[i]?
theorem j8.take{N:Nat}{H W:List ae}(h:j8 N H W)(b:H.length=N):W.take N=H:=by
 apply apg;intro i;by_cases a:i<N
 ·rw[aiX a];exact h i a
 grind
theorem j8.set{N:Nat}{H W:List ae}{o:ae}(h:j8 N H W)(b:N<=p):j8 N H (W.set p o):=λi a=>by
 rw[aeR (by omega)];exact h i a
theorem j8.app{N:Nat}{H L:List ae}(b:H.length=N):j8 N H (H++L):=λi a=>aeT (by omega)
def bV{S:Type}(N nB c:Nat)(H:List ae)(B:S->List ae):YV S:=⟨λs W=>j8 N H W/\j7 W N 0 (B s),λ_=>none,λi=>i<N+nB,c⟩
def asi{S:Type}{N nB c:Nat}{H:List ae}{B:S->List ae}(f: ∀s,(B s).length=nB): (bV N nB c H B).Ok where
 st:=λs W g ⟨e,d⟩ h=>by
  refine⟨λi a=>?_,P0 λi a=>?_⟩
  ·have:i<N+nB:=by omega
   rw[h i (.inl this)];exact e i a
  ·have b:N+0+i<N+nB:=by grind
   rw[h _ (.inl b)];exact af1 d i a
 lt:=λs W r _ hr=>by cases hr
def D2{S:Type}(N nB:Nat)(B:S->List ae)(W:List ae)(I:S->Prop)(J:Ex->S->Prop):bQ:=λex _ E=>
 E.lo=none/\ ∃a,j7 E.heap N 0 (B a)/\W.length<=E.heap.length/\ (∀i,i<W.length-> ¬(N<=i/\i<N+nB)->E.heap[i]?=W[i]?)/\ (match ex with|.normal=>I a|.panic _=>False|ex=>J ex a)
section
variable{S:Type}{N nB:Nat}{B:S->List ae}{W H:List ae}{I:S->Prop}{J:Ex->S->Prop}{fr:Fr}{i:Nat}
def sq:D2 N nB B W I J .normal fr ⟨H,none⟩= ∃a,j7 H N 0 (B a)/\W.length<=H.length/\ (∀i,i<W.length-> ¬(N<=i/\i<N+nB)->H[i]?=W[i]?)/\I a:=by simp[D2]
def asj:D2 N nB B W I J .ret fr ⟨H,none⟩= ∃a,j7 H N 0 (B a)/\W.length<=H.length/\ (∀i,i<W.length-> ¬(N<=i/\i<N+nB)->H[i]?=W[i]?)/\J .ret a:=by simp[D2]
end
def yC{X:Ctx}{S:Type}{g:ao}{w:lN}{as Y:PC}{Q:bQ}(K:Env->Prop)(L:K e)(xs:List lA){N nB:Nat}{H o:List ae}(F:H.length=N)(G:List ae)(B:S->List ae)(P: ∀s,(B s).length=nB)
  (v:S) (I:Nat->S->Prop) (J:Ex->S->Prop) (hg:rZ X (g.get e)=true) (z:uL X (g.get e) (N+nB) G xs) (l:o=H++(B v++G)) (h0:I 0 v) (hJ: ∀ex s,J ex s-> ∃y,r6 ex=some (some y)/\Aj y=some ex/\ex.code=y)
  (hb: ∀e,K e-> ∀j x s,xs[j]?=some x->I j s->x.length=w.length/\ ∀W n,W.length=n->N+nB+G.length+2<=n->j7 W N 0 (B s)->
    wp X f true as ⟨iE e w x,[]⟩ ⟨W,none⟩ (λex fr r=>ex= .normal/\ ∃R1,r=⟨W++R1,none⟩/\
     ∀q,q.length=n->j7 q N 0 (B s)->wp X f true Y fr ⟨q++R1,none⟩ (D2 N nB B q (I (j+1)) J)))
  (h1: ∀e,K e-> ∀c a p,N+nB<=p->I xs.length c->j8 N H a->j7 a N 0 (B c)->a[p]?=some .bB->Q .normal ⟨e,[p]⟩ ⟨a,none⟩)
  (h2: ∀e,K e-> ∀ex c a p,N+nB<=p->J ex c->j8 N H a->j7 a N 0 (B c)->a[p]?=some .bB->Q ex ⟨e,[p]⟩ ⟨a,none⟩):
  wp X f false (.ia g w as Y) ⟨e,[]⟩ ⟨o,none⟩ Q:=by
 have wC:o.length=N+nB+G.length:=by grind
 have t: ∀ {ak} {b:Nat},b=o.length+2->m0 (o.length+2) b none ak none none->ak=none:=by
  rintro ak b rfl (⟨h,_⟩| ⟨j,T,R,_⟩)
  ·exact h
  ·omega
 refine ID (bV N nB (o.length+2) H B) (asi P) xs (N+nB) G o v hg z (λi d=>?_) (by omega) (λi d=>?_) ⟨?_,?_⟩ rfl I J h0 hJ ?_ ?_ ?_
 ·rw[l,<-afL,ahr (by simp only[ahc,F,P];omega)]
  congr 1;simp only[ahc,F,P];omega
 ·have:i<N+nB:=d;exact⟨by omega,by omega⟩
 ·rw[l];exact j8.app F
 ·refine P0 λi d=>?_
  rw[l,ahr (by omega),show N+0+i-H.length=i by omega,aeT d]
 ·intro j x s hx O;obtain⟨T,R⟩:=hb e L j x s hx O;refine⟨T,λW m U=>?_⟩;refine wp_mono (R W _ rfl (by omega) m.2) ?_;rintro ex fr r ⟨rfl,R1,rfl,D⟩;refine⟨rfl,R1,rfl,λq E u=>?_⟩;refine wp_mono (D q E u.2) ?_;rintro IE fr2 ⟨H2,Z⟩ ⟨rfl,c,c1,c2,V,c4⟩;refine⟨c,⟨λi d=>?_,c1⟩,⟨c2,λi d hp _=>?_⟩,.inl ⟨rfl,rfl⟩,c4⟩
  ·rw[V i (by omega) (by omega)];exact u.1 i d
  ·have nZ: ¬i<N+nB:=hp;exact V i d (by omega)
 ·intro c a ak O m hl C A k;obtain rfl:=t rfl k;exact h1 e L c a _ (by omega) O m.1 m.2 C
 ·intro ex c a ak M m hl C A k;obtain rfl:=t rfl k;exact h2 e L ex c a _ (by omega) M m.1 m.2 C
section
variable{H:Type}{enc:TypeId×Value->H}{P:Program}{w:World}{sp:Nat->Bool}{held:Bool}
def A1(P:Program):Nat->TypeId->Bool
 |0,_=>false
 |f+1,t=>match P.underlying t with
  |some .bool=>true
  |some (.int _)=>true
  |some .string=>true
  |some (.slice e)=>AK P false f e
  |some (.struct fs)=>AJ P (A1 P f) fs.toList 0 (P.cellsOf t)
  |some (.array n e)=>A1 P f e&&P.cellsOf t==n*P.cellsOf e
  |_=>false
theorem P2: ∀ (f:Nat) (t:TypeId) (n:Nat) (cs:List Value) (d:DataW H) (ps:List MemPlace),A1 P f t=true->(∀v∈cs,H4 v)->
  DataW.trod enc P w 0 sp held n t cs=some (d,ps)-> ∃xs,gR P f t d xs/\aD (Gh.start w) xs cs/\Leaves cs/\xs.length=cs.length
 |0,_,_,_,_,_,hr,_,_=>by simp[A1]at hr
 |f+1,t,n,cs,d,ps,hr,A,h=>by
  unfold A1 at hr;unfold gR;cases r:P.underlying t with
  |none=>rw[r]at hr;cases hr
  |some td=>
   rw[r]at hr;cases td with
   |bool=>
    obtain⟨b,rfl,l⟩:=DataW.trod_bool r h;cases l;exact⟨[.bool b],⟨b,rfl,rfl⟩,aD.single.2 rfl,λv g=>by simp at g;subst g;rfl,rfl⟩
   |int k=>
    obtain⟨b,rfl,l,M⟩:=DataW.trod_int r h;cases l;exact⟨[.int k b],⟨b,rfl,rfl,M⟩,aD.single.2 rfl,λv g=>by simp at g;subst g;rfl,rfl⟩
   |string=>
    obtain⟨s,rfl,l,hs⟩:=DataW.trod_string r h;cases l;exact⟨[.str s],⟨s,rfl,rfl,hs⟩,aD.single.2 rfl,λv g=>by simp at g;subst g;rfl,rfl⟩
   |slice e=>
    rcases DataW.trod_slice r h with⟨rfl,l⟩| ⟨a,len,cap,es,rest,m,rfl,rfl,l,_,hlc,Yp,Q,O,_,_⟩
    ·cases l;exact⟨[.ai],.inl ⟨rfl,rfl⟩,aD.single.2 rfl,λv g=>by simp at g;subst g;rfl,rfl⟩
    ·cases l;have hs:a.spot=none:=A _ (List.mem_singleton_self _);obtain⟨af,vs,K,J,I,G,W,h6⟩:=Zb (R:=gR P f e) hs (λc E p B q=>H5 (nest:=false) (λe=>by cases e) f e m c E p hr (λe=>by cases e) q) len (by omega) O;refine⟨[.sl af false],.inr ⟨es.map (·.1),rest.map (·.1),af,rfl,rfl,by simp[Q,K],by omega,λi x b l T=>?_⟩,aD.single.2 ?_,λv g=>by simp at g;subst g;rfl,rfl⟩
     ·rw[aiY,ahg]at l;obtain⟨y,L,rfl⟩:=l;exact J i y b L T
     ·refine⟨a.block,a.off,cap,P.cellsOf e,vs,?_,by omega,(λB=>absurd B (by decide)),λel D=>?_,h6,G,bo.iff.2 I⟩
      ·rw[K];obtain⟨b,o,s⟩:=a;simp at hs;subst hs;rfl
      ·obtain⟨j,U⟩:=au6.1 D;have hjl:=(afA.1 U).1;exact(J j es[j] el (ag6 (by omega)) U).1
   |struct fs=>
    obtain⟨ys,m,rfl,l,F,z,u⟩:=DataW.trod_struct r h;cases l;obtain⟨xs,x1,Z,Y,X⟩:=O5 (R:=gR P f) (cs:=cs) (λt' c E p hg B q=>P2 f t' m c E p hg (λv g=>A v (B v g)) q) _ F fs.toList ys 0 hr (by simpa using z) (λi fl hi=>u i fl (by simpa using hi));exact⟨xs,⟨_,rfl,x1⟩,by simpa using Z,by simpa using Y,by simpa using X⟩
   |array k e=>
    simp only[aiL,au5]at hr;obtain⟨N,B⟩:=hr;obtain⟨ys,m,rfl,l,F,z,u⟩:=DataW.trod_array r h;cases l;obtain⟨af,K,J,I,G,W⟩:=Zc (R:=gR P f e) (cs:=cs) (λc E p S q=>P2 f e m c E p N (λv g=>A v (S v g)) q) k (by rw[F,B];exact ahd _) (by omega) u;have C:k*P.cellsOf e=cs.length:=by rw[F,B]
    rw[C,ahn]at I G;exact⟨af.flatten,⟨_,af,rfl,rfl,by simpa using z,K,λi a b V T=>by
     rw[aiY,ahg]at V;obtain⟨y,L,rfl⟩:=V;exact J i y b L T⟩,I,G,by rw[W,C]⟩
   |_=>cases hr
def asl{b:Nat}{u:TypeId}{v:Value}(h:Cell.okWide P w .any b u v):H4 v:=by
 cases v with
 |slice a len cap=>
  cases a with
  |none=>trivial
  |some a=>
   unfold Cell.okWide at h;cases hu:P.underlying u with
   |none=>simp[hu,Cell.ok]at h
   |some td=>cases td<;>simp[hu,Cell.ok]at h<;>exact h.2.2.2.1
 |_=>trivial
def asm{t:TypeId}{f:Nat}{v:Value}{d:DataW H}{g:List MemPlace}{b:Nat}{fs:Array Field}(k:P.underlying t=some (.struct fs))(l:A1 P f t=true)(a:Value.okWide P w .any b t v)
  (h:DataW.Trod enc P w 0 sp held t v d g): ∃xs,an (Gh.start w) (.agg xs) v/\gR P f t d xs/\xs.length=P.cellsOf t:=by
 unfold Value.okWide at a;rw[k]at a;obtain⟨cs,rfl,e,ts,_,_,c⟩:=a;obtain⟨n,h⟩:=h;obtain⟨xs,r,q,p,o⟩:=P2 f t n cs.toList d g l (λv j=>by
  obtain⟨i,m⟩:=au6.1 j;obtain⟨u,_,hu⟩:=c i v (by simpa using m);exact asl hu) h
 exact⟨xs,⟨cs,rfl,q,p⟩,r,by rw[o];simpa using e⟩
end
end Go.Den
