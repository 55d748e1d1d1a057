/- An evaluator, sound; no condition. -/
import Derived.Test.YteplichagkpciaaGreatDoorD1
import Derived.Orders
import Derived.Carry
import Derived.ChangeArms
import Derived.OpenShut
import Derived.RecoverIn
import Derived.LaidHandle
import Derived.LaidMore
import Derived.WideShapes
set_option linter.all false
set_option maxRecDepth 10000
set_option maxHeartbeats 1000000
namespace Go.Den
open Go Go.RowKit
abbrev lA:=List AV
variable{l t a i j m n k sz r aj a' p:Nat}{v:AV}{d lo ak:oN}{e:Env}{w:World}{b:PC}{z vs:lA}{tg:Option TypeId}{fT:Gh}{f:FuncId}{x y:ao}{c ag:Bool}{pf:PF}{k':IntKind}{af:List lA}{H0:List ae}
def ajB:=@List.length_set
def ajH:=@List.mem_cons_of_mem
def ajJ:=@List.append_nil
def ajK:=@Array.getD_eq_getD_getElem?
def ajO:=@List.getElem?_take_of_lt
def ajP:=@List.getElem?_map
def alr:=@Option.getD_some
def als:=@Nat.mod_lt
def aoC:=@Bool.true_and
def apj:=@List.length_drop
def apo:=@Classical.byContradiction
def apW:=@List.mem_zipIdx_iff_getElem?
def apY:=@List.length_nil
def aqj:=@Option.bind_eq_some_iff
def aqk:=@List.pairwise_append
def aql:=@Nat.not_lt_zero
def aqm:=@List.take_left'
def aqs:=@List.set_append_right
def aqt:=@and_true
def aqu:=@List.pairwise_cons
def arH:=@List.mem_range
def arI:=@List.range_succ
def ar9:=@List.getElem?_range
def asj:=@Prod.mk.injEq
def ass:=@Nat.le_of_ble_eq_true
def ast:=@List.prefix_append
def asv:=@Array.getElem?_toList
def asx:=@Array.all_eq_true_iff_forall_mem
def atT:=@List.getElem?_cons_zero
def at0:=@Bool.true_or
def at3:=@Bool.false_or
def at5:=@List.set_append_left
def at6:=@List.mem_of_find?_eq_some
def auf:=@Nat.le_max_right
def aui:=@List.getElem_mem
def auB:=@List.mem_iff_getElem?
def auD:=@List.contains_iff_mem
def auE:=@Nat.lt_succ_self
def auH:=@List.getElem?_of_mem
def awv:=@List.append_of_mem
def awY:=@Nat.lt_trichotomy
def awZ:=@List.length_range
def aw1:=@Int.toNat_natCast
def axr:=@List.getElem?_cons_succ
def axG:=@Bool.and_true
def axH:=@Option.getD_none
def ayQ:=@List.pairwise_lt_range
def aBp:=@true_and
def aBr:=@List.getElem?_zipIdx
def aB8:=@List.find?_eq_none
def aCh:=@List.pairwise_map
def aDS:=@List.isEmpty_iff
def gG{a b:Prop}(x:a)(y:b):a/\b:=⟨x,y⟩
section
variable{X:Ctx}
def jF(X:Ctx)(C:bA)(xs:Nat->aP)(F:Nat->FP):lN->Fr->AS->Fr->AS->Prop
 | [],fr,E,b,c=>b=fr/\c=E
 |i::l,fr,E,b,c=>
  (fS fr.env (xs i).g=true/\ ∃v a,exec X C (xs i).i fr.env E=some (.ok v a)/\aW (xs i).i fr.env E a=F i/\jF X C xs F l (fr.put (xs i).dst v) a b c)\/
  (fS fr.env (xs i).g=false/\F i= .no/\jF X C xs F l (fr.put (xs i).dst .undef) E b c)
def asL{l m:lN}:DV l m=true↔ ∀x∈l,x∉m:=by
 simp[DV,ajD]
def Ei{a:Fr}{dst:oN}(h:t∉dst.toList): (a.put dst v).env t=a.env t:=by
 cases dst with
 |none=>rfl
 |some d=>
  simp only[Fr.put,Env.set]
  grind
def asM{f:Fr}{c:oN}{w:AV}(h: ∀x∈d.toList,x∉c.toList): (f.put d v).put c w=(f.put c w).put d v:=by
 cases d with
 |none=>rfl
 |some a=>
  cases c with
  |none=>rfl
  |some b=>
   have g:a≠b:=λe=>h a (by simp) (by grind)
   simp only[Fr.put]
   congr 1
   funext t
   simp only[Env.set]
   grind
def aa5{g:Option (Nat×Bool)}{a:Env}(h: ∀t∈(match g with|some (t,_)=>[t]|none=>[]),e t=a t):fS e g=fS a g:=by
 cases g with
 |none=>rfl
 |some p=>simp only[fS];grind
def asN{C:bA}{xs:Nat->aP}{F:Nat->FP}{l:lN}{a q:Fr}{E D:AS}(n:j6 (xs i) (xs j)=true)(x: (F i).ok (F j)=true)(h:jF X C xs F (i::j::l) a E q D):jF X C xs F (j::i::l) a E q D:=by
 simp only[j6,ajI,asL]at n;obtain⟨⟨M,L⟩,K⟩:=n;have B: ∀v,∀t∈(xs j).reads,(a.put (xs i).dst v).env t=a.env t:=λv t d=>Ei λy=>M t y d
 have ex: ∀v,∀t∈(xs i).reads,(a.put (xs j).dst v).env t=a.env t:=λv t d=>Ei λy=>L t y d
 have e: ∀v,∀t∈(xs j).i.reads,(a.put (xs i).dst v).env t=a.env t:=λv t d=>B v t (by simp[aP.reads,d])
 have f: ∀v,∀t∈(xs i).i.reads,(a.put (xs j).dst v).env t=a.env t:=λv t d=>ex v t (by simp[aP.reads,d])
 have s: ∀v,fS (a.put (xs i).dst v).env (xs j).g=fS a.env (xs j).g:=λv=>aa5 λt d=>B v t (by
  simp only[aP.reads,aha];grind)
 have u: ∀v,fS (a.put (xs j).dst v).env (xs i).g=fS a.env (xs i).g:=λv=>aa5 λt d=>ex v t (by
  simp only[aP.reads,aha];grind)
 have comm: ∀v w,(a.put (xs i).dst v).put (xs j).dst w=(a.put (xs j).dst w).put (xs i).dst v:=λv w=>asM K
 simp only[jF]at h⊢;rcases h with⟨o,v,c,A,m,h⟩| ⟨o,m,h⟩
 ·rcases h with⟨g1,w,b,g2,k,g⟩| ⟨g1,k,g⟩
  ·rw[s]at g1;have z:exec X C (xs j).i a.env c=some (.ok w b):=by rw[<-IT (e v)];exact g2
   have p:aW (xs j).i a.env c b=F j:=by rw[<-IU (e v)];exact k
   obtain⟨r,J,I,H,G⟩:=asK A z (by rw[m,p];exact x);refine .inl ⟨g1,w,r,J,by rw[H];exact p,.inl ⟨by rw[u];exact o,v,b,?_,?_,by rw[<-comm];exact g⟩⟩
   ·rw[IT (f w)];exact I
   ·rw[IU (f w),G];exact m
  ·rw[s]at g1;refine .inr ⟨g1,k,.inl ⟨by rw[u];exact o,v,c,?_,?_,by rw[<-comm];exact g⟩⟩
   ·rw[IT (f _)];exact A
   ·rw[IU (f _)];exact m
 ·rcases h with⟨g1,w,b,g2,k,g⟩| ⟨g1,k,g⟩
  ·rw[s]at g1;refine .inl ⟨g1,w,b,by rw[<-IT (e _)];exact g2,by rw[<-IU (e _)];exact k,.inr ⟨by rw[u];exact o,m,by rw[<-comm];exact g⟩⟩
  ·rw[s]at g1;exact .inr ⟨g1,k,.inr ⟨by rw[u];exact o,m,by rw[<-comm];exact g⟩⟩
theorem Qc{C:bA}{xs:Nat->aP}{F:Nat->FP}{j:Nat}{b:lN}: ∀ (a:lN) (fr c:Fr) (E e:AS),(∀i∈a,j6 (xs i) (xs j)=true/\ (F i).ok (F j)=true)->jF X C xs F (a++j::b) fr E c e->jF X C xs F (j:: (a++b)) fr E c e
 | [],_,_,_,_,_,h=>h
 |i::a,fr,c,E,e,f,h=>by
  have g:=f i (by simp);refine asN g.1 g.2 ?_;simp only[ajW]at h;rw[jF]at h⊢;have n:=λfr E (h:jF X C xs F (a++j::b) fr E c e)=>Qc a fr c E e (λk p=>f k (by grind)) h
  rcases h with⟨m,v,d,o,l,h⟩| ⟨m,l,h⟩
  ·exact .inl ⟨m,v,d,o,l,n _ _ h⟩
  simp_all
theorem Qd{C:bA}{xs:Nat->aP}: ∀ (ys:List (aP×lN)) (a:List FP) (fr:Fr) (E:AS) (res:Ex×Fr×AS),(∀q y,ys[q]?=some y->xs (a.length+q)=y.1)->gh X C a ys fr E=some res->res.1= .normal->
  ∃F:Nat->FP,(∀m,m<a.length->F m=a.getD m .all)/\res.1= .normal/\jF X C xs F ((List.range ys.length).map (a.length+ ·)) fr E res.2.1 res.2.2/\
   ∀q y,ys[q]?=some y-> ∀k∈y.2,k<a.length+q->(F k).ok (F (a.length+q))=true
 | [],a,fr,E,res,t,h,r=>by
   simp only[gh,aaQ]at h;subst h;exact⟨λm=>a.getD m .all,λ_ _=>rfl,rfl,⟨rfl,rfl⟩,by simp⟩
 |o::ys,a,fr,E,res,t,h,r=>by
  have b:xs a.length=o.1:=by simpa using t 0 o rfl
  have j: ∀ (f:FP) q y,ys[q]?=some y->xs ((a++[f]).length+q)=y.1:=by
   intro f q y l;have:=t (q+1) y (by simpa using l);rw[<-this];congr 1;simp;omega
  have d: ∀f:FP,(List.range (o::ys).length).map (a.length+ ·)=a.length:: (List.range ys.length).map ((a++[f]).length+ ·):=by
   intro f;simp only[ajC,List.range_succ_eq_map,ape,aDR,ajG]
   congr 1
   apply auO;intro k _;simp;omega
  have fin: ∀ (f:FP) (F:Nat->FP),(∀m,m< (a++[f]).length->F m=(a++[f]).getD m .all)->F a.length=f/\ ∀m,m<a.length->F m=a.getD m .all:=by
   intro f F s;refine⟨?_,λm hm=>?_⟩
   ·rw[s _ (by simp)];simp
   ·rw[s m (by simp;omega)];simp[aiu,aaF hm]
  have c: ∀ (f:FP) (F:Nat->FP),(∀m,m<a.length->F m=a.getD m .all)->(∀k∈o.2,k<a.length->(a.getD k .all).ok (F a.length)=true)->
    (∀q y,ys[q]?=some y-> ∀k∈y.2,k< (a++[f]).length+q->(F k).ok (F ((a++[f]).length+q))=true)->
    ∀q y,(o::ys)[q]?=some y-> ∀k∈y.2,k<a.length+q->(F k).ok (F (a.length+q))=true:=by
   intro f F s u hs q y l k n i;cases q with
   |zero=>
    simp at l;subst l;rw[ajG]at i⊢;rw[s k i];exact u k n i
   |succ q=>
    have:=hs q y (by simpa using l) k n (by simp;omega);have e: (a++[f]).length+q=a.length+(q+1):=by simp;omega
    rw[e]at this;exact this
  simp only[gh]at h;split at h
  ·rename_i hw;split at h
   ·rename_i v g hex;split at h
    ·rename_i p;obtain⟨F,f1,f2,f3,f4⟩:=Qd ys _ _ _ res (j _) h r;obtain⟨g1,g2⟩:=fin _ F f1;refine⟨F,g2,f2,?_,c _ F g2 (λk n _=>?_) f4⟩
     ·rw[d (aW o.1.i fr.env E g)];refine .inl ⟨by rw[b];exact hw,v,g,by rw[b];exact hex,by rw[b,g1],by rw[b];exact f3⟩
     ·rw[g1];exact ajD.1 p k n
    ·cases h
   ·split at h
    ·cases h;cases r
    ·cases h
   ·cases h
  ·rename_i hw;obtain⟨F,f1,f2,f3,f4⟩:=Qd ys _ _ _ res (j _) h r;obtain⟨g1,g2⟩:=fin _ F f1;refine⟨F,g2,f2,?_,c _ F g2 (λk n _=>?_) f4⟩
   ·rw[d .no];exact .inr ⟨by rw[b];simpa using hw,g1,by rw[b];exact f3⟩
   ·rw[g1];cases a.getD k .all<;>rfl
theorem aa6{C:bA}{xs:Nat->aP}: ∀ (ys:List (aP×lN)) (a:List FP) (fr:Fr) (E:AS) (res:Ex×Fr×AS),(∀q y,ys[q]?=some y->xs (a.length+q)=y.1)->gh X C a ys fr E=some res->res.1≠ .normal->
  ∃ (F:Nat->FP) (p:Nat) (v:AV) (b:AS) (y:aP×lN),(∀m,m<a.length->F m=a.getD m .all)/\ys[p]?=some y/\res.1= .panic v/\jF X C xs F ((List.range p).map (a.length+ ·)) fr E res.2.1 b/\
    fS res.2.1.env (xs (a.length+p)).g=true/\exec X C (xs (a.length+p)).i res.2.1.env b=some (.panic v res.2.2)/\
    (∀q y,q<p->ys[q]?=some y-> ∀k∈y.2,k<a.length+q->(F k).ok (F (a.length+q))=true)/\
    y.2=[]/\y.1.i.cls≠0/\ (y.1.i.cls=2\/ ∀m,m<a.length+p->F m≠ .no)/\ ∀q d,p<q->ys[q]?=some d->if d.1.i.cls=0 then j6 y.1 d.1=false else a.length+p∉d.2
 | [],a,fr,E,res,G,h,K=>by
   simp only[gh,aaQ]at h
   grind
 |o::ys,a,fr,E,res,G,h,K=>by
  have c:xs a.length=o.1:=by simpa using G 0 o rfl
  have D: ∀ (f:FP) q y,ys[q]?=some y->xs ((a++[f]).length+q)=y.1:=by
   intro f q y u;have:=G (q+1) y (by simpa using u);rw[<-this];congr 1;simp;omega
  have w: ∀ (f:FP) (p:Nat),(List.range (p+1)).map (a.length+ ·)=a.length:: (List.range p).map ((a++[f]).length+ ·):=by
   intro f p;simp only[List.range_succ_eq_map,ape,aDR,ajG]
   congr 1
   apply auO;intro k _;simp;omega
  have e1: ∀ (f:FP) (q:Nat),(a++[f]).length+q=a.length+(q+1):=λf q=>by simp;omega
  have fin: ∀ (f:FP) (F:Nat->FP),(∀m,m< (a++[f]).length->F m=(a++[f]).getD m .all)->F a.length=f/\ ∀m,m<a.length->F m=a.getD m .all:=by
   intro f F s;refine⟨?_,λm hm=>?_⟩
   ·rw[s _ (by simp)];simp
   ·rw[s m (by simp;omega)];simp[aiu,aaF hm]
  have next: ∀ (f:FP) (g:Fr) (i:AS),gh X C (a++[f]) ys g i=some res->(∀ (F:Nat->FP) l j A,F a.length=f->jF X C xs F l g i j A->jF X C xs F (a.length::l) fr E j A)->(∀k∈o.2,(a.getD k .all).ok f=true)->
    ∃ (F:Nat->FP) (p:Nat) (v:AV) (b:AS) (y:aP×lN),(∀m,m<a.length->F m=a.getD m .all)/\ (o::ys)[p]?=some y/\res.1= .panic v/\jF X C xs F ((List.range p).map (a.length+ ·)) fr E res.2.1 b/\
      fS res.2.1.env (xs (a.length+p)).g=true/\exec X C (xs (a.length+p)).i res.2.1.env b=some (.panic v res.2.2)/\
      (∀q y,q<p->(o::ys)[q]?=some y-> ∀k∈y.2,k<a.length+q->(F k).ok (F (a.length+q))=true)/\
      y.2=[]/\y.1.i.cls≠0/\ (y.1.i.cls=2\/ ∀m,m<a.length+p->F m≠ .no)/\ ∀q d,p<q->(o::ys)[q]?=some d->if d.1.i.cls=0 then j6 y.1 d.1=false else a.length+p∉d.2:=by
   intro f g i h t H;obtain⟨F,p,v,b,y,f1,f2,f3,f4,f5,f6,f7,f8,f9,f10,f11⟩:=aa6 ys _ _ _ res (D f) h K;obtain⟨g1,g2⟩:=fin f F f1;refine⟨F,p+1,v,b,y,g2,by simpa using f2,f3,?_,by rw[<-e1 f];exact f5,by rw[<-e1 f];exact f6,?_,f8,f9,f10.imp id λf10 m hm=>f10 m (by rw[e1];exact hm),?_⟩
   ·rw[w f];exact t F _ _ _ g1 f4
   ·intro q d u n k x r;cases q with
    |zero=>
     simp at n;subst n;rw[ajG]at r⊢;rw[g1,g2 k r];exact H k x
    |succ q=>
     have:=f7 q d (by omega) (by simpa using n) k x (by rw[e1];exact r);rw[e1]at this;exact this
   ·intro q d u n;cases q with
    |zero=>omega
    |succ q=>
     have:=f11 q d (by omega) (by simpa using n);rw[e1]at this;exact this
  simp only[gh]at h;split at h
  ·rename_i hw;split at h
   ·rename_i v b hex;split at h
    ·rename_i z;exact next _ _ _ h (λF l j A s hr=>.inl ⟨by rw[c];exact hw,v,b,by rw[c];exact hex,by rw[c,s],by rw[c];exact hr⟩) (λk x=>ajD.1 z k x)
    ·cases h
   ·rename_i v A hex;split at h
    ·rename_i J;cases h;simp only[DW,ajI,arJ,aup,aDS,bne_iff_ne]at J;obtain⟨N,M,B,L⟩:=J;refine⟨λm=>a.getD m .all,0,v,E,o,λ_ _=>rfl,rfl,rfl,⟨rfl,rfl⟩,by rw[ajG,c];exact hw,by rw[ajG,c];exact hex,λq y u=>by omega,N,M,?_,?_⟩
     ·refine B.imp id λB m hm=>?_
      rw[ajG]at hm;have:=ajD.1 B a[m] (aui hm);simp only[aiu,abe hm,alr];intro e;rw[e]at this;cases this
     ·intro q d u n;cases q with
      |zero=>omega
      |succ q=>
       have:=ajD.1 L d (aoA (by simpa using n:ys[q]?=some d));split
       ·rename_i I;rw[aaR I]at this;simpa using this
       ·rename_i I;rw[aaH I]at this;rw[ajG];simpa using this
    ·cases h
   ·cases h
  ·rename_i hw;exact next .no _ _ h (λF l j A s hr=>.inr ⟨by rw[c];simpa using hw,s,by rw[c];exact hr⟩) (λk x=>by cases a.getD k .all<;>rfl)
end
section
variable{P:Program}{X:Ctx}{B:Nat}{av:World}{cY:List Deferred}
theorem aa7(f:FP):FP.ok .no f=true:=by rfl
def aa8(f:FP):FP.ok f .no=true:=by cases f<;>rfl
theorem yN{C:bA}{xs:Nat->aP}{F:Nat->FP}{i:Nat}(d: (xs i).i.cls=0): ∀ (l:lN) (fr b:Fr) (E e:AS),i∈l->jF X C xs F l fr E b e->F i= .no
 | [],_,_,_,_,a,_=>by grind
 |j::l,fr,b,E,e,a,h=>by
  rcases ajR.1 a with rfl|a
  ·rcases h with⟨_,v,c,_,f,_⟩| ⟨_,f,_⟩
   ·grind [aa0]
   omega
  ·rcases h with⟨_,v,c,_,_,h⟩| ⟨_,_,h⟩
   ·exact yN d l _ _ _ _ a h
   ·exact yN d l _ _ _ _ a h
theorem aa9{rows:Bool}{ops:Array Oper}: ∀ {os:List Oper} {xs:List aP},k0 P rows ops os=some xs->xs.length=os.length/\ ∀ (i:Nat) (o:Oper),os[i]?=some o-> ∃x,xs[i]?=some x/\iq P rows ops o=some x
 | [],xs,h=>by
   simp only[k0,aaQ]at h;grind
 |o::os,xs,h=>by
  simp only[k0]at h;split at h
  ·rename_i x a c b;obtain⟨e1,d⟩:=aa9 b
   grind
  grind
theorem aba{ops:Array Oper}{e:Nat}: ∀n:Nat,e<n->(uT ops n).getD (n-1-e) 0=(uT ops (e+1)).headD 0
 |0,h=>absurd h (aql _)
 |n+1,h=>by
  by_cases he:e=n
  ·subst he;simp[uT]
  ·have a:e<n:=by omega
   rw[show n+1-1-e=(n-1-e)+1 by omega,<-aba n a];simp[uT]
theorem abb{b:lN}{n a:Nat}{S:Nat->Prop}: ∀es:lN,(∀e∈es,S e)->(∀e∈es,e<n->Nat.testBit (b.getD (n-1-e) 0) a=true->S a)->Nat.testBit (AR b n es) a=true->S a
 | [],_,_,h=>by simp[AR]at h
 |e::es,f,d,h=>by
  have e1:AR b n (e::es)=(1<<<e||| (if e<n then b.getD (n-1-e) 0 else 0))|||AR b n es:=rfl;rw[e1,Nat.testBit_or,Nat.testBit_or,arJ,arJ]at h;rcases h with(h|h)|h
  ·simp_all[Nat.one_shiftLeft,Nat.testBit_two_pow,alb]
  ·grind
  ·exact abb es (λx c=>f x (ajH _ c)) (λx c=>d x (ajH _ c)) h
def Qe{ops:Array Oper}{S:Nat->Prop}(g: ∀j,S j-> ∀o,ops[j]?=some o-> ∀a∈k5 o,S a)(k i:Nat)(o:Oper)(ho:ops[i]?=some o)(d: ∀a∈k5 o,S a): ∀a∈gM ops k i,S a:=by
 intro a h;unfold gM at h;have key: ∀n i:Nat,i<n-> ∀o,ops[i]?=some o->(∀a∈k5 o,S a)->Nat.testBit ((uT ops (i+1)).headD 0) a=true->S a:=by
  intro n
  induction n with
  |zero=>simp
  |succ n l=>
   intro i m o ho d f;simp only[uT,List.headD_cons,ho]at f;refine abb _ d (λe hm b c=>?_) f;rw[aba i b]at c
   grind
 grind
def abc{a:Region.Mode}{e:Edge}(h:Region.binds .any e=true):Region.binds a e=true:=by
 unfold Region.binds at h⊢
 grind
theorem Qf{a:Region.Mode}{ops:Array Oper}{l:lN}{S:Nat->Prop}(f: ∀x,x<ops.size->x∉l->S x): ∀ (ord pre:lN),Ip a ops pre ord=true->(∀x∈pre,x<ops.size/\x∉l)->(∃x∈ord,x∈l)->
  ∃x∈l,∃o,ops[x]?=some o/\ ∀e∈o.after.toList,Region.binds a e=true->S e.on
 | [],_,_,_,⟨x,c,_⟩=>by grind
 |i::ord,pre,h,b,hex=>by
  simp only[Ip,ajI]at h;obtain⟨j,g⟩:=h;split at j
  ·by_cases d:i∈l
   ·grind
   ·refine Qf f ord (i::pre) g (λx c=>?_) ?_
    ·grind
    grind
  grind
def Gh.later(G:Gh)(os:List ae):Gh:={G with n:=G.n+os.length,pz:=λi=>if i<G.n then G.pz i else os[i-G.n]?}
def Gh.yO(G:Gh)(os:List ae):G.le (G.later os):=
 .mk' (λ_ _ _ h=>h) (by simp[Gh.later]) (λi a=>by simp[Gh.later,a]) (λ_ _=>ahT _) (λ_ _ _=>⟨rfl,rfl,rfl,rfl⟩)
def Gh.IW{G:Gh}{os:List ae}(h: (G.later os).on i):G.on i:=by
 obtain⟨c,a⟩:=h;simp only[Gh.later]at c a;by_cases b:i<G.n
 ·rw[aaR b]at a;exact⟨b,a⟩
 grind
theorem aV.later{G:Gh}{E:AS}(h:aV P B av G E w){os:List ae}(ho: ∀o∈os,∃z tg,o= .box z tg/\aG z=0):aV P B av (G.later os) (E.mA os) w where
 len:=by simp[Gh.later,AS.mA,h.len]
 bt:=h.bt
 obj id o e b:=by
  simp only[Gh.later]at b;simp only[AS.mA]at e;by_cases a:id<G.n
  ·rw[aaR a]at b;rw[aaF (by rw[<-h.len];exact a)]at e;exact ir.mono (G.yO os) ⟨a,b⟩ rfl rfl (h.obj id o e b)
  ·rw[aaH a]at b;rw[ajE (by rw[<-h.len];omega),<-h.len,b]at e;cases e
 inj i j a d e:=h.inj i j (Gh.IW a) (Gh.IW d) e
 sep i a o:=h.sep i (Gh.IW a) o
 low i a:=h.low i (Gh.IW a)
 lV:=h.lV
 hB:=h.hB
 lW id o c b:=by
  simp only[Gh.later]at c b;simp only[AS.mA];by_cases a:id<G.n
  ·rw[aaR a]at b;obtain⟨g,f⟩:=h.lW id o a b
   grind
  ·rw[aaH a]at b;exact⟨by rw[ajE (by rw[<-h.len];omega),<-h.len];exact b,ho o (aoA b)⟩
 dL:=h.dL
theorem AS.Ext.mA(E:AS)(os:List ae):E.Ext (E.mA os)where
 len:=by simp[AS.mA]
 lo _ h:=h
 obj j x e:=⟨x,by
  have:j<E.heap.length:=(aaG.1 e).1;simp[AS.mA,aaF this,e],.inl λ_ k=>k.mono (by omega)⟩
def Gh.real(G:Gh)(id b:Nat):Gh:=
 {G with ba:=λi=>if i=id then b else G.ba i,aj:=λi=>if i=id then 0 else G.aj i,pz:=λi=>if i=id then none else G.pz i}
def Gh.IX{G:Gh}{id b:Nat}{o:ae}(d:G.pz id=some o):G.sub (G.real id b):=by
 have c: ∀i,G.on i->i≠id:=λi a e=>by rw[e]at a;rw[a.2]at d;cases d
 exact{bt:=λ_ _ _ h=>h,n:=ahT _,on:=λi a=>⟨a.1,by simp only[Gh.real];rw[aaH (c i a)];exact a.2⟩,
       aj:=λi a=>by simp only[Gh.real];grind,same:=λi a _=>by simp[Gh.real,c i a]}
def Gh.IY{G:Gh}{id b:Nat}(h: (G.real id b).on i):i=id\/ (i≠id/\G.on i):=by
 obtain⟨c,a⟩:=h;simp only[Gh.real]at c a;by_cases e:i=id
 ·omega
 ·rw[aaH e]at a;exact .inr ⟨e,c,a⟩
def IZ{rows:Bool}{o:Oper}(h:kZ P rows o=some (.alloc z tg)): ∃t,o.op= .alloc t/\gL P t=some z/\tg=sF z t:=by
 cases a:o.op with
 |alloc t=>
  simp only[kZ,a]at h;obtain⟨e,d,b⟩:=ah3.1 h;cases b;exact⟨t,rfl,d,rfl⟩
 |call c=>
  exfalso;simp only[kZ,a,DX]at h
  repeat' split at h
  all_goals first| (cases h;done)| (simp only[ah3]at h;obtain⟨_,_,h⟩:=h;cases h;done)|skip
 |_=>
  exfalso;simp only[kZ,a]at h
  (repeat' split at h)<;>first| (cases h;done)| (simp only[ah3]at h;obtain⟨_,_,h⟩:=h;first| (cases h;done)| (split at h<;>cases h))| (simp_all;done)
theorem aV.real{G:Gh}{E:AS}(h:aV P B av G E w){id:Nat}{t:TypeId}(s:id<G.n)(H:G.pz id=some (.box z (sF z t)))(N:gL P t=some z):
  ∃w',(Instr.alloc t true (.tuple #[])).run P w= .ok (.pointer (some ⟨w.heap.size,0,none⟩)) w'/\aV P B av (G.real id w.heap.size) E w'/\an (G.real id w.heap.size) (.ptr id 0) (.pointer (some ⟨w.heap.size,0,none⟩)):=by
 have p:G.sub (G.real id w.heap.size):=Gh.IX H;obtain⟨A,e,_,l,J,_⟩:=sI N (G.real id w.heap.size) w;obtain⟨I,_⟩:=h.lW id _ s H;have x: (G.real id w.heap.size).ba id=w.heap.size:=by simp[Gh.real]
 refine⟨w.alloc (.cells A.cells t),by simp[Instr.alloc,e,newVar,newRow],?_,⟨⟨s,by simp[Gh.real]⟩,_,rfl,λ_=>by rw[x]⟩⟩;refine{len:=h.len,bt:=λb o v K=>?_,obj:=λi o y a=>?_,inj:=λi j g L f=>?_,sep:=λi g o=>?_,low:=λi g=>?_,lV:=h.lV.alloc h.hB _,hB:=by have:=h.hB;simp;omega,lW:=λi o g a=>?_,dL:=h.dL}
 ·have m:G.bt b o=some v:=K;rw[cell?_alloc_old (h.yv P m)];exact h.bt b o v m
 ·by_cases c:i=id
  ·subst c;rw[I]at y;cases y;refine⟨by simp[Gh.real],A.cells,t,?_,l,J,λO h=>PU h⟩;rw[x];exact arZ _ _
  ·have q:i<G.n:=by rw[h.len];exact(aaG.1 y).1
   simp only[Gh.real]at a;rw[aaH c]at a;exact ir.dA p ⟨q,a⟩ (by simp[Gh.real,c]) (Below.heap_alloc _ _ _ (h.low i ⟨q,a⟩).2) (h.obj i o y a)
 ·rcases Gh.IY g with d| ⟨k,d⟩<;>rcases Gh.IY L with u| ⟨D,u⟩
  ·rw[d,u]
  ·simp only[Gh.real,d,ajQ,aaH D]at f;have:=(h.low j u).2;omega
  ·simp only[Gh.real,u,ajQ,aaH k]at f;have:=(h.low i d).2;omega
  ·simp only[Gh.real,aaH k,aaH D]at f;exact h.inj i j d u f
 ·rcases Gh.IY g with d| ⟨k,d⟩
  ·subst d;rw[x];show G.bt w.heap.size o=none;cases M:G.bt w.heap.size o with
   |none=>rfl
   |some v=>have:=h.yv P M;omega
  ·simp only[Gh.real,aaH k];exact h.sep i d o
 ·rcases Gh.IY g with d| ⟨k,d⟩
  ·subst d;rw[x];exact⟨h.hB,by simp⟩
  ·simp only[Gh.real,aaH k];have:=h.low i d;exact⟨this.1,by simp;omega⟩
 ·simp only[Gh.real]at g a;by_cases c:i=id
  ·rw[aaR c]at a;cases a
  ·rw[aaH c]at a;exact h.lW i o g a
def Gh.abd{G:Gh}(h:fT.le G){id b:Nat}{o:ae}(a:G.pz id=some o)(c:fT.n<=id):fT.le (G.real id b):=
 {Gh.Z5 h.toSub (Gh.IX a)with pz:=λi d=>by simp only[Gh.real];rw[aaH (by omega)];exact h.pz i d}
section
variable{C:bA}(hC:fP P B av C)(hg:fz X B av){r:oN}{n nt:Nat}{rows:Bool}{ops:Array Oper}{xs:Nat->aP}{F:Nat->FP}
include hC hg
theorem go_sound(I:Region.Mode){ord:lN}(U:uU I ops ord=true)(sl:Nat->Nat)(al:Nat->Option ae)(A9: ∀i o,ops[i]?=some o->(al i=none/\iq P rows ops o=some (xs i))\/ ∃z tg g d,al i=some (.box z tg)/\iq P rows ops o=some ⟨g,d,.alloc z tg⟩/\xs i=⟨g,d,.mov (.c (.ptr (sl i) 0))⟩)
  (Qg: ∀i j bi bj,al i=some bi->al j=some bj->sl i=sl j->i=j)  {cq:AS} (wL: ∀i b,al i=some b->fT.n<=sl i) (hd: ∀i,i<ops.size-> ∀d,(xs i).dst=some d->d<nt) (asO: ∀i o,ops[i]?=some o-> ∀a∈k5 o,a<i)
  (Qh: ∀i j,i<j->j<ops.size->i∉gM ops 64 j->j6 (xs i) (xs j)=true/\ (F i).ok (F j)=true):
  ∀ (fuel t:Nat) (listed:Array Bool) (l:lN) (G:Gh) (E E':AS) (w:World) (fr u:Fr) (a:Act) (Q:Exit->Act->World->Prop),
    (∀i,i∈l↔i<ops.size/\listed.getD i true=false)->listed.size=ops.size->l.Pairwise (· < ·)->(∀j o,ops[j]?=some o->listed.getD j true=true-> ∀a∈k5 o,listed.getD a true=true)->l.length<=fuel->
    jF X C xs F l fr E u E'->fT.le G->cq.Ext E->(∀i∈l,∀b,al i=some b->sl i<G.n/\G.pz (sl i)=some b)->aV P B av G E w->cK G nt fr.env a.tmps->gi cY G fr.marks a.defers->(∀e a w,mD P B av cY fT cq nt (.normal,u,E') e a w->Q e a w)->
    wpOpsIn (W r) n P ops Q (Region.linearise.go I ops fuel t listed []) a w:=by
 intro fuel
 induction fuel with
 |zero=>
  intro t listed l G E E' w fr u a Q hl T hp pF hf hr hle s pK hw he hm hQ;have:l=[]:=ak9.1 (by omega);subst this;obtain⟨rfl,rfl⟩:=hr;exact hQ _ _ _ ⟨G,hle,hw,he,hm,s,trivial⟩
 |succ fuel ih=>
  intro t listed l G E E' w fr u a Q hl T hp pF hf hr hle s pK hw he hm hQ;simp only[Region.linearise.go]
  change wpOpsIn (W r) n P ops Q (match(Region.ready I ops listed)[t % (Region.ready I ops listed).length]? with
   |some i=>Region.linearise.go I ops fuel (t/ (Region.ready I ops listed).length) (listed.setIfInBounds i true) [i]
   |none=>[].reverse) a w
  have J: ∀i,i∈Region.ready I ops listed↔i∈l/\ ∀o,ops[i]?=some o-> ∀e∈o.after.toList,Region.binds I e=true->listed.getD e.on false=true:=by
   intro i;simp only[Region.ready,ajL,arH,ajI,aCk];rw[hl];constructor
   ·rintro⟨R,H,h3⟩;refine⟨⟨R,H⟩,λo ho e Z O=>?_⟩;rw[ho]at h3;simp only[ah6,alr,asx]at h3;have:=h3 e (by simpa using Z);rw[O]at this;simpa using this
   ·rintro⟨⟨R,H⟩,h3⟩;refine⟨R,H,?_⟩;obtain⟨o,ho⟩: ∃o,ops[i]?=some o:=⟨ops[i],by simp[R]⟩;rw[ho];simp only[ah6,alr,asx];intro e Z;by_cases O:Region.binds I e=true
    ·rw[h3 o ho e (by simpa using Z) O];simp
    ·simp at O;simp[O]
  have Qi: ∀a,listed.getD a false=true->listed.getD a true=true:=by
   intro a h;simp only[ajK]at h⊢;cases h':listed[a]? with
   |none=>rw[h']at h;cases h
   |some b=>rw[h']at h;exact h
  cases hi: (Region.ready I ops listed)[t % (Region.ready I ops listed).length]? with
  |none=>
   have Ej:Region.ready I ops listed=[]:=by
    cases pL:Region.ready I ops listed with
    |nil=>rfl
    |cons x ys=>
     rw[pL]at hi;have Ek:t % (x::ys).length< (x::ys).length:=als _ (by simp);rw[abe Ek]at hi;cases hi
   cases l with
   |nil=>
    obtain⟨rfl,rfl⟩:=hr;exact hQ _ _ _ ⟨G,hle,hw,he,hm,s,trivial⟩
   |cons i l=>
    exfalso;simp only[uU,ajI]at U;obtain⟨x,p,o,ho,uZ⟩:=Qf (S:=λa=>listed.getD a false=true) (l:=i::l) (λx p qU=>by
     cases nc:listed.getD x true with
     |true=>
      simp only[ajK,awy (show x<listed.size by omega),alr]at nc⊢;exact nc
     |false=>exact absurd ((hl x).2 ⟨p,nc⟩) qU) ord [] U.2 (by simp) ⟨i,by
      have:=ajD.1 U.1 i (by simpa using((hl i).1 (by simp)).1);simpa using this,by simp⟩
    have:x∈Region.ready I ops listed:=(J x).2 ⟨p,λo' D e Z O=>by rw[ho]at D;cases D;exact uZ e Z O⟩;rw[Ej]at this;cases this
  |some i=>
   simp only;rw[linearise_go_acc,List.reverse_singleton,List.singleton_append];have Qj:=aoA hi;obtain⟨sL,Qk⟩:=(J i).1 Qj;have Ba: ∀o,ops[i]?=some o-> ∀a∈k5 o,listed.getD a true=true:=by
    intro o ho a ha;simp only[k5,ais,ajL]at ha;obtain⟨e,⟨e1,e2⟩,rfl⟩:=ha;exact Qi _ (Qk o ho e e1 (abc e2))
   have Y:=((hl i).1 sL).1;obtain⟨o,ho⟩: ∃o,ops[i]?=some o:=⟨ops[i],by simp[Y]⟩;obtain⟨f,m,rfl⟩:=awv sL;have A:=aqk.1 hp;have q:=Qc f fr u E E' (λx p=>by
    have qU:=(hl x).1 (by simp[p]);refine Qh x i (A.2.2 x p i (by simp)) Y (λasP=>?_);have:=Qe (S:=λa=>listed.getD a true=true) (λj hj o' D a ha=>pF j o' D hj a ha) 64 i o ho (Ba o ho) x asP;rw[qU.2]at this;cases this) hr
   rw[jF]at q;have L: ∀k,k∈f++m↔k<ops.size/\ (listed.setIfInBounds i true).getD k true=false:=by
    intro k;have V:=hl k;have I0: ∀x∈f++m,x≠i:=by
     intro x p e;subst e;rcases aha.1 p with h|h
     ·have:=A.2.2 x h x (by simp);omega
     ·have:=(aqu.1 A.2.1).1 x h;omega
    simp only[ajK,ane]at V⊢;constructor
    ·intro h;have ot:=I0 k h;have:=V.1 (by simp only[aha,ajR]at h⊢;rcases h with h|h;exact .inl h;exact .inr (.inr h));rw[aaH (λe=>ot e.symm)];exact this
    ·rintro⟨R,H⟩;by_cases yP:i=k
     ·subst yP;rw[aaR rfl,aaR (by omega)]at H;simp at H
     ·rw[aaH yP]at H;have:=V.2 ⟨R,H⟩;simp only[aha,ajR]at this⊢;rcases this with h|h|h
      ·exact .inl h
      ·exact absurd h.symm yP
      ·exact .inr h
   have ou: (f++m).Pairwise (· < ·):=aqk.2 ⟨A.1,(aqu.1 A.2.1).2,λx p y hy=>A.2.2 x p y (by simp[hy])⟩;have N: ∀j o,ops[j]?=some o->(listed.setIfInBounds i true).getD j true=true-> ∀a∈k5 o,(listed.setIfInBounds i true).getD a true=true:=by
    intro j o' D hj a ha;have key:listed.getD a true=true->(listed.setIfInBounds i true).getD a true=true:=by
     intro h;simp only[ajK,ane]at h⊢;split
     ·split<;>rfl
     ·exact h
    apply key;by_cases El:i=j
    ·subst El;rw[ho]at D;cases D;exact Ba _ ho a ha
    ·refine pF j o' D ?_ a ha;simp only[ajK,ane]at hj⊢;rw[aaH El]at hj;exact hj
   have qT: (f++m).length<=fuel:=by simp at hf⊢;omega
   have Qm:i∉f++m:=λhm=>by
    rcases aha.1 hm with h|h
    ·have:=A.2.2 i h i (by simp);omega
    ·have:=(aqu.1 A.2.1).1 i h;omega
   have K: ∀k∈f++m,∀b,al k=some b->sl k<G.n/\G.pz (sl k)=some b:=λk V b O=>pK k (by
    simp only[aha,ajR]at V⊢;rcases V with h|h
    ·exact .inl h
    ·exact .inr (.inr h)) b O
   rcases A9 i o ho with⟨mE,p⟩| ⟨z,tg,g,d,mE,p,yS⟩
   ·have iu:guardOf ops o=some (xs i).g:=by
      unfold iq at p;split at p
      ·rename_i H;have:=alo p;rw[<-this];exact H
      ·cases p
    have M: (xs i).dst=o.dst:=by
     unfold iq at p;split at p
     ·have:=alo p;rw[<-this]
     ·cases p
    have vc:=yF he iu;simp only[wpOpsIn,ho];rw[vc];rcases q with⟨R,v,yT,H,_,h4⟩| ⟨R,_,h4⟩
    ·rw[aaR R];refine yG hC hg p (hd i Y) hw he hm H (λEm ow e G' a' w' q1 q2 q3 q4 q5=>?_) (λEm ow e=>by cases e);cases e;exact ih _ _ (f++m) G' yT E' w' _ u a' Q L (by simpa using T) ou N qT h4 (Gh.le_trans hle q1) (s.trans q3) (λk V b O=>by
      obtain⟨p1,p2⟩:=K k V b O;exact⟨ak7 p1 q1.n,by rw[q1.pz _ p1];exact p2⟩) q2 q4 q5 hQ
    ·rw[aaH (by rw[R];simp)];refine⟨λ_ _=>trivial,?_⟩;obtain⟨p1,p2,p3⟩:=qS (a:=a) he (hd i Y) (v:=.undef) (v':=undef) yE;rw[<-M];exact ih _ _ (f++m) G E E' w _ u _ Q L (by simpa using T) ou N qT h4 hle s K hw p1 (by rw[p2,p3];exact hm) hQ
   ·rw[yS]at q;have yY: ∀d',d=some d'->d'<nt:=λd' Bb=>hd i Y d' (by rw[yS];exact Bb)
    have En:kZ P rows o=some (.alloc z tg)/\guardOf ops o=some g/\o.dst=d:=by
     unfold iq at p;split at p
     ·rename_i i' g' H h3;simp only[aaQ,aP.mk.injEq]at p;obtain⟨rfl,rfl,rfl⟩:=p;exact⟨H,h3,rfl⟩
     ·cases p
    obtain⟨Qn,iu,M⟩:=En;have vc:=yF he iu;simp only[wpOpsIn,ho];rw[vc];rcases q with⟨R,v,yT,H,_,h4⟩| ⟨R,_,h4⟩
    ·rw[aaR R];simp only[exec,ao.get,aaQ,Out.ok.injEq]at H;obtain⟨rfl,rfl⟩:=H;obtain⟨p1,p2⟩:=pK i (by simp) _ mE;obtain⟨t,pM,Qo,rfl⟩: ∃t,o.op= .alloc t/\gL P t=some z/\tg=sF z t:=IZ Qn;obtain⟨w',e1,e2,e3⟩:=hw.real p1 p2 Qo;refine⟨λ_ _=>trivial,?_⟩;have Eo:o.semAt (W r).round a.eval=execOp a.eval o:=by
      apply Oper.semAt_eq;intro c e;rw[pM]at e;cases e
     have Ep: (execOp a.eval o).run P w= .ok (.value (.pointer (some ⟨w.heap.size,0,none⟩))) w':=by
      unfold execOp;simp only[pM];rw[Sem.run_bind,e1];rfl
     rw[Eo,Ep];simp only[Oper.uponIn];have Er:=Gh.IX (b:=w.heap.size) p2;obtain⟨r1,r2,r3⟩:=qS (a:=a) (dst:=d) (he.dA Er) yY e3;rw[M];exact ih _ _ (f++m) _ E E' w' _ u _ Q L (by simpa using T) ou N qT h4 (Gh.abd hle p2 (wL i _ mE)) s (λk V b O=>by
      obtain⟨p3,p4⟩:=K k V b O;refine⟨p3,?_⟩;have ot:sl k≠sl i:=λe=>Qm (by rw[Qg i k _ _ mE O e.symm];exact V)
      simp only[Gh.real];rw[aaH ot];exact p4) e2 r1 (by rw[r2,r3];exact hm.dA Er) hQ
    ·rw[aaH (by rw[R];simp)];refine⟨λ_ _=>trivial,?_⟩;obtain⟨p1,p2,p3⟩:=qS (a:=a) (dst:=d) he yY (v:=.undef) (v':=undef) yE;rw[M];exact ih _ _ (f++m) G E E' w _ u _ Q L (by simpa using T) ou N qT h4 hle s K hw p1 (by rw[p2,p3];exact hm) hQ
theorem asQ(L:Region.Mode){ord:lN}(yZ:uU L ops ord=true)(sl:Nat->Nat)(al:Nat->Option ae)(A9: ∀i o,ops[i]?=some o->(al i=none/\iq P rows ops o=some (xs i))\/ ∃z tg g d,al i=some (.box z tg)/\iq P rows ops o=some ⟨g,d,.alloc z tg⟩/\xs i=⟨g,d,.mov (.c (.ptr (sl i) 0))⟩)
  (Qg: ∀i j bi bj,al i=some bi->al j=some bj->sl i=sl j->i=j)  {cq:AS} (wL: ∀i b,al i=some b->fT.n<=sl i) (hd: ∀i,i<ops.size-> ∀d,(xs i).dst=some d->d<nt) (asO: ∀i o,ops[i]?=some o-> ∀a∈k5 o,a<i)
  {f:Nat} (I1:f<ops.size) (Qh: ∀i j,i<j->j<f->i∉gM ops 64 j->j6 (xs i) (xs j)=true/\ (F i).ok (F j)=true) (Qp: ∀i,i<f->i∈gM ops 64 f) (Qq: ∀j,f<j->j<ops.size->f∈gM ops 64 j) {IE:AV} {σE:AS}:
  ∀ (fuel t:Nat) (listed:Array Bool) (l:lN) (G:Gh) (E E':AS) (w:World) (fr D:Fr) (a:Act) (Q:Exit->Act->World->Prop),
    (∀i,i∈l↔i<f/\listed.getD i true=false)->listed.size=ops.size->(∀j,f<=j->j<ops.size->listed.getD j true=false)->l.Pairwise (· < ·)->(∀j o,ops[j]?=some o->listed.getD j true=true-> ∀a∈k5 o,listed.getD a true=true)->l.length<fuel->
    jF X C xs F l fr E D E'->fS D.env (xs f).g=true->exec X C (xs f).i D.env E'=some (.panic IE σE)->fT.le G->cq.Ext E->(∀i∈l,∀b,al i=some b->sl i<G.n/\G.pz (sl i)=some b)->aV P B av G E w->cK G nt fr.env a.tmps->gi cY G fr.marks a.defers->(∀e a w,mD P B av cY fT cq nt (.panic IE,D,σE) e a w->Q e a w)->
    wpOpsIn (W r) n P ops Q (Region.linearise.go L ops fuel t listed []) a w:=by
 intro fuel
 induction fuel with
 |zero=>simp
 |succ fuel ih=>
  intro t listed l G E E' w fr D a Q hl om A2 hp pF hf hr y0 K hle I pK hw he hm hQ;simp only[Region.linearise.go]
  change wpOpsIn (W r) n P ops Q (match(Region.ready L ops listed)[t % (Region.ready L ops listed).length]? with
   |some i=>Region.linearise.go L ops fuel (t/ (Region.ready L ops listed).length) (listed.setIfInBounds i true) [i]
   |none=>[].reverse) a w
  have M: ∀i,i∈Region.ready L ops listed↔(i<ops.size/\listed.getD i true=false)/\ ∀o,ops[i]?=some o-> ∀e∈o.after.toList,Region.binds L e=true->listed.getD e.on false=true:=by
   intro i;simp only[Region.ready,ajL,arH,ajI,aCk];constructor
   ·rintro⟨J,A,h3⟩;refine⟨⟨J,A⟩,λo ho e Es V=>?_⟩;rw[ho]at h3;simp only[ah6,alr,asx]at h3;have:=h3 e (by simpa using Es);rw[V]at this;simpa using this
   ·rintro⟨⟨J,A⟩,h3⟩;refine⟨J,A,?_⟩;obtain⟨o,ho⟩: ∃o,ops[i]?=some o:=⟨ops[i],by simp[J]⟩;rw[ho];simp only[ah6,alr,asx];intro e Es;by_cases V:Region.binds L e=true
    ·rw[h3 o ho e (by simpa using Es) V];simp
    ·simp at V;simp[V]
  have Qi: ∀a,listed.getD a false=true->listed.getD a true=true:=by
   intro a h;simp only[ajK]at h⊢;cases h':listed[a]? with
   |none=>rw[h']at h;cases h
   |some b=>rw[h']at h;exact h
  cases hi: (Region.ready L ops listed)[t % (Region.ready L ops listed).length]? with
  |none=>
   have Ej:Region.ready L ops listed=[]:=by
    cases pL:Region.ready L ops listed with
    |nil=>rfl
    |cons x ys=>
     rw[pL]at hi;have Ek:t % (x::ys).length< (x::ys).length:=als _ (by simp);rw[abe Ek]at hi;cases hi
   exfalso;simp only[uU,ajI]at yZ;obtain⟨x,p,o,ho,uZ⟩:=Qf (S:=λa=>listed.getD a false=true) (l:=(List.range ops.size).filter λi=>listed.getD i true==false) (λx p qU=>by
    cases nc:listed.getD x true with
    |true=>
     simp only[ajK,awy (show x<listed.size by omega),alr]at nc⊢;exact nc
    |false=>exact absurd (ajL.2 ⟨arH.2 p,by simpa using nc⟩) qU) ord [] yZ.2 (by simp) ⟨f,by
     have:=ajD.1 yZ.1 f (by simpa using I1);simpa using this,ajL.2 ⟨arH.2 I1,by simpa using A2 f (ahT _) I1⟩⟩
   have En:x<ops.size/\listed.getD x true=false:=by simpa using ajL.1 p
   have:x∈Region.ready L ops listed:=(M x).2 ⟨En,λo' u e Es V=>by rw[ho]at u;cases u;exact uZ e Es V⟩;rw[Ej]at this;cases this
  |some i=>
   simp only;rw[linearise_go_acc,List.reverse_singleton,List.singleton_append];have Qj:=aoA hi;obtain⟨sL,Qk⟩:=(M i).1 Qj;have Ba: ∀o,ops[i]?=some o-> ∀a∈k5 o,listed.getD a true=true:=by
    intro o ho a ha;simp only[k5,ais,ajL]at ha;obtain⟨e,⟨e1,e2⟩,rfl⟩:=ha;exact Qi _ (Qk o ho e e1 (abc e2))
   have Z:=sL.1;obtain⟨o,ho⟩: ∃o,ops[i]?=some o:=⟨ops[i],by simp[Z]⟩;have Y: ∀x∈gM ops 64 i,listed.getD x true=true:=Qe (S:=λa=>listed.getD a true=true) (λj hj o' u a ha=>pF j o' u hj a ha) 64 i o ho (Ba o ho);by_cases I2: ¬i<f
   ·have asS:i=f:=by
      refine apo λot=>?_
      have:=Y _ (Qq i (by omega) Z);rw[A2 f (ahT _) I1]at this;cases this
    subst asS;have Ej:l=[]:=by
     cases l with
     |nil=>rfl
     |cons x l=>
      obtain⟨q1,q2⟩:=(hl x).1 (by simp);have:=Y _ (Qp x q1);rw[q2]at this;cases this
    subst Ej;obtain⟨rfl,rfl⟩:=hr;rcases A9 i o ho with⟨mE,p⟩| ⟨z,tg,g,d,mE,p,yS⟩
    ·have iu:guardOf ops o=some (xs i).g:=by
       unfold iq at p;split at p
       ·rename_i A;have:=alo p;rw[<-this];exact A
       ·cases p
     have vc:=yF he iu;simp only[wpOpsIn,ho];rw[vc,aaR y0];exact yG hC hg p (hd i Z) hw he hm K (λEm ow e=>by cases e) (λEm ow e e' a' w' h=>by cases e;exact hQ _ _ _ (h.trans hle I))
    ·rw[yS]at K;simp[exec]at K
   have I2:i<f:=Decidable.byContradiction I2;have sL:i∈l:=(hl i).2 ⟨I2,sL.2⟩;obtain⟨m,q,rfl⟩:=awv sL;have H:=aqk.1 hp;have s:=Qc m fr D E E' (λx p=>by
    have qU:=(hl x).1 (by simp[p]);refine Qh x i (H.2.2 x p i (by simp)) I2 (λY=>?_);have:=Qe (S:=λa=>listed.getD a true=true) (λj hj o' u a ha=>pF j o' u hj a ha) 64 i o ho (Ba o ho) x Y;rw[qU.2]at this;cases this) hr
   rw[jF]at s;have O: ∀k,k∈m++q↔k<f/\ (listed.setIfInBounds i true).getD k true=false:=by
    intro k;have hk:=hl k;have I0: ∀x∈m++q,x≠i:=by
     intro x p e;subst e;rcases aha.1 p with h|h
     ·have:=H.2.2 x h x (by simp);omega
     ·have:=(aqu.1 H.2.1).1 x h;omega
    simp only[ajK,ane]at hk⊢;constructor
    ·intro h;have ot:=I0 k h;have:=hk.1 (by simp only[aha,ajR]at h⊢;rcases h with h|h;exact .inl h;exact .inr (.inr h));rw[aaH (λe=>ot e.symm)];exact this
    ·rintro⟨J,A⟩;by_cases yP:i=k
     ·subst yP;rw[aaR rfl,aaR (by omega)]at A;simp at A
     ·rw[aaH yP]at A;have:=hk.2 ⟨J,A⟩;simp only[aha,ajR]at this⊢;rcases this with h|h|h
      ·exact .inl h
      ·exact absurd h.symm yP
      ·exact .inr h
   have ou: (m++q).Pairwise (· < ·):=aqk.2 ⟨H.1,(aqu.1 H.2.1).2,λx p y hy=>H.2.2 x p y (by simp[hy])⟩;have U: ∀j o,ops[j]?=some o->(listed.setIfInBounds i true).getD j true=true-> ∀a∈k5 o,(listed.setIfInBounds i true).getD a true=true:=by
    intro j o' u hj a ha;have key:listed.getD a true=true->(listed.setIfInBounds i true).getD a true=true:=by
     intro h;simp only[ajK,ane]at h⊢;split
     ·split<;>rfl
     ·exact h
    apply key;by_cases El:i=j
    ·subst El;rw[ho]at u;cases u;exact Ba _ ho a ha
    ·refine pF j o' u ?_ a ha;simp only[ajK,ane]at hj⊢;rw[aaH El]at hj;exact hj
   have qT: (m++q).length<fuel:=by simp at hf⊢;omega
   have R: ∀j,f<=j->j<ops.size->(listed.setIfInBounds i true).getD j true=false:=by
    intro j J A;have:=A2 j J A;simp only[ajK,ane]at this⊢;rw[aaH (by omega)];exact this
   have Qm:i∉m++q:=λhm=>by
    rcases aha.1 hm with h|h
    ·have:=H.2.2 i h i (by simp);omega
    ·have:=(aqu.1 H.2.1).1 i h;omega
   have N: ∀k∈m++q,∀b,al k=some b->sl k<G.n/\G.pz (sl k)=some b:=λk hk b V=>pK k (by
    simp only[aha,ajR]at hk⊢;rcases hk with h|h
    ·exact .inl h
    ·exact .inr (.inr h)) b V
   rcases A9 i o ho with⟨mE,p⟩| ⟨z,tg,g,d,mE,p,yS⟩
   ·have iu:guardOf ops o=some (xs i).g:=by
      unfold iq at p;split at p
      ·rename_i A;have:=alo p;rw[<-this];exact A
      ·cases p
    have T: (xs i).dst=o.dst:=by
     unfold iq at p;split at p
     ·have:=alo p;rw[<-this]
     ·cases p
    have vc:=yF he iu;simp only[wpOpsIn,ho];rw[vc];rcases s with⟨J,v,yT,A,_,h4⟩| ⟨J,_,h4⟩
    ·rw[aaR J];refine yG hC hg p (hd i Z) hw he hm A (λEm ow e G' a' w' q1 q2 q3 q4 q5=>?_) (λEm ow e=>by cases e);cases e;exact ih _ _ (m++q) G' yT E' w' _ D a' Q O (by simpa using om) R ou U qT h4 y0 K (Gh.le_trans hle q1) (I.trans q3) (λk hk b V=>by
      obtain⟨p1,p2⟩:=N k hk b V;exact⟨ak7 p1 q1.n,by rw[q1.pz _ p1];exact p2⟩) q2 q4 q5 hQ
    ·rw[aaH (by rw[J];simp)];refine⟨λ_ _=>trivial,?_⟩;obtain⟨p1,p2,p3⟩:=qS (a:=a) he (hd i Z) (v:=.undef) (v':=undef) yE;rw[<-T];exact ih _ _ (m++q) G E E' w _ D _ Q O (by simpa using om) R ou U qT h4 y0 K hle I N hw p1 (by rw[p2,p3];exact hm) hQ
   ·rw[yS]at s;have yY: ∀d',d=some d'->d'<nt:=λd' Bb=>hd i Z d' (by rw[yS];exact Bb)
    have En:kZ P rows o=some (.alloc z tg)/\guardOf ops o=some g/\o.dst=d:=by
     unfold iq at p;split at p
     ·rename_i i' g' A h3;simp only[aaQ,aP.mk.injEq]at p;obtain⟨rfl,rfl,rfl⟩:=p;exact⟨A,h3,rfl⟩
     ·cases p
    obtain⟨Qn,iu,T⟩:=En;have vc:=yF he iu;simp only[wpOpsIn,ho];rw[vc];rcases s with⟨J,v,yT,A,_,h4⟩| ⟨J,_,h4⟩
    ·rw[aaR J];simp only[exec,ao.get,aaQ,Out.ok.injEq]at A;obtain⟨rfl,rfl⟩:=A;obtain⟨p1,p2⟩:=pK i (by simp) _ mE;obtain⟨t,pM,Qo,rfl⟩: ∃t,o.op= .alloc t/\gL P t=some z/\tg=sF z t:=IZ Qn;obtain⟨w',e1,e2,e3⟩:=hw.real p1 p2 Qo;refine⟨λ_ _=>trivial,?_⟩;have Eo:o.semAt (W r).round a.eval=execOp a.eval o:=by
      apply Oper.semAt_eq;intro c e;rw[pM]at e;cases e
     have Ep: (execOp a.eval o).run P w= .ok (.value (.pointer (some ⟨w.heap.size,0,none⟩))) w':=by
      unfold execOp;simp only[pM];rw[Sem.run_bind,e1];rfl
     rw[Eo,Ep];simp only[Oper.uponIn];have Er:=Gh.IX (b:=w.heap.size) p2;obtain⟨r1,r2,r3⟩:=qS (a:=a) (dst:=d) (he.dA Er) yY e3;rw[T];exact ih _ _ (m++q) _ E E' w' _ D _ Q O (by simpa using om) R ou U qT h4 y0 K (Gh.abd hle p2 (wL i _ mE)) I (λk hk b V=>by
      obtain⟨p3,p4⟩:=N k hk b V;refine⟨p3,?_⟩;have ot:sl k≠sl i:=λe=>Qm (by rw[Qg i k _ _ mE V e.symm];exact hk)
      simp only[Gh.real];rw[aaH ot];exact p4) e2 r1 (by rw[r2,r3];exact hm.dA Er) hQ
    ·rw[aaH (by rw[J];simp)];refine⟨λ_ _=>trivial,?_⟩;obtain⟨p1,p2,p3⟩:=qS (a:=a) (dst:=d) he yY (v:=.undef) (v':=undef) yE;rw[T];exact ih _ _ (m++q) G E E' w _ D _ Q O (by simpa using om) R ou U qT h4 y0 K hle I N hw p1 (by rw[p2,p3];exact hm) hQ
end
end
section
variable{P:Program}{X:Ctx}{B:Nat}{av:World}{cY:List Deferred}
def Et{x:aP}{b:ae}(h:x.fH=some b): ∃z tg,x.i= .alloc z tg/\b= .box z tg:=by
 unfold aP.fH at h
 grind
def Bc{x:aP}(h:x.fH=none):lU m x=x:=by unfold lU;rw[h]
def Bd{x:aP}{b:ae}(h:x.fH=some b):lU m x={x with i:=.mov (.c (.ptr m 0))}:=by unfold lU;rw[h]
def I3{x:aP}: (lU m x).dst=x.dst:=by
 cases h:x.fH with
 |none=>rw[Bc h]
 |some b=>rw[Bd h]
def abf{x:aP}: (lU m x).reads=x.reads:=by
 cases h:x.fH with
 |none=>rw[Bc h]
 |some b=>
  rw[Bd h];obtain⟨z,tg,a,_⟩:=Et h;unfold aP.reads;rw[a];rfl
theorem Eu: ∀ (ys:List (aP×lN)) (n q:Nat),(gW n ys)[q]?=(ys[q]?).map λy=>(lU (n+(dy (ys.take q)).length) y.1,y.2)
 | [],n,q=>by rfl
 |o::os,n,0=>by rfl
 |o::os,n,q+1=>by
  simp only[gW,axr,as1];rw[Eu os];cases h:o.1.fH with
  |none=>simp[dy,h]
  |some b=>
   simp only[dy,h,ajC]
   grind
theorem Qr: ∀ (ys:List (aP×lN)) (n:Nat),(gW n ys).length=ys.length
 | [],_=>rfl
 |o::os,n=>by simp[gW,Qr os]
theorem Qs: ∀ (ys:List (aP×lN)) (q:Nat) (y:aP×lN) (b:ae),ys[q]?=some y->y.1.fH=some b->(dy ys)[(dy (ys.take q)).length]?=some b
 | [],q,y,b,h,_=>by grind
 |o::os,0,y,b,h,a=>by
  simp at h;subst h;simp[dy,a]
 |o::os,q+1,y,b,h,a=>by
  have c:=Qs os q y b (by grind) a;simp only[as1,dy]
  grind
theorem Ev: ∀ (ys:List (aP×lN)) (i j:Nat) (y:aP×lN) (b:ae),ys[i]?=some y->y.1.fH=some b->i<j->(dy (ys.take i)).length< (dy (ys.take j)).length
 | [],i,j,y,b,h,_,_=>by grind
 |o::os,0,j+1,y,b,h,a,_=>by
  simp at h;subst h;simp[dy,a]
 |o::os,i+1,j+1,y,b,h,a,c=>by
  have d:=Ev os i j y b (by grind) a (by omega);simp only[as1,dy]
  grind
 |o::os,_,0,y,b,h,a,c=>by omega
theorem I4: ∀ (ys:List (aP×lN)) (b:ae),b∈dy ys-> ∃y∈ys,y.1.fH=some b
 | [],b,h=>by trivial
 |o::os,b,h=>by
  simp only[dy]at h;cases ho:o.1.fH with
  |none=>
   rw[ho]at h;obtain⟨y,c,a⟩:=I4 os b h
   grind
  |some d=>
   rw[ho]at h;rcases ajR.1 h with rfl|h
   ·grind
   ·obtain⟨y,c,a⟩:=I4 os b h
    grind
def Qt(hg:fz X B av):A5 P X B av:=by
 intro cY C hC rows r n nt id ops u ys A9 hd O G E w fr a res Q hw he hm hr hQ;obtain⟨Qu,Z⟩:=aa9 A9;have hln:u.length=ops.size:=by omega
 unfold Pz at O;simp only at O;split at O
 ·rename_i abh;simp only[ajI]at abh;obtain⟨⟨⟨⟨hoa,hot⟩,hog⟩,abl⟩,Y⟩:=abh;simp only[aaQ]at O
  let g:Nat->aP:=λi=>u.getD i default
  have s: ∀i,i<u.length->u[i]?=some (g i):=λi H=>by
   simp only[g,aiu,abe H,alr]
  have Ew: ∀i,¬i<u.length->(g i).fH=none:=λi H=>by
   simp only[g,aiu,ana (Nat.le_of_not_lt H),axH];rfl
  let sl:Nat->Nat:=λi=>E.heap.length+(dy (ys.take i)).length
  let xs:Nat->aP:=λi=>lU (sl i) (g i)
  have y3:ys.length=u.length:=by rw[<-O];simp
  have I: ∀q y,ys[q]?=some y->y.1=g q:=by
   intro q y S;rw[<-O]at S;simp only[ajP,aBr,ah3]at S;obtain⟨p,⟨z,hz,rfl⟩,rfl⟩:=S;have K:q<u.length:=(aaG.1 hz).1;have:=s q K;rw[hz]at this;simpa using this
  have Be: ∀q,q<u.length-> ∃L,ys[q]?=some (g q,L):=λq S=>by
   have:q<ys.length:=by omega
   refine⟨(ys[q]).2,?_⟩;have e:=abe this;rw[e];have:=I q _ e;rw[<-this]
  by_cases hn:res.1= .normal
  ·obtain⟨F,f1,f2,f3,f4⟩:=Qd (xs:=xs) (gW E.heap.length ys) [] fr _ res (λq y S=>by
     rw[Eu]at S;obtain⟨y',R,rfl⟩:=ah3.1 S;have:=I q y' R;simp only[apY,alv,xs,sl,<-this]) hr hn
   have Qv: (List.range (gW E.heap.length ys).length).map (([]:List FP).length+ ·)=List.range ops.size:=by
    rw[Qr,y3,hln];simp
   rw[Qv]at f3;obtain⟨ex,IQ,E'⟩:=res;simp only at f2 f3;subst f2;have V: ∀i o,ops[i]?=some o-> ∀a∈k5 o,a<i:=by
    intro i o ho a ha;have H:i<ops.size:=(ao8.1 ho).1;have:=ajD.1 abl i (by simp;omega);rw[ho]at this;simpa using ajD.1 this a ha
   have T: ∀i j,i<j->j<ops.size->i∉gM ops 64 j->j6 (xs i) (xs j)=true/\ (F i).ok (F j)=true:=by
    intro i j A D c;have H:i<ops.size:=by omega
    have hb: (((List.range u.length).map λi=>(gM ops 64 i).eraseDups).getD j []).contains i=false:=by
     simp only[aiu,ajP,ar9 (show j<u.length by omega),ah6,alr];cases h: (gM ops 64 j).eraseDups.contains i with
     |false=>rfl
     |true=>
      rw[auD,List.mem_eraseDups]at h;exact absurd h c
    have R:=ajD.1 Y (g i,i) (by rw[apW];exact s i (by omega));have W:=ajD.1 R (g j,j) (by rw[apW];exact s j (by omega));simp only[ge_iff_le,arJ,alb]at W;refine⟨?_,?_⟩
    ·have sM:j6 (xs i) (xs j)=j6 (g i) (g j):=by
       unfold j6;simp only[xs,I3,abf]
     rw[sM];rcases W with(h|h)|h
     ·omega
     ·rw[hb]at h;cases h
     ·exact h
    ·by_cases ci: (xs i).i.cls=0
     ·rw[yN ci _ _ _ _ _ (by simp;omega) f3];exact aa7 _
     ·by_cases cj: (xs j).i.cls=0
      ·rw[yN cj _ _ _ _ _ (by simp;omega) f3];exact aa8 _
      ·have same: ∀k,(xs k).i.cls≠0->xs k=g k:=by
         intro k hk;cases v: (g k).fH with
         |none=>exact Bc v
         |some b=>exact absurd (by show(lU (sl k) (g k)).i.cls=0;rw[Bd v];rfl) hk
       have ei:=same i ci;have ej:=same j cj;have Qw:ys[j]?=some (g j,sG u.zipIdx ((List.range u.length).map λi=>(gM ops 64 i).eraseDups) (g j) j):=by
        rw[<-O];simp only[ajP,aBr,s j (by omega),ah6,alv]
       have N: (gW E.heap.length ys)[j]?=some (xs j,sG u.zipIdx ((List.range u.length).map λi=>(gM ops 64 i).eraseDups) (g j) j):=by
        rw[Eu,Qw];rfl
       have:=f4 j _ N i (by
        rw[ej]at cj;rw[ei]at ci;exact Py (x:=g i) (by rw[apW];exact s i (by omega)) A ci cj hb) (by simpa using A)
       simpa using this
   refine wpIn_region_draw (λt=>?_);have J: ∃md ord t',Region.schedule (P.follows .mixedOrders) ops t=Region.linearise md ops t'/\uU md ops ord=true:=by
    unfold Region.schedule;split
    ·exact⟨.any,_,t,rfl,hoa⟩
    ·split
     ·exact⟨.text,_,_,rfl,hot⟩
     ·exact⟨.gc,_,_,rfl,hog⟩
   obtain⟨md,ord,t',J,yZ⟩:=J;rw[J];unfold Region.linearise;have Qx: ∀o∈dy ys,∃z tg,o= .box z tg/\aG z=0:=by
    intro o ho;obtain⟨y,R,W⟩:=I4 ys o ho;obtain⟨z,tg,M,rfl⟩:=Et W;refine⟨z,tg,rfl,?_⟩;obtain⟨q,S⟩:=auH R;have K:q<ops.size:=by
     have:=(aaG.1 S).1;omega
    obtain⟨x,e1,e2⟩:=Z q ops[q] (by simp[K]);have e3:=s q (by omega);rw[e1]at e3;rw[I q y S]at M;rw[alo e3]at e2;have:kZ P rows ops[q]=some (.alloc z tg):=by
     unfold iq at e2;split at e2
     ·rename_i i' g' h4 h5;rw[<-alo e2]at M;simp only at M;rw[h4,M]
     ·cases e2
    obtain⟨t,_,hc,_⟩:=IZ this;obtain⟨z',_,_,l,_⟩:=sI hc (Gh.mk (λ_ _=>none) 0 (λi=>i) (λi=>i) (λi=>i) (λi=>i) (λi=>i) (λ_=>none)) w;have:=aD.refs _ _ l;simpa using this
   refine go_sound hC hg (xs:=xs) (F:=F) (rows:=rows) (nt:=nt) md yZ sl (λi=>(g i).fH) (λi o ho=>?_) (λi j bi bj H D A=>?_) (fT:=G) (cq:=E) (λi b H=>?_) (λi H d y4=>hd (g i) (aoA (s i (by omega))) d (by rw[<-I3 (m:=sl i)];exact y4)) V T ops.size t' _ (List.range ops.size) (G.later (dy ys)) (E.mA (dy ys)) E' _ fr IQ a Q
    (λi=>?_) (by simp) ayQ (λj o ho D=>?_) (by simp) f3 (G.yO _) (.mA E _) (λi H b hb=>?_) (hw.later Qx).drew (he.mono (G.yO _)) (hm.mono (G.yO _)) hQ
   ·obtain⟨x,R,W⟩:=Z i o (by simpa using ho);have M:=s i (aaG.1 R).1;rw[R]at M;have M:=alo M;subst M;cases v: (g i).fH with
    |none=>exact .inl ⟨rfl,by rw[W];show _=some (lU (sl i) (g i));rw[Bc v]⟩
    |some b=>
     obtain⟨z,tg,h4,rfl⟩:=Et v;refine .inr ⟨z,tg,(g i).g,(g i).dst,rfl,?_,?_⟩
     ·rw[W,<-h4]
     ·show lU (sl i) (g i)=_;rw[Bd v]
   ·have Qy:i<u.length:=by
      by_cases h:i<u.length
      ·exact h
      ·have:=Ew i h;rw[this]at H;cases H
    have Qz:j<u.length:=by
     by_cases h:j<u.length
     ·exact h
     ·have:=Ew j h;rw[this]at D;cases D
    obtain⟨Li,ei⟩:=Be i Qy;obtain⟨Lj,ej⟩:=Be j Qz;have asT: (dy (ys.take i)).length=(dy (ys.take j)).length:=by
     have:E.heap.length+(dy (ys.take i)).length=E.heap.length+(dy (ys.take j)).length:=A;omega
    rcases awY i j with h|h|h
    ·have:=Ev ys i j _ bi ei H h;omega
    ·exact h
    ·have:=Ev ys j i _ bj ej D h;omega
   ·show G.n<=E.heap.length+_;rw[hw.len];omega
   ·simp only[arH,ajK,axb];constructor
    ·intro h;exact⟨h,by simp[h]⟩
    ·exactλh=>h.1
   ·exfalso;have K:j<ops.size:=(ao8.1 ho).1;simp[ajK,K]at D
   ·have K:i<ops.size:=by simpa using H
    obtain⟨L,e⟩:=Be i (by omega);have Ey:=Qs ys i _ b e hb;have Bf:=(aaG.1 Ey).1;have hn:=hw.len;refine⟨by show E.heap.length+_<G.n+_;omega,?_⟩;show(if E.heap.length+_<G.n then _ else _)=some b;rw[aaH (by omega),hn,alw];exact Ey
  ·obtain⟨F,f,IE,yT,aF0,f1,q1,f2,f3,f5,f6,f4,f8,f9,f10,f11⟩:=aa6 (xs:=xs) (gW E.heap.length ys) [] fr _ res (λq y S=>by
     rw[Eu]at S;obtain⟨y',R,rfl⟩:=ah3.1 S;have:=I q y' R;simp only[apY,alv,xs,sl,<-this]) hr hn
   have Qv: (List.range f).map (([]:List FP).length+ ·)=List.range f:=by simp
   rw[Qv]at f3;obtain⟨ex,IQ,E'⟩:=res;simp only[apY,alv]at f2 f3 f5 f6 f10 f11;subst f2;have U:f<ops.size:=by
    have:=(aaG.1 q1).1;rw[Qr,y3,hln]at this;exact this
   have V: ∀i o,ops[i]?=some o-> ∀a∈k5 o,a<i:=by
    intro i o ho a ha;have H:i<ops.size:=(ao8.1 ho).1;have:=ajD.1 abl i (by simp;omega);rw[ho]at this;simpa using ajD.1 this a ha
   have QA: ∀i j,j<ops.size->i∉gM ops 64 j->(((List.range u.length).map λi=>(gM ops 64 i).eraseDups).getD j []).contains i=false:=by
    intro i j D c;simp only[aiu,ajP,ar9 (show j<u.length by omega),ah6,alr];cases h: (gM ops 64 j).eraseDups.contains i with
    |false=>rfl
    |true=>
     rw[auD,List.mem_eraseDups]at h;exact absurd h c
   have sM: ∀i j,i<j->j<ops.size->i∉gM ops 64 j->j6 (xs i) (xs j)=true:=by
    intro i j A D c;have hb:=QA i j D c;have R:=ajD.1 Y (g i,i) (by rw[apW];exact s i (by omega));have W:=ajD.1 R (g j,j) (by rw[apW];exact s j (by omega));simp only[ge_iff_le,arJ,alb]at W;have sM:j6 (xs i) (xs j)=j6 (g i) (g j):=by
     unfold j6;simp only[xs,I3,abf]
    rw[sM];rcases W with(h|h)|h
    ·omega
    ·rw[hb]at h;cases h
    ·exact h
   have same: ∀k,(xs k).i.cls≠0->xs k=g k:=by
    intro k hk;cases v: (g k).fH with
    |none=>exact Bc v
    |some b=>exact absurd (by show(lU (sl k) (g k)).i.cls=0;rw[Bd v];rfl) hk
   have N: ∀j,j<ops.size->(gW E.heap.length ys)[j]?=some (xs j,sG u.zipIdx ((List.range u.length).map λi=>(gM ops 64 i).eraseDups) (g j) j):=by
    intro j D;have Qw:ys[j]?=some (g j,sG u.zipIdx ((List.range u.length).map λi=>(gM ops 64 i).eraseDups) (g j) j):=by
     rw[<-O];simp only[ajP,aBr,s j (by omega),ah6,alv]
    rw[Eu,Qw];rfl
   have QB: ∀i j,i<j->j<ops.size->i∉gM ops 64 j->(xs i).i.cls≠0->(xs j).i.cls≠0->i∈sG u.zipIdx ((List.range u.length).map λi=>(gM ops 64 i).eraseDups) (g j) j:=by
    intro i j A D c ci cj;have hb:=QA i j D c;rw[same i ci]at ci;rw[same j cj]at cj;exact Py (x:=g i) (by rw[apW];exact s i (by omega)) A ci cj hb
   have Ez:=N f U;rw[q1]at Ez;have Ez:=alo Ez;subst Ez;have T: ∀i j,i<j->j<f->i∉gM ops 64 j->j6 (xs i) (xs j)=true/\ (F i).ok (F j)=true:=by
    intro i j A D c;refine⟨sM i j A (by omega) c,?_⟩;by_cases ci: (xs i).i.cls=0
    ·rw[yN ci _ _ _ _ _ (by simp;omega) f3];exact aa7 _
    ·by_cases cj: (xs j).i.cls=0
     ·rw[yN cj _ _ _ _ _ (by simp;omega) f3];exact aa8 _
     ·have:=f4 j _ D (N j (by omega)) i (QB i j A (by omega) c ci cj) (by simpa using A);simpa using this
   have Qp: ∀i,i<f->i∈gM ops 64 f:=by
    intro i H;refine apo λc=>?_
    simp only at f8 f9 f10;rcases f10 with f10|f10
    ·rw[same f f9]at f10;exact aqI (x:=g i) (by rw[apW];exact s i (by omega)) H f10 (QA i f U c) f8
    ·have ci: (xs i).i.cls≠0:=λci=>f10 i H (yN ci _ _ _ _ _ (by simp;omega) f3)
     have:=QB i f H U c ci f9;rw[f8]at this;cases this
   have Qq: ∀j,f<j->j<ops.size->f∈gM ops 64 j:=by
    intro j D QC;refine apo λc=>?_
    have y5:=f11 j _ D (N j QC);simp only at y5;split at y5
    ·rw[sM f j D QC c]at y5;cases y5
    ·rename_i cj;exact y5 (QB f j D QC c f9 cj)
   refine wpIn_region_draw (λt=>?_);have J: ∃md ord t',Region.schedule (P.follows .mixedOrders) ops t=Region.linearise md ops t'/\uU md ops ord=true:=by
    unfold Region.schedule;split
    ·exact⟨.any,_,t,rfl,hoa⟩
    ·split
     ·exact⟨.text,_,_,rfl,hot⟩
     ·exact⟨.gc,_,_,rfl,hog⟩
   obtain⟨md,ord,t',J,yZ⟩:=J;rw[J];unfold Region.linearise;have Qx: ∀o∈dy ys,∃z tg,o= .box z tg/\aG z=0:=by
    intro o ho;obtain⟨y,R,W⟩:=I4 ys o ho;obtain⟨z,tg,M,rfl⟩:=Et W;refine⟨z,tg,rfl,?_⟩;obtain⟨q,S⟩:=auH R;have K:q<ops.size:=by
     have:=(aaG.1 S).1;omega
    obtain⟨x,e1,e2⟩:=Z q ops[q] (by simp[K]);have e3:=s q (by omega);rw[e1]at e3;rw[I q y S]at M;rw[alo e3]at e2;have:kZ P rows ops[q]=some (.alloc z tg):=by
     unfold iq at e2;split at e2
     ·rename_i i' g' h4 h5;rw[<-alo e2]at M;simp only at M;rw[h4,M]
     ·cases e2
    obtain⟨t,_,hc,_⟩:=IZ this;obtain⟨z',_,_,l,_⟩:=sI hc (Gh.mk (λ_ _=>none) 0 (λi=>i) (λi=>i) (λi=>i) (λi=>i) (λi=>i) (λ_=>none)) w;have:=aD.refs _ _ l;simpa using this
   refine asQ hC hg (xs:=xs) (F:=F) (rows:=rows) (nt:=nt) md yZ sl (λi=>(g i).fH) (λi o ho=>?_) (λi j bi bj H D A=>?_) (fT:=G) (cq:=E) (λi b H=>?_) (λi H d y4=>hd (g i) (aoA (s i (by omega))) d (by rw[<-I3 (m:=sl i)];exact y4)) V U T Qp Qq ops.size t' _ (List.range f) (G.later (dy ys)) (E.mA (dy ys)) yT _ fr IQ a Q
    (λi=>?_) (by simp) (λj _ D=>by simp[D]) ayQ (λj o ho D=>?_) (by simpa using U) f3 f5 f6 (G.yO _) (.mA E _) (λi H b hb=>?_) (hw.later Qx).drew (he.mono (G.yO _)) (hm.mono (G.yO _)) hQ
   ·obtain⟨x,R,W⟩:=Z i o (by simpa using ho);have M:=s i (aaG.1 R).1;rw[R]at M;have M:=alo M;subst M;cases v: (g i).fH with
    |none=>exact .inl ⟨rfl,by rw[W];show _=some (lU (sl i) (g i));rw[Bc v]⟩
    |some b=>
     obtain⟨z,tg,h4,rfl⟩:=Et v;refine .inr ⟨z,tg,(g i).g,(g i).dst,rfl,?_,?_⟩
     ·rw[W,<-h4]
     ·show lU (sl i) (g i)=_;rw[Bd v]
   ·have Qy:i<u.length:=by
      by_cases h:i<u.length
      ·exact h
      ·have:=Ew i h;rw[this]at H;cases H
    have Qz:j<u.length:=by
     by_cases h:j<u.length
     ·exact h
     ·have:=Ew j h;rw[this]at D;cases D
    obtain⟨Li,ei⟩:=Be i Qy;obtain⟨Lj,ej⟩:=Be j Qz;have asT: (dy (ys.take i)).length=(dy (ys.take j)).length:=by
     have:E.heap.length+(dy (ys.take i)).length=E.heap.length+(dy (ys.take j)).length:=A;omega
    rcases awY i j with h|h|h
    ·have:=Ev ys i j _ bi ei H h;omega
    ·exact h
    ·have:=Ev ys j i _ bj ej D h;omega
   ·show G.n<=E.heap.length+_;rw[hw.len];omega
   ·simp only[arH,ajK,axb];constructor
    ·intro h;exact⟨h,by simp[Nat.lt_trans h U]⟩
    ·exactλh=>h.1
   ·exfalso;have K:j<ops.size:=(ao8.1 ho).1;simp[ajK,K]at D
   ·have K:i<ops.size:=Nat.lt_trans (by simpa using H) U;obtain⟨L,e⟩:=Be i (by omega);have Ey:=Qs ys i _ b e hb;have Bf:=(aaG.1 Ey).1;have hn:=hw.len;refine⟨by show E.heap.length+_<G.n+_;omega,?_⟩;show(if E.heap.length+_<G.n then _ else _)=some b;rw[aaH (by omega),hn,alw];exact Ey
 grind
def asU(n:Nat):yH (iter n):=λ_ _ _ _ h=>⟨n,h⟩
theorem abm(a:fz X B av)(b:pG P X)(c: ∀f p,X.bZ f=some p->gj P B av f p): ∀n,fP P B av (im X n)
 |0=>by intro fv args E d h;simp[im]at h
 |n+1=>asD (abm a b c n) a b (Qt a) (asU n) c
end
section
variable{P:Program}{X:Ctx}{B:Nat}{av:World}
def Gh.start(w:World):Gh where
 bt b o:=if b<w.heap.size then w.cell? ⟨b,o,none⟩else none
 n:=0
 ba:=id
 base:=id
 aj:=id
 ed:=id
 sz:=id
theorem aV.start(w:World):aV P w.heap.size w (Gh.start w) {heap:=[],lo:=none} w where
 len:=rfl
 bt b o v h:=by
  simp only[Gh.start]at h
  grind
 obj id o h:=by grind
 inj i j a:=absurd a.1 (aql _)
 sep i a:=absurd a.1 (aql _)
 low i a:=absurd a.1 (aql _)
 lW i o a:=absurd a (aql _)
 lV:=⟨rfl,rfl,rfl,ahT _,λ_ _=>rfl⟩
 hB:=ahT _
 dL b o v c h:=by simp only[Gh.start];grind
end
section
variable{P:Program}{X:Ctx}{B:Nat}{av:World}
def bA.le(C a:bA):Prop:= ∀f args E r,C f args E=some r->a f args E=some r
def qV(b a:Fr->AS->jk):Prop:= ∀fr E r,b fr E=some r->a fr E=some r
def eu.le(L c:eu):Prop:= ∀b a,qV b a->qV (L b) (c a)
theorem Bg{C c:bA}(b:bA.le C c)(i:I)(e:Env)(E:AS)(r:Out)(h:exec X C i e E=some r):exec X c i e E=some r:=by
 cases i with
 |call f args=>
  simp only[exec]at h⊢;split at h
  ·rename_i a;rw[b _ _ _ _ a];exact h
  ·rename_i a;rw[b _ _ _ _ a];exact h
  grind
 |_=>simpa only[exec]using h
theorem I5{C b:bA}(a:bA.le C b): ∀ (os:List aP),qV (eN X C os) (eN X b os)
 | [],_,_,_,h=>by trivial
 |o::os,fr,E,r,h=>by
  simp only[eN]at h⊢;split at h
  ·rename_i hw;rw[aaR hw];split at h
   ·rename_i c;rw[Bg a _ _ _ _ c];exact I5 a os _ _ _ h
   ·grind [Bg]
   grind
  ·rename_i hw;rw[aaH hw];exact I5 a os _ _ _ h
theorem I6{C c:bA}(b:bA.le C c): ∀ (os:List (aP×lN)) (a:List FP),qV (gh X C a os) (gh X c a os)
 | [],_,_,_,_,h=>by trivial
 |o::os,a,fr,E,r,h=>by
  simp only[gh]at h⊢;split at h
  ·rename_i hw;rw[aaR hw];split at h
   ·rename_i d;rw[Bg b _ _ _ _ d];simp only;split at h
    ·rename_i e;rw[aaR e];exact I6 b os _ _ _ _ h
    grind
   ·grind [Bg]
   grind
  ·rename_i hw;rw[aaH hw];exact I6 b os _ _ _ _ h
theorem qW{C m:bA}{L l:eu}(d:bA.le C m)(e:eu.le L l)(bS:FuncId)(rd:Bool): ∀k,qV (a0 X C L bS rd k) (a0 X m l bS rd k)
 |.skip,_,_,_,h=>by trivial
 |.seq a b,fr,E,r,h=>by
  simp only[a0]at h⊢;split at h
  ·rename_i f;rw[qW d e bS rd a _ _ _ f];exact qW d e bS rd b _ _ _ h
  ·cases hr:a0 X C L bS rd a fr E with
   |none=>grind
   |some q=>
    rw[qW d e bS rd a _ _ _ hr]
    grind
 |.cond c a b,fr,E,r,h=>by
  simp only[a0]at h⊢;split at h
  ·rename_i t o;split at h
   ·rename_i i;rw[aaR i];exact qW d e bS rd a _ _ _ h
   ·rename_i i;rw[aaH i];exact qW d e bS rd b _ _ _ h
  omega
 |.block id body,fr,E,r,h=>by
  simp only[a0]at h⊢;cases hr:a0 X C L bS rd body fr E with
  |none=>rw[hr]at h;cases h
  |some q=>rw[qW d e bS rd body _ _ _ hr];rw[hr]at h;exact h
 |.loop body,fr,E,r,h=>by
  simp only[a0]at h⊢;exact e _ _ (qW d e bS rd body) _ _ _ h
 |.exit id,_,_,_,h=>by simpa only[a0]using h
 |.ret,_,_,_,h=>by simpa only[a0]using h
 |.aL ops,fr,E,r,h=>by
  simp only[a0]at h⊢;exact I5 d ops _ _ _ h
 |.uP ops,fr,E,r,h=>by
  simp only[a0]at h⊢;exact I6 d _ _ _ _ _ h
 |.ik g ps as bd,fr,E,r,h=>by
  simp only[a0]at h⊢;split at h
  ·cases h
  ·rename_i j;rw[aaH j];split at h
   ·rename_i n;rw[aaR n];split at h
    ·rename_i f;rw[d _ _ _ _ f];exact h
    ·rename_i f;rw[d _ _ _ _ f];exact h
    ·cases h
   ·cases h
theorem asV{C o:bA}{L n:eu}(m:bA.le C o)(k:eu.le L n)(l:Nat)(args:lA)(E:AS)(r:aS)(h:j7 X C L l args E=some r):j7 X o n l args E=some r:=by
 simp only[j7]at h⊢;split at h
 ·rename_i st i f env ps as bd u;split at h
  ·rename_i a;simp only[a,ajQ];split at h
   ·rename_i fr d p;rw[qW m k _ _ _ _ _ _ p];simp only;split at h
    ·rename_i b t c e g iK s;cases j:a0 X C L f true bd fr (d.set l (.loop .busy b t c e g iK) 0)with
     |none=>rw[j]at h;cases h
     |some q=>rw[qW m k _ _ _ _ _ _ j];grind
    omega
   grind
  grind
 omega
def abn{C c:bA}{L b:eu}(e:bA.le C c)(d:eu.le L b):bA.le (step X C L) (step X c b):=by
 intro v args E r h;unfold step at h⊢;split at h
 ·rename_i f first cap
  split at h
  ·omega
  ·split at h
   ·rename_i pf g;split at h
    ·cases a:a0 X C L f false pf.body {env:=dc (first++args++cap),marks:=[]} {E with lo:=none}with
     |none=>rw[a]at h;cases h
     |some q=>rw[qW e d _ _ _ _ _ _ a];grind
    grind
   omega
 ·grind [asV]
 omega
theorem QD: ∀n,eu.le (iter n) (iter (n+1))
 |0,b,c,a,fr,E,r,h=>by trivial
 |n+1,b,c,a,fr,E,r,h=>by
  rw[iter]at h⊢;split at h
  ·rename_i d;rw[a _ _ _ d];exact QD n b c a _ _ _ h
  ·rw[a _ _ _ h]
   grind
theorem abo: ∀n,bA.le (im X n) (im X (n+1))
 |0=>λf args E r h=>by trivial
 |n+1=>by
  exact abn (abo n) (QD n)
def bA.le_trans{A B C:bA}(h:bA.le A B)(k:bA.le B C):bA.le A C:=λf a s r e=>k f a s r (h f a s r e)
def y6(h:n<=m):bA.le (im X n) (im X m):=by
 induction h with
 |refl=>exactλf a s r e=>e
 |step _ b=>exact bA.le_trans b (abo _)
def QE(h:n<=m)(b:Fr->AS->jk):qV (iter n b) (iter m b):=by
 induction h with
 |refl=>exactλfr s r e=>e
 |step _ a=>exactλfr s r e=>QD _ b b (λ_ _ _ h=>h) _ _ _ (a fr s r e)
theorem I7: ∀n (b a:Fr->AS->jk),qV b a->qV (iter n b) (iter n a)
 |0,_,_,_=>λfr E r h=>by trivial
 |n+1,b,a,c=>λfr E r h=>by
  rw[iter]at h⊢;split at h
  ·rename_i d;rw[c _ _ _ d];exact I7 n b a c _ _ _ h
  ·rw[c _ _ _ h]
   grind
def abp(h:n<=m):eu.le (iter n) (iter m):=by
 intro b a c fr s r e;exact QE h a _ _ _ (I7 n b a c _ _ _ e)
noncomputable def D(X:Ctx):bA:=λf args E=>
 open Classical in if h: ∃r,∃n,im X n f args E=some r then some h.choose else none
noncomputable def Lw:eu:=λb fr E=>
 open Classical in if h: ∃r,∃n,iter n b fr E=some r then some h.choose else none
def QF:bA.le (im X n) (D X):=by
 intro f args E r h;have a: ∃r,∃n,im X n f args E=some r:=⟨r,n,h⟩;unfold D;obtain⟨m,hm⟩:=a.choose_spec;have c:=y6 (atX n m) _ _ _ _ h;have b:=y6 (auf n m) _ _ _ _ hm
 grind
theorem y7{f:AV}{args:lA}{E:AS}{r:aS}(h:D X f args E=some r): ∃n,im X n f args E=some r:=by
 unfold D at h;split at h
 ·grind
 grind
def QG{b:Fr->AS->jk}:qV (iter n b) (Lw b):=by
 intro fr E r h;have a: ∃r,∃n,iter n b fr E=some r:=⟨r,n,h⟩;unfold Lw;obtain⟨m,hm⟩:=a.choose_spec;have d:=QE (atX n m) b _ _ _ h;have c:=QE (auf n m) b _ _ _ hm
 grind
def EA{b:Fr->AS->jk}{a:Fr}{E:AS}{r:Ex×Fr×AS}(h:Lw b a E=some r): ∃n,iter n b a E=some r:=by
 unfold Lw at h;split at h
 ·grind
 grind
theorem asW(b:Fr->AS->jk)(e:Fr)(E:AS):Lw b e E=match b e E with
  |some (.normal,c,g)=>Lw b c g
  |r=>r:=by
 split
 ·rename_i c g d;cases f:Lw b c g with
  |none=>
   cases hr:Lw b e E with
   |none=>rfl
   |some r=>
    obtain⟨n,a⟩:=EA hr;cases n with
    |zero=>trivial
    |succ n=>rw[iter,d]at a;rw[QG _ _ _ a]at f;cases f
  |some r=>
   obtain⟨n,a⟩:=EA f;exact QG (n:=n+1) _ _ _ (by rw[iter,d];exact a)
 ·cases d:b e E with
  |none=>
   cases hr:Lw b e E with
   |none=>rfl
   |some r=>
    obtain⟨n,a⟩:=EA hr;cases n with
    |zero=>trivial
    |succ n=>rw[iter,d]at a;cases a
  |some q=>
   refine QG (n:=1) _ _ _ ?_;rw[iter,d]
   grind
theorem I8{i:I}{E:AS}{r:Out}(h:exec X (D X) i e E=some r): ∃n,exec X (im X n) i e E=some r:=by
 cases i with
 |call f args=>
  simp only[exec]at h⊢;split at h
  ·grind [y7]
  ·rename_i b;obtain⟨n,a⟩:=y7 b;exact⟨n,by rw[a];exact h⟩
  grind
 |_=>exact⟨0,by simpa only[exec]using h⟩
theorem QH: ∀ (os:List aP) (fr:Fr) (E:AS) (r:Ex×Fr×AS),eN X (D X) os fr E=some r-> ∃n,eN X (im X n) os fr E=some r
 | [],_,_,_,h=>⟨0,by trivial⟩
 |o::os,fr,E,r,h=>by
  simp only[eN]at h⊢;split at h
  ·rename_i hw;simp only[hw,ajQ];split at h
   ·rename_i a;obtain⟨n,b⟩:=I8 a;obtain⟨m,hm⟩:=QH os _ _ _ h;refine⟨max n m,?_⟩;rw[Bg (y6 (atX n m)) _ _ _ _ b];exact I5 (y6 (auf n m)) _ _ _ _ hm
   ·grind [I8]
   grind
  ·obtain⟨m,hm⟩:=QH os _ _ _ h
   grind
theorem QI: ∀ (os:List (aP×lN)) (a:List FP) (fr:Fr) (E:AS) (r:Ex×Fr×AS),gh X (D X) a os fr E=some r-> ∃n,gh X (im X n) a os fr E=some r
 | [],_,_,_,_,h=>⟨0,by trivial⟩
 |o::os,a,fr,E,r,h=>by
  simp only[gh]at h⊢;split at h
  ·rename_i hw;simp only[hw,ajQ];split at h
   ·rename_i b;obtain⟨n,c⟩:=I8 b;split at h
    ·rename_i d;obtain⟨m,hm⟩:=QI os _ _ _ _ h;refine⟨max n m,?_⟩;rw[Bg (y6 (atX n m)) _ _ _ _ c];simp only;rw[aaR d];exact I6 (y6 (auf n m)) _ _ _ _ _ hm
    grind
   ·rename_i b;obtain⟨n,c⟩:=I8 b
    grind
   grind
  ·obtain⟨m,hm⟩:=QI os _ _ _ _ h
   grind
def y8(h:n<=m)(bS:FuncId)(rd:Bool)(a:PC):qV (a0 X (im X n) (iter n) bS rd a) (a0 X (im X m) (iter m) bS rd a):=
 qW (y6 h) (abp h) bS rd a
theorem qX(bS:FuncId)(rd:Bool): ∀ (l:PC) (fr:Fr) (E:AS) (r:Ex×Fr×AS),a0 X (D X) Lw bS rd l fr E=some r-> ∃n,a0 X (im X n) (iter n) bS rd l fr E=some r
 |.skip,_,_,_,h=>⟨0,by trivial⟩
 |.seq a b,fr,E,r,h=>by
  simp only[a0]at h;split at h
  ·rename_i e;obtain⟨n,d⟩:=qX bS rd a _ _ _ e;obtain⟨m,hm⟩:=qX bS rd b _ _ _ h;refine⟨max n m,?_⟩;simp only[a0];rw[y8 (atX n m) _ _ _ _ _ _ d];exact y8 (auf n m) _ _ _ _ _ _ hm
  ·rename_i e;obtain⟨n,d⟩:=qX bS rd a _ _ _ h;refine⟨n,?_⟩;simp only[a0];rw[d];obtain⟨ex,j,v⟩:=r;cases ex with
   |normal=>exact absurd h (e _ _)
   |_=>rfl
 |.cond c a b,fr,E,r,h=>by
  simp only[a0]at h;split at h
  ·rename_i t p;split at h
   ·rename_i i;obtain⟨n,d⟩:=qX bS rd a _ _ _ h;exact⟨n,by simp only[a0,p,i,ajQ];exact d⟩
   ·rename_i i;obtain⟨n,d⟩:=qX bS rd b _ _ _ h;exact⟨n,by simp only[a0,p,aaH i];exact d⟩
  ·cases h
 |.block id body,fr,E,r,h=>by
  simp only[a0]at h;cases hr:a0 X (D X) Lw bS rd body fr E with
  |none=>rw[hr]at h;cases h
  |some q=>
   obtain⟨n,d⟩:=qX bS rd body _ _ _ hr;refine⟨n,?_⟩;simp only[a0];rw[d];rw[hr]at h;exact h
 |.loop body,fr,E,r,h=>by
  simp only[a0]at h;obtain⟨k,u⟩:=EA h;have key: ∀k fr,∀E,iter k (a0 X (D X) Lw bS rd body) fr E=some r-> ∃n,iter n (a0 X (im X n) (iter n) bS rd body) fr E=some r:=by
   intro k
   induction k with
   |zero=>intro fr E h;simp[iter]at h
   |succ k s=>
    intro fr E h;rw[iter]at h;split at h
    ·rename_i e;obtain⟨n,d⟩:=qX bS rd body _ _ _ e;obtain⟨m,hm⟩:=s _ _ h;refine⟨max n m+1,?_⟩;rw[iter];rw[y8 (show n<=max n m+1 by omega) _ _ _ _ _ _ d];exact abp (show m<=max n m by omega) _ _ (y8 (show m<=max n m+1 by omega) _ _ _) _ _ _ hm
    ·rename_i e;obtain⟨n,d⟩:=qX bS rd body _ _ _ h;refine⟨n+1,?_⟩;rw[iter,y8 (Nat.le_succ n) _ _ _ _ _ _ d];obtain⟨ex,j,v⟩:=r;cases ex with
     |normal=>exact absurd h (e _ _)
     |_=>rfl
  obtain⟨n,d⟩:=key k fr E u;exact⟨n,by simp only[a0];exact d⟩
 |.exit id,_,_,_,h=>⟨0,by simpa only[a0]using h⟩
 |.ret,_,_,_,h=>⟨0,by simpa only[a0]using h⟩
 |.aL ops,fr,E,r,h=>by
  simp only[a0]at h;obtain⟨n,d⟩:=QH _ _ _ _ h;exact⟨n,by simp only[a0];exact d⟩
 |.uP ops,fr,E,r,h=>by
  simp only[a0]at h;obtain⟨n,d⟩:=QI _ _ _ _ _ h;exact⟨n,by simp only[a0];exact d⟩
 |.ik g ps as bd,fr,E,r,h=>by
  simp only[a0]at h;split at h
  ·cases h
  ·rename_i f;split at h
   ·rename_i o;split at h
    ·rename_i e;obtain⟨n,d⟩:=y7 e;exact⟨n,by simp only[a0];rw[aaH f,aaR o,d];exact h⟩
    ·rename_i e;obtain⟨n,d⟩:=y7 e;exact⟨n,by simp only[a0];rw[aaH f,aaR o,d];exact h⟩
    ·cases h
   ·cases h
def asX{args:lA}{E:AS}{r:aS}(h:j7 X (D X) Lw l args E=some r): ∃n,j7 X (im X n) (iter n) l args E=some r:=by
 simp only[j7]at h⊢;split at h
 ·rename_i st i f env ps as bd t;split at h
  ·rename_i d;split at h
   ·rename_i fr c k;obtain⟨n,o⟩:=qX _ _ _ _ _ _ k;split at h
    ·rename_i a s b e g iK p;cases j:a0 X (D X) Lw f true bd fr (c.set l (.loop .busy a s b e g iK) 0)with
     |none=>rw[j]at h;cases h
     |some q=>
      obtain⟨m,hm⟩:=qX _ _ _ _ _ _ j;have e1:=y8 (atX n m) _ _ _ _ _ _ o;have u:=y8 (auf n m) _ _ _ _ _ _ hm
      grind
    grind
   grind
  grind
 grind
def I9{args:lA}{E:AS}{r:aS}(h:step X (D X) Lw v args E=some r):D X v args E=some r:=by
 have key: ∃n,step X (im X n) (iter n) v args E=some r:=by
  unfold step at h⊢;split at h
  ·rename_i f first cap
   split at h
   ·simp_all
   ·split at h
    ·rename_i pf c;split at h
     ·cases a:a0 X (D X) Lw f false pf.body {env:=dc (first++args++cap),marks:=[]} {E with lo:=none}with
      |none=>rw[a]at h;cases h
      |some q=>grind [qX]
     grind
    grind
  ·exact asX h
  grind
 obtain⟨n,b⟩:=key;exact QF (n:=n+1) _ _ _ _ (by trivial)
def QJ(b:fz X B av)(c:pG P X)(d: ∀f p,X.bZ f=some p->gj P B av f p):fP P B av (D X):=by
 intro fv args E e h;obtain⟨n,a⟩:=y7 h;exact abm b c d n fv args E e a
end
def Ja:Value->Prop
 |.slice (some a) _ _=>a.spot=none
 |_=>True
section
variable{H:Type}{enc:TypeId×Value->H}{P:Program}{w:World}{sp:Nat->Bool}{held:Bool}
def QK(R:TypeId->DataW H->lA->Prop):List Field->List (DataW H)->lA->Prop
 | [],e,xs=>e=[]/\xs=[]
 |x::r,e,xs=> ∃d c a b,e=d::c/\xs=a++b/\R x.type d a/\QK R r c b
def gk(P:Program):Nat->TypeId->DataW H->lA->Prop
 |0,_,_,_=>False
 |f+1,t,d,xs=>match P.underlying t with
  |some .bool=> ∃b,d= .lit (.bool b)/\xs=[.bool b]
  |some (.int k)=> ∃n,d= .lit (.int k n)/\xs=[.int k n]/\ (Lit.int k n).wf=true
  |some .string=> ∃s:ByteArray,d= .lit (.string s.data.toList)/\xs=[.str s]/\s.size<=maxLen
  |some (.slice e)=>(d= .nil/\xs=[.ai])\/ ∃ (es rest:List (DataW H)) (af:List lA),d= .slice es rest/\xs=[.sl af false]/\es.length=af.length/\af.length<=maxLen/\
    ∀ (i:Nat) (a:DataW H) (b:lA),es[i]?=some a->af[i]?=some b->b.length=P.cellsOf e/\gk P f e a b
  |some (.struct fs)=> ∃c,d= .agg c/\QK (gk P f) fs.toList c xs
  |some (.array n e)=> ∃ (c:List (DataW H)) (af:List lA),d= .agg c/\xs=af.flatten/\c.length=n/\af.length=n/\ ∀ (i:Nat) (a:DataW H) (b:lA),c[i]?=some a->af[i]?=some b->gk P f e a b
  |_=>False
def Bh(P:Program)(g:TypeId->Bool):List Field->Nat->Nat->Bool
 | [],off,n=>off==n
 |x::r,off,n=>x.offset==off&&g x.type&&Bh P g r (off+P.cellsOf x.type) n
def Bi(P:Program)(nest:Bool):Nat->TypeId->Bool
 |0,_=>false
 |f+1,t=>match P.underlying t with
  |some .bool=>true
  |some (.int _)=>true
  |some .string=>true
  |some (.slice e)=>nest&&Bi P nest f e
  |some (.struct fs)=>Bh P (Bi P nest f) fs.toList 0 (P.cellsOf t)
  |some (.array n e)=>Bi P nest f e&&P.cellsOf t==n*P.cellsOf e
  |_=>false
def abq(w:World)(b o:Nat):Option Value:=if b<w.heap.size then w.cell? ⟨b,o,none⟩else none
def asY{b o:Nat}{v:Value}(h:w.cell? ⟨b,o,none⟩=some v):abq w b o=some v:=by
 unfold abq;rw[aaR,h];unfold World.cell? at h
 grind
def abr{a:Addr}(h:a.spot=none)(n:Nat):a.add n=⟨a.block,a.off+n,none⟩:=by
 unfold Addr.add;split
 ·obtain⟨b,o,s⟩:=a;grind
 ·rfl
def asZ{a:Addr}(e:a.spot=none){c:Nat}{cs:List Value}(h:w.cells? 0 (a.add k) c=some cs):cs.length=c/\ ∀ (j:Nat) (v:Value),cs[j]?=some v->w.cell? ⟨a.block,a.off+k+j,none⟩=some v:=by
 have b:=mapM_some_length h;rw[awZ]at b;refine⟨b,λj v d=>?_⟩;have:=mapM_some_get h j j (by grind);rw[d]at this;rw[abr e,abr rfl]at this;omega
def abt{e:TypeId}{R:DataW H->lA->Prop}{a:Addr}(A:a.spot=none)
  (D: ∀ (cs:List Value) d ps,(∀ (j:Nat) (v:Value),cs[j]?=some v-> ∃o,w.cell? ⟨a.block,o,none⟩=some v)->DataW.trod enc P w 0 sp held n e cs=some (d,ps)-> ∃xs,R d xs/\aD (Gh.start w) xs cs/\Leaves cs/\xs.length=cs.length)
  {es:List (DataW H×List MemPlace)} (len:Nat) (M:len<=es.length)
  (h: ∀i,i<len->(w.cells? 0 (a.add (i*P.cellsOf e)) (P.cellsOf e)).bind (DataW.trod enc P w 0 sp held n e)=es[i]?):
  ∃ (af:List lA) (vs:List Value),af.length=len/\ (∀ (i:Nat) (x:DataW H×List MemPlace) (b:lA),es[i]?=some x->af[i]?=some b->b.length=P.cellsOf e/\R x.1 b)/\aD (Gh.start w) af.flatten vs/\Leaves vs/\vs.length=len*P.cellsOf e/\qR (Gh.start w) a.block a.off vs:=by
 induction len with
 |zero=>exact⟨[],[],rfl,λi x b _ f=>by grind,rfl,λv c=>by grind,by simp,λj v c=>by grind⟩
 |succ m y=>
  obtain⟨af,vs,q,J,I,G,F,E⟩:=y (by omega) (λi p=>h i (by omega));have hm:=h m (auE m);have g:es[m]?=some es[m]:=abe (by omega);rw[g,aqj]at hm;obtain⟨cs,C,z⟩:=hm;obtain⟨K,r⟩:=asZ A C;obtain⟨xs,u,t,s,L⟩:=D cs es[m].1 es[m].2 (λj v c=>⟨_,r j v c⟩) z;refine⟨af++[xs],vs++cs,by simp[q],λi x b k f=>?_,by rw[apZ];simpa using I.append t,G.append s,by simp[F,K,asr],λj v c=>?_⟩
  ·by_cases p:i<af.length
   ·rw[aaF p]at f;exact J i x b k f
   ·have l:=(aaG.1 f).1;rw[ahU,atZ]at l;have:i=m:=by omega
    subst this;rw[ajE (by omega),q,Nat.sub_self]at f;simp only[atT,aaQ]at f;rw[g]at k;cases k;cases f;exact⟨by omega,u⟩
  ·by_cases B:j<vs.length
   ·rw[aaF B]at c;exact E j v c
   ·rw[ajE (by omega)]at c;have:=r _ _ c;have e1:a.off+m*P.cellsOf e+(j-vs.length)=a.off+j:=by omega
    rw[e1]at this;exact asY this
theorem QL{n:Nat}{R:TypeId->DataW H->lA->Prop}{g:TypeId->Bool}{cs:List Value}
  (m: ∀t c d ps,g t=true->(∀v∈c,v∈cs)->DataW.trod enc P w 0 sp held n t c=some (d,ps)-> ∃xs,R t d xs/\aD (Gh.start w) xs c/\Leaves c/\xs.length=c.length)
  (N:Nat) (s:cs.length=N):
  ∀ (fs:List Field) (ys:List (DataW H×List MemPlace)) (off:Nat),Bh P g fs off N=true->ys.length=fs.length->(∀ (i:Nat) (f:Field),fs[i]?=some f->DataW.trod enc P w 0 sp held n f.type ((cs.drop f.offset).take (P.cellsOf f.type))=ys[i]?)->
    ∃xs,QK R fs (ys.map (·.1)) xs/\aD (Gh.start w) xs (cs.drop off)/\Leaves (cs.drop off)/\xs.length=(cs.drop off).length
 | [],ys,off,j,k,_=>by
   simp only[Bh,aup]at j;have:cs.drop off=[]:=ajX (by omega);rw[this];cases ys with
   |nil=>exact⟨[],⟨rfl,rfl⟩,rfl,λv l=>by grind,rfl⟩
   |cons _ _=>grind
 |x::r,ys,off,j,k,h=>by
  simp only[Bh,ajI,aup]at j;obtain⟨⟨rfl,q⟩,hr⟩:=j;cases ys with
  |nil=>grind
  |cons y ys=>
   have o:=h 0 x rfl;simp only[atT]at o;obtain⟨a,F,E,D,C⟩:=m x.type _ y.1 y.2 q (λv l=>aqw (ajY l)) o;obtain⟨b,B,A,z,u⟩:=QL m N s r ys (x.offset+P.cellsOf x.type) hr (by simpa using k) (λi f p=>by have:=h (i+1) f p;simpa using this);have e:cs.drop x.offset=(cs.drop x.offset).take (P.cellsOf x.type)++cs.drop (x.offset+P.cellsOf x.type):=by
    rw[<-arY];exact(aqr _ _).symm
   refine⟨a++b,⟨y.1,ys.map (·.1),a,b,rfl,rfl,F,B⟩,?_,?_,?_⟩
   ·rw[e];exact E.append A
   ·rw[e];exact D.append z
   ·rw[e,ahU,ahU,C,u]
def abu{e:TypeId}{R:DataW H->lA->Prop}{cs:List Value}
  (A: ∀ (c:List Value) d ps,(∀v∈c,v∈cs)->DataW.trod enc P w 0 sp held n e c=some (d,ps)-> ∃xs,R d xs/\aD (Gh.start w) xs c/\Leaves c/\xs.length=c.length)
  {ys:List (DataW H×List MemPlace)} (k:Nat) (z:k*P.cellsOf e<=cs.length) (F:k<=ys.length) (h: ∀i,i<k->DataW.trod enc P w 0 sp held n e ((cs.drop (i*P.cellsOf e)).take (P.cellsOf e))=ys[i]?):
  ∃af:List lA,af.length=k/\ (∀ (i:Nat) (x:DataW H×List MemPlace) (b:lA),ys[i]?=some x->af[i]?=some b->R x.1 b)/\aD (Gh.start w) af.flatten (cs.take (k*P.cellsOf e))/\Leaves (cs.take (k*P.cellsOf e))/\af.flatten.length=k*P.cellsOf e:=by
 induction k with
 |zero=>exact⟨[],rfl,λi x b _ a=>by grind,by simp[aD],λv l=>by grind,by simp⟩
 |succ m y=>
  rw[asr]at z;obtain⟨af,p,E,D,C,B⟩:=y (by omega) (by omega) (λi o=>h i (by omega));have hm:=h m (auE m);have g:ys[m]?=some ys[m]:=abe (by omega);rw[g]at hm;obtain⟨xs,u,t,s,r⟩:=A _ ys[m].1 ys[m].2 (λv l=>aqw (ajY l)) hm;have f:xs.length=P.cellsOf e:=by rw[r,ajM,apj];omega
  have q:cs.take ((m+1)*P.cellsOf e)=cs.take (m*P.cellsOf e)++(cs.drop (m*P.cellsOf e)).take (P.cellsOf e):=by rw[asr,List.take_add]
  refine⟨af++[xs],by simp[p],λi x b f a=>?_,by rw[q,apZ];simpa using D.append t,by rw[q];exact C.append s,by rw[apZ,ahU,B,asr];simp[f]⟩;by_cases o:i<af.length
  ·rw[aaF o]at a;exact E i x b f a
  ·have j:=(aaG.1 a).1;rw[ahU,atZ]at j;have:i=m:=by omega
   subst this;rw[ajE (by omega),p,Nat.sub_self]at a;simp only[atT,aaQ]at a;rw[g]at f;cases f;cases a;exact u
theorem Jb{nest:Bool}(G:nest=true-> ∀b o v,w.cell? ⟨b,o,none⟩=some v->Ja v): ∀ (f:Nat) (t:TypeId) (n:Nat) (cs:List Value) (d:DataW H) (ps:List MemPlace),Bi P nest f t=true->(nest=true-> ∀v∈cs,Ja v)->
  DataW.trod enc P w 0 sp held n t cs=some (d,ps)-> ∃xs,gk P f t d xs/\aD (Gh.start w) xs cs/\Leaves cs/\xs.length=cs.length
 |0,_,_,_,_,_,hr,_,_=>by trivial
 |f+1,t,n,cs,d,ps,hr,B,h=>by
  unfold Bi at hr;unfold gk;cases A:P.underlying t with
  |none=>grind
  |some td=>
   rw[A]at hr;cases td with
   |bool=>
    obtain⟨b,rfl,l⟩:=DataW.trod_bool A h;cases l;exact⟨[.bool b],⟨b,rfl,rfl⟩,aD.single.2 rfl,λv g=>by simp at g;subst g;rfl,rfl⟩
   |int k=>
    obtain⟨b,rfl,l,Q⟩:=DataW.trod_int A h;cases l;exact⟨[.int k b],⟨b,rfl,rfl,Q⟩,aD.single.2 rfl,λv g=>by simp at g;subst g;rfl,rfl⟩
   |string=>
    obtain⟨s,rfl,l,hs⟩:=DataW.trod_string A h;cases l;exact⟨[.str s],⟨s,rfl,rfl,hs⟩,aD.single.2 rfl,λv g=>by simp at g;subst g;rfl,rfl⟩
   |slice e=>
    simp only[ajI]at hr;obtain⟨C,hr⟩:=hr;rcases DataW.trod_slice A h with⟨rfl,l⟩| ⟨a,len,cap,es,rest,m,rfl,rfl,l,_,hlc,hcm,U,T,_,_⟩
    ·cases l;exact⟨[.ai],.inl ⟨rfl,rfl⟩,aD.single.2 rfl,λv g=>by simp at g;subst g;rfl,rfl⟩
    ·cases l;have hs:a.spot=none:=B C _ (List.mem_singleton_self _);obtain⟨af,vs,N,M,L,K,Y,h6⟩:=abt (R:=gk P f e) hs (λc F p r q=>Jb G f e m c F p hr (λ_ v g=>by
      obtain⟨j,J⟩:=auB.1 g;obtain⟨o,ho⟩:=r j v J;exact G C _ _ _ ho) q) len (by omega) T
     refine⟨[.sl af false],.inr ⟨es.map (·.1),rest.map (·.1),af,rfl,rfl,by simp[U,N],by omega,λi x b l W=>?_⟩,aD.single.2 ?_,λv g=>by simp at g;subst g;rfl,rfl⟩
     ·rw[ajP,ah3]at l;obtain⟨y,O,rfl⟩:=l;exact M i y b O W
     ·refine⟨a.block,a.off,cap,P.cellsOf e,vs,?_,by omega,(λr=>absurd r (by decide)),λel E=>?_,h6,K,br.iff.2 L⟩
      ·rw[N];obtain⟨b,o,s⟩:=a;simp at hs;subst hs;rfl
      ·obtain⟨j,J⟩:=auB.1 E;have hjl:=(aaG.1 J).1;exact(M j es[j] el (abe (by omega)) J).1
   |struct fs=>
    obtain⟨ys,m,rfl,l,I,z,u⟩:=DataW.trod_struct A h;cases l;obtain⟨xs,x1,x2,x3,Z⟩:=QL (R:=gk P f) (cs:=cs) (λt' c F p hg r q=>Jb G f t' m c F p hg (λC v g=>B C v (r v g)) q) _ I fs.toList ys 0 hr (by simpa using z) (λi fl hi=>u i fl (by simpa using hi));exact⟨xs,⟨_,rfl,x1⟩,by simpa using x2,by simpa using x3,by simpa using Z⟩
   |array k e=>
    simp only[ajI,aup]at hr;obtain⟨S,r⟩:=hr;obtain⟨ys,m,rfl,l,I,z,u⟩:=DataW.trod_array A h;cases l;obtain⟨af,N,M,L,K,Y⟩:=abu (R:=gk P f e) (cs:=cs) (λc F p V q=>Jb G f e m c F p S (λC v g=>B C v (V v g)) q) k (by rw[I,r];exact ahT _) (by omega) u;have D:k*P.cellsOf e=cs.length:=by rw[I,r]
    rw[D,aiv]at L K;exact⟨af.flatten,⟨_,af,rfl,rfl,by simpa using z,N,λi a b X W=>by
     rw[ajP,ah3]at X;obtain⟨y,O,rfl⟩:=X;exact M i y b O W⟩,L,K,by rw[Y,D]⟩
   |_=>cases hr
theorem abv{W j:World}(g:laidOutB P=true)(i:Below W.heap.size W j): ∀ {ts:List TypeId} {vs:List Value} {e:List (DataW H)} {ps:List MemPlace},(ts.all λt=>P.readableRec t&&decide (t<P.types.size))=true->
  DataW.TrodAll enc P W 0 (λ_=>true) true ts vs e ps->(∀x∈ps,x.block<W.heap.size)->DataW.TrodAll enc P j 0 (λb=>decide (b<W.heap.size)) true ts vs e ps
 | [],[],[],_,_,h,_=>h
 |t::ts,v::vs,d::e,ps,c,h,f=>by
  simp only[auK,ajI,alb]at c;obtain⟨p,q,l,k,rfl⟩:=h;exact⟨p,q,Below.trod g c.1.1 c.1.2 l i (λx a=>f x (List.mem_append_left _ a)),abv g i (by grind) k (λx a=>f x (List.mem_append_right _ a)),rfl⟩
 | [],[],_::_,_,_,h,_=>h.elim
 | [],_::_,_,_,_,h,_=>h.elim
 |_::_,[],_,_,_,h,_=>h.elim
 |_::_,_::_,[],_,_,h,_=>h.elim
end
def as2{P:Program}{X:Ctx}(n:fz X w.heap.size w)(r:pG P X)(s: ∀f p,X.bZ f=some p->gj P w.heap.size w f p){fn:Func}(j:P.funcs[f]?=some fn)(q:fn.body.isSome=true)
  (d: (fn.name== "runtime.NumGoroutine")=false) {args:lA} {a:Array Value} (m:aD (Gh.start w) args a.toList)  {l:AS} (h:D X (.fn (.func f) [] []) args ⟨[],none⟩=some (.ret v l)):
  Calls P f a w λe w'=> ∃G v',e= .returned v'/\an G v v'/\Below w.heap.size w w':=by
 have k:=QJ n r s _ _ _ _ h (Gh.start w) w (.func (.func f) #[] #[]) a (.start w) ⟨_,_,_,rfl,rfl,rfl,rfl⟩ m;have b: (wI (.func (.func f) #[] #[]) a).run P w= .ok (.enter f a) w:=by
  have g: ¬fn.name= "runtime.NumGoroutine" :=by grind
  obtain⟨c,o⟩:=aul.1 q;simp[wI,Deferred.ofValue,invoke,callFunc,atV,j,g,o]
 rw[b]at k;have i:CallsIn Fence.wide 0 P f a w (Ends P w.heap.size w (Gh.start w) {heap:=[],lo:=none} (.ret v l)):=k;refine callsIn_wide.1 (i.mono λe w' he=>?_);cases e with
 |returned v'=>
  obtain⟨x,y,u,t,_⟩:=he;exact⟨x,v',rfl,t,u.lV⟩
 |panicked _=>trivial
 |outgrown=>trivial
section
abbrev bU:=Ex->Fr->AS->Prop
variable(X:Ctx)
def wp(f:FuncId)(rd:Bool)(c:PC)(fr:Fr)(E:AS)(Q:bU):Prop:=
 ∃ex a b,a0 X (D X) Lw f rd c fr E=some (ex,a,b)/\Q ex a b
def dv(os:List aP)(fr:Fr)(E:AS)(Q:bU):Prop:=
 ∃ex a b,eN X (D X) os fr E=some (ex,a,b)/\Q ex a b
def gw(b:List FP)(os:List (aP×lN))(fr:Fr)(E:AS)(Q:bU):Prop:=
 ∃ex a c,gh X (D X) b os fr E=some (ex,a,c)/\Q ex a c
def qY(K Kp:AV->AS->Prop):Option Out->Prop
 |some (.ok v E)=>K v E
 |some (.panic v E)=>Kp v E
 |none=>False
def aQ(i:I)(e:Env)(E:AS)(K Kp:AV->AS->Prop):Prop:=qY K Kp (exec X (D X) i e E)
def EB(f:FuncId)(rd:Bool)(b:PC)(Q:bU):bU
 |.normal,fr,E=>wp X f rd b fr E Q
 |ex,fr,E=>Q ex fr E
def y9(id:Nat)(Q:bU):bU
 |.exit i,fr,E=>if i=id then Q .normal fr E else Q (.exit i) fr E
 |ex,fr,E=>Q ex fr E
def Jc(K Kp:AV->AS->Prop):Option aS->Prop
 |some (.ret v E)=>K v E
 |some (.panic v E)=>Kp v E
 |none=>False
def dw(n:Nat)(lo:oN)(b:List RV)(R:aS->Prop):bU
 |.normal,fr,E|.ret,fr,E=> ∃a v,dJ E fr.marks=some a/\fy X a fr.env b=some v/\R (.ret (finish n lo v a).1 (finish n lo v a).2)
 |.panic v,fr,E=> ∃a,dJ E fr.marks=some a/\R (.panic (finish n lo v a).1 (finish n lo v a).2)
 |.exit _,_,_=>False
def Jd(c:AV)(b:Bool)(A B:Prop):Prop:=
 match c with
 |.bool t=>(t=b->A)/\ (t=(!b)->B)
 |_=>False
variable{X}{f:FuncId}{rd:Bool}{fr:Fr}{E:AS}{Q:bU}{e:Env}{ms:lN}{K Kp:AV->AS->Prop}
def aF1{a:Ex}{b:Fr}{c:AS}: (∃ex d g,(some (a,b,c):jk)=some (ex,d,g)/\Q ex d g)↔Q a b c:=
 by grind
def za(c:AV)(b:Bool)(A B C:Prop):Prop:=
 match c with
 |.bool t=>(t=b->A)/\ (t=(!b)->B)
 |_=>C
def wp_skip:wp X f rd .skip fr E Q=Q .normal fr E:=propext (by simp only[wp,a0];grind)
def wp_exit{id:Nat}:wp X f rd (.exit id) fr E Q=Q (.exit id) fr E:=propext (by simp only[wp,a0];grind)
def wp_ret:wp X f rd .ret fr E Q=Q .ret fr E:=propext (by simp only[wp,a0];grind)
def wp_seq{a:PC}:wp X f rd (.seq a b) fr E Q=wp X f rd a fr E (EB X f rd b Q):=by
 apply propext;simp only[wp,a0];constructor
 ·rintro⟨ex,d,j,h,c⟩;split at h
  ·rename_i g i k;exact⟨_,_,_,k,ex,d,j,h,c⟩
  ·refine⟨_,_,_,h,?_⟩;cases ex with
   |normal=>grind
   |_=>exact c
 ·rintro⟨ex,d,j,h,c⟩;rw[h];cases ex with
  |normal=>exact c
  |exit _=>exact⟨_,_,_,rfl,c⟩
  |ret=>exact⟨_,_,_,rfl,c⟩
  |panic _=>exact⟨_,_,_,rfl,c⟩
def wp_block{id:Nat}:wp X f rd (.block id b) fr E Q=wp X f rd b fr E (y9 id Q):=by
 apply propext;simp only[wp,a0];constructor
 ·rintro⟨ex,c,d,h,a⟩;split at h
  ·simp only[y9]
   grind
  ·refine⟨_,_,_,h,?_⟩;cases ex with
   |exit i=>grind
   |_=>exact a
 ·rintro⟨ex,c,d,h,a⟩;rw[h];cases ex with
  |normal=>exact⟨_,_,_,rfl,a⟩
  |exit i=>
   simp only[y9]at a
   grind
  |ret=>exact⟨_,_,_,rfl,a⟩
  |panic _=>exact⟨_,_,_,rfl,a⟩
def wp_cond{c:ao}{a:PC}:wp X f rd (.cond c a b) fr E Q=Jd (c.get fr.env) true (wp X f rd a fr E Q) (wp X f rd b fr E Q):=by
 apply propext;simp only[wp,a0,Jd];constructor
 ·grind
 ·intro h;cases d:c.get fr.env<;>rw[d]at h<;>simp only at h<;>try rfl
  rename_i t;cases t
  ·grind
  grind
theorem QM{os:List aP}:wp X f rd (.aL os) fr E Q=dv X os fr E Q:=by rfl
theorem as3{os:List (aP×lN)}:wp X f rd (.uP os) fr E Q=gw X [] (gW E.heap.length os) fr (E.mA (dy os)) Q:=by rfl
def wp_loop{S:Type}(I:S->Fr->AS->Prop)(μ:S->Nat)(s:S)(j:I s fr E)
  (i: ∀s fr E,I s fr E->wp X f rd b fr E (λex a c=>match ex with|.normal=> ∃d,μ d<μ s/\I d a c|ex=>Q ex a c)):wp X f rd (.loop b) fr E Q:=by
 have key: ∀n s fr E,μ s<n->I s fr E-> ∃ex a c,Lw (a0 X (D X) Lw f rd b) fr E=some (ex,a,c)/\Q ex a c:=by
  intro n
  induction n with
  |zero=>simp
  |succ n k=>
   intro s fr E l h;obtain⟨ex,a,c,hr,g⟩:=i s fr E h;rw[asW,hr]
   grind
 obtain⟨ex,a,c,hr,g⟩:=key _ s fr E (auE _) j;exact⟨ex,a,c,by trivial,g⟩
def wp_mono{c:PC}{d:bU}(h:wp X f rd c fr E Q)(g: ∀ex fr E,Q ex fr E->d ex fr E):wp X f rd c fr E d:=by
 obtain⟨ex,b,i,hr,a⟩:=h;exact⟨ex,b,i,hr,g _ _ _ a⟩
theorem abw:EB X f rd b Q .normal fr E=wp X f rd b fr E Q:=rfl
theorem abx:EB X f rd b Q (.exit i) fr E=Q (.exit i) fr E:=rfl
theorem aby:EB X f rd b Q .ret fr E=Q .ret fr E:=rfl
theorem abz:EB X f rd b Q (.panic v) fr E=Q (.panic v) fr E:=rfl
theorem abA{id:Nat}:y9 id Q .normal fr E=Q .normal fr E:=rfl
theorem abB{id:Nat}:y9 id Q (.exit i) fr E=if i=id then Q .normal fr E else Q (.exit i) fr E:=rfl
theorem abC{id:Nat}:y9 id Q .ret fr E=Q .ret fr E:=rfl
theorem abD{id:Nat}:y9 id Q (.panic v) fr E=Q (.panic v) fr E:=rfl
theorem wN{b:List RV}{R:aS->Prop}:dw X n lo b R .ret fr E= ∃a v,dJ E fr.marks=some a/\fy X a fr.env b=some v/\R (.ret (finish n lo v a).1 (finish n lo v a).2):=rfl
theorem Je{t b:Bool}{A B:Prop}:Jd (.bool t) b A B=((t=b->A)/\ (t=(!b)->B)):=rfl
theorem abE:Jc K Kp (some (.ret v E))=K v E:=rfl
theorem abF:Jc K Kp (some (.panic v E))=Kp v E:=rfl
def abG:dv X [] fr E Q=Q .normal fr E:=propext (by simp only[dv,eN];grind)
theorem Fr.abH{d:Nat}:Fr.put ⟨e,ms⟩ (some d) v=⟨e.set d v,ms⟩:=rfl
theorem Fr.abI:Fr.put ⟨e,ms⟩ none v=⟨e,ms⟩:=rfl
def QN{i:I}{os:List aP}:dv X (⟨none,d,i⟩::os) fr E Q=aQ X i fr.env E (λv a=>dv X os (fr.put d v) a Q) (λv a=>Q (.panic v) fr a):=by
 simp only[dv,aQ,eN,fS,ajQ];cases b:exec X (D X) i fr.env E with
 |none=>simp[qY]
 |some o=>
  cases o with
  |ok v a=>rfl
  |panic v a=>simp only[qY];grind
def Env.QO{e:Env}:e.set t (e t)=e:=by
 unfold Env.set;grind
def abJ{b:Bool}{i:I}{os:List aP}:dv X (⟨some (t,b),d,i⟩::os) ⟨e,ms⟩ E Q=
  za (e t) b (aQ X i (e.set t (.bool b)) E (λv l=>dv X os (Fr.put ⟨e.set t (.bool b),ms⟩ d v) l Q) (λv l=>Q (.panic v) ⟨e.set t (.bool b),ms⟩ l))
   (dv X os (Fr.put ⟨e.set t (.bool (!b)),ms⟩ d .undef) E Q) (dv X os (Fr.put ⟨e,ms⟩ d .undef) E Q):=by
 cases g:e t with
 |bool c=>
  have p:c=b->dv X (⟨some (t,b),d,i⟩::os) ⟨e,ms⟩ E Q=dv X (⟨none,d,i⟩::os) ⟨e,ms⟩ E Q:=by
   intro h;subst h;simp only[dv,eN,fS,g,beq_self_eq_true,ajQ]
  have o:c=(!b)->dv X (⟨some (t,b),d,i⟩::os) ⟨e,ms⟩ E Q=dv X os (Fr.put ⟨e,ms⟩ d .undef) E Q:=by
   intro h;subst h;have: ((!b)==b)=false:=by simp
   simp only[dv,eN,fS,g,this,ah2,ak8]
  have m:e.set t (.bool c)=e:=by rw[<-g];exact Env.QO
  apply propext;simp only[za];by_cases j:c=b
  ·have n: ¬c=(!b):=by subst j;cases c<;>simp
   rw[p j,QN];subst j;rw[m];exact⟨λh=>⟨λ_=>h,λk=>absurd k n⟩,λh=>h.1 rfl⟩
  ·have a:c=(!b):=by cases c<;>cases b<;>simp_all
   rw[o a,<-a,m];exact⟨λh=>⟨λk=>absurd k j,λ_=>h⟩,λh=>h.2 rfl⟩
 |_=>simp only[dv,eN,fS,g,za,ah2,ak8]
theorem QP{f:FuncId}{first cap args:lA}{H:List ae}{R:aS->Prop}(j:X.bZ f=none)(l:X.code f=some pf)(m: (first++args++cap).length<=pf.ntmps)
  (h:wp X f false pf.body ⟨dc (first++args++cap),[]⟩ ⟨H,none⟩ (dw X H.length lo pf.results R)): ∃b,D X (.fn (.func f) first cap) args ⟨H,lo⟩=some b/\R b:=by
 obtain⟨ex,fr,E,hr,g⟩:=h;have key: ∀b,leave X H.length lo pf (some (ex,fr,E))=some b->D X (.fn (.func f) first cap) args ⟨H,lo⟩=some b:=by
  intro b k;refine I9 ?_;simp only[step,j,l]
  grind
 cases ex with
 |normal=>obtain⟨a,v,d,i,c⟩:=g;exact⟨_,key _ (by simp only[leave,qQ,d,i]),c⟩
 |ret=>obtain⟨a,v,d,i,c⟩:=g;exact⟨_,key _ (by simp only[leave,qQ,d,i]),c⟩
 |panic v=>obtain⟨a,d,c⟩:=g;exact⟨_,key _ (by simp only[leave,d]),c⟩
 |exit _=>trivial
theorem abK{f:FuncId}{first cap args:lA}{H:List ae}{a:aS}(b:X.bZ f=none)(d:X.code f=some pf)(c: (first++args++cap).length<=pf.ntmps)
 (h:wp X f false pf.body ⟨dc (first++args++cap),[]⟩ ⟨H,none⟩ (dw X H.length lo pf.results (· =a))):D X (.fn (.func f) first cap) args ⟨H,lo⟩=some a:=by grind [QP]
end
section
variable{X:Ctx}{f:FuncId}{rd:Bool}{fr:Fr}{E:AS}{Q:bU}{e:Env}{ms:lN}{K Kp:AV->AS->Prop}
def cW{α:Type}(r:Option α)(K:α->Prop):Prop:=
 match r with
 |some a=>K a
 |none=>False
def abL{g:ao}{as:List ao}:aQ X (.call g as) e E K Kp=Jc K Kp (D X (g.get e) (as.map (·.get e)) E):=by
 simp only[aQ,exec];cases D X (g.get e) (as.map (·.get e)) E with
 |none=>rfl
 |some r=>cases r<;>rfl
def jn{r:Option AV}:qY K Kp (fO E r)=cW r (λv=>K v E):=by cases r<;>rfl
def k9(c:BinOp)(x y:AV):Option AV:=match x,y with
 |.int k a,.int _ b=>wC c k a b
 |_,_=>none
theorem aF2:aQ X (.mov x) e E K Kp=(K (x.get e) E):=by
 rfl
def as4{c:ao}{a:ao}{b:ao}:aQ X (.pick c a b) e E K Kp=(cW (match c.get e with|.bool t=>some t|_=>none) λt=>K (if t then a.get e else b.get e) E):=by
 simp only[aQ,exec];cases c.get e<;>rfl
theorem aF3:aQ X (.alloc z tg) e E K Kp=(K (.ptr E.heap.length 0) (E.push (.box z tg))):=by
 rfl
def as5:aQ X (.box x tg) e E K Kp=(((x.get e).cn=false/\K (.ptr E.heap.length 0) (E.push (.box (x.get e).cells tg)))):=by
 simp only[aQ,exec];cases h: (x.get e).cn<;>simp[qY]
def as6{a:List (Nat×Nat×ao)}:aQ X (.build z a) e E K Kp=(cW (eo z (a.map λp=>(p.1,p.2.1,p.2.2.get e))) λcs=>K (.agg cs) E):=by
 simp only[aQ,exec];cases eo z (a.map λp=>(p.1,p.2.1,p.2.2.get e))<;>rfl
def as7{len:Nat}{a:List (Nat×Nat×ao)}:aQ X (.bslice z len a) e E K Kp=(cW (eo (List.replicate len z).flatten (a.map λp=>(p.1,p.2.1,p.2.2.get e))) λcs=>K (.sl (chunks z.length len cs) true) E):=by
 simp only[aQ,exec];cases eo (List.replicate len z).flatten (a.map λp=>(p.1,p.2.1,p.2.2.get e))<;>rfl
def as8{ty:TypeId}{len:Nat}{a:List (Nat×Nat×ao)}:aQ X (.sv ty z len a) e E K Kp=(cW (eo (List.replicate len z).flatten (a.map λp=>(p.1,p.2.1,p.2.2.get e))) λcs=>K (.ref E.heap.length 0 z.length 0 len false) (E.push (.row 0 z.length ty (chunks z.length len cs)))):=by
 simp only[aQ,exec];cases eo (List.replicate len z).flatten (a.map λp=>(p.1,p.2.1,p.2.2.get e))<;>rfl
theorem as9{agg:Bool}{a:ao}:aQ X (.load agg n a) e E K Kp=(cW (cb X E agg n (a.get e)) λv=>K v E):=by
 simp only[aQ,exec,jn]
theorem ata{a:ao}{v:ao}:aQ X (.store n a v) e E K Kp=(cW (j4 E n (a.get e) (v.get e)) λb=>K .undef b):=by
 simp only[aQ,exec];cases j4 E n (a.get e) (v.get e)<;>rfl
theorem atb:aQ X (.nilck x) e E K Kp=(cW (wG (x.get e)) λv=>K v E):=by
 simp only[aQ,exec,jn]
theorem atc{a:BinOp}:aQ X (.bin a x y) e E K Kp=(cW (dq a (x.get e) (y.get e)) λv=>K v E):=by
 simp only[aQ,exec,jn]
theorem atd{a:BinOp}:aQ X (.shf a x y) e E K Kp=(cW (k9 a (x.get e) (y.get e)) λv=>K v E):=by
 simp only[aQ,exec,k9];cases x.get e<;>first|rfl| (cases y.get e<;>first|rfl|exact jn)
def ate{k:EK}:aQ X (.eq k x y) e E K Kp=(cW (ep k (x.get e) (y.get e)) λb=>K (.bool b) E):=by
 simp only[aQ,exec];cases ep k (x.get e) (y.get e)<;>rfl
def atf{k:EK}:aQ X (.ne k x y) e E K Kp=(cW (ep k (x.get e) (y.get e)) λb=>K (.bool !b) E):=by
 simp only[aQ,exec];cases ep k (x.get e) (y.get e)<;>rfl
theorem atg{a:UnOp}:aQ X (.un a x) e E K Kp=(cW (yo a (x.get e)) λv=>K v E):=by
 simp only[aQ,exec,jn]
def ath{k:IntKind}:aQ X (.conv k x) e E K Kp=(cW (sw (x.get e)) λn=>K (.int k (k.wrap n)) E):=by
 simp only[aQ,exec];cases x.get e<;>rfl
def ati:aQ X (.s2b x) e E K Kp=(cW (match x.get e with|.str s=>if s.size<=room then some s else none|_=>none) λs=>K (.sl (sx s) false) E):=by
 simp only[aQ,exec];cases x.get e<;>first|rfl| (simp only[];split<;>rfl)
theorem aF4{t:TypeId}:aQ X (.mki t x) e E K Kp=(K (.di t (x.get e)) E):=by
 rfl
theorem aF5{f:Fn}{first:List ao}{cap:List ao}:aQ X (.mkf f first cap) e E K Kp=(K (.fn f (first.map (·.get e)) (cap.map (·.get e))) E):=by
 rfl
theorem aF6:aQ X (.oc) e E K Kp=(K (.mp E.heap.length) (E.push (.map []))):=by
 rfl
theorem atj{lo:Option ao}{a:Option ao}:aQ X (.slstr x lo a) e E K Kp=(cW (uQ (x.get e) (lo.map (·.get e)) (a.map (·.get e))) λv=>K v E):=by
 simp only[aQ,exec,jn]
theorem atk{lo:Option ao}{b:Option ao}{a:Option ao}:aQ X (.slsl n x lo b a) e E K Kp=(cW (gd n (x.get e) (lo.map (·.get e)) (b.map (·.get e)) (a.map (·.get e))) λv=>K v E):=by
 simp only[aQ,exec,jn]
theorem atl{lo:Option ao}{a:Option ao}:aQ X (.slarr n sz x lo a) e E K Kp=(cW (qN X n sz (x.get e) (lo.map (·.get e)) (a.map (·.get e))) λv=>K v E):=by
 simp only[aQ,exec,jn]
theorem atm:aQ X (.faddr n x) e E K Kp=(cW (wF X n (x.get e)) λv=>K v E):=by
 simp only[aQ,exec,jn]
def atn{agg:Bool}{off:Nat}:aQ X (.fld agg n off x) e E K Kp=(cW (match x.get e with|.agg cs=>part agg n cs off|_=>none) λv=>K v E):=by
 simp only[aQ,exec];cases x.get e<;>first|rfl|exact jn
theorem ato{i:ao}:aQ X (.iaddra n sz x i) e E K Kp=(cW (uR X n sz (x.get e) (i.get e)) λv=>K v E):=by
 simp only[aQ,exec,jn]
theorem atp{i:ao}:aQ X (.iaddrs sz x i) e E K Kp=(cW (j5 sz (x.get e) (i.get e)) λv=>K v E):=by
 simp only[aQ,exec,jn]
theorem atq{agg:Bool}{i:ao}:aQ X (.idxa agg n sz x i) e E K Kp=(cW (qP agg n sz (x.get e) (i.get e)) λv=>K v E):=by
 simp only[aQ,exec,jn]
theorem atr{i:ao}:aQ X (.idxs x i) e E K Kp=(cW (yp (x.get e) (i.get e)) λv=>K v E):=by
 simp only[aQ,exec,jn]
theorem ats{b:EK}{z:AV}{m:ao}{k:ao}{a:Bool}:aQ X (.lookup b z m k a) e E K Kp=(cW (gV X.fo E b z (m.get e) (k.get e) a) λv=>K v E):=by
 simp only[aQ,exec,jn]
theorem att{a:EK}{m:ao}{k:ao}{v:ao}:aQ X (.pA a m k v) e E K Kp=(cW (mz E a (m.get e) (k.get e) (v.get e)) λb=>K .undef b):=by
 simp only[aQ,exec];cases mz E a (m.get e) (k.get e) (v.get e)<;>rfl
theorem atu{z:AV}{t:TypeId}{a:Bool}:aQ X (.ta z x t a) e E K Kp=(cW (AN z (x.get e) t a) λv=>K v E):=by
 simp only[aQ,exec,jn]
def atv:aQ X (.ext x i) e E K Kp=(cW (match x.get e with|.au vs=>vs[i]?|_=>none) λv=>K v E):=by
 simp only[aQ,exec];cases x.get e<;>first|rfl|exact jn
theorem atw{k:EK}:aQ X (.len k x) e E K Kp=(cW (ft E k (x.get e)) λv=>K v E):=by
 simp only[aQ,exec,jn]
def atx{ty:TypeId}{bytes:Nat}{s:ao}:aQ X (.append ty sz bytes s x) e E K Kp=(cW (elems E sz (x.get e)) λys=>cW (dx E ty sz bytes (s.get e) ys) λp=>K p.1 p.2):=by
 simp only[aQ,exec];cases elems E sz (x.get e)with
 |none=>rfl
 |some ys=>simp only[cW];cases dx E ty sz bytes (s.get e) ys<;>rfl
theorem aty{d:ao}{s:ao}:aQ X (.copy sz d s) e E K Kp=(cW (sy E sz (d.get e) (s.get e)) λp=>K p.1 p.2):=by
 simp only[aQ,exec];cases sy E sz (d.get e) (s.get e)<;>rfl
theorem atz:aQ X (.clear z x) e E K Kp=(cW (sA E z (x.get e)) λa=>K .undef a):=by
 simp only[aQ,exec];cases sA E z (x.get e)<;>rfl
theorem atA{xs:List ao}:aQ X (.max xs) e E K Kp=(cW (gg qO (xs.map (·.get e))) λv=>K v E):=by
 simp only[aQ,exec,jn]
theorem atB{xs:List ao}:aQ X (.min xs) e E K Kp=(cW (gg wE (xs.map (·.get e))) λv=>K v E):=by
 simp only[aQ,exec,jn]
def atC:aQ X (.panic x) e E K Kp=(cW (match x.get e with|.di t v=>some (AV.di t v)|_=>none) λv=>Kp v E):=by
 simp only[aQ,exec];cases x.get e<;>rfl
def Jf(b:Bool)(v:AV)(e:Env)(t:Nat):AV:=match b with|true=>v|false=>e t
theorem abM:Jf true v e t=v:=rfl
theorem abN:Jf false v e t=e t:=rfl
def abO{d:Nat}: (e.set d v) t=Jf (d==t) v e t:=by
 unfold Env.set Jf
 grind
theorem Jg{t b:Bool}{A B C:Prop}:za (.bool t) b A B C=((t=b->A)/\ (t=(!b)->B)):=rfl
theorem push_mk{H:List ae}{o:ae}:AS.push ⟨H,lo⟩ o=⟨H++[o],lo⟩:=rfl
theorem set_mk{H:List ae}{id:Nat}{o:ae}:AS.set ⟨H,lo⟩ id o r=⟨H.set id o,if r<=id+1 then lo else cI lo id⟩:=rfl
end
section
variable{H L:List ae}{n k:Nat}
def dn(h:H.length=n): (H++L)[n]?=L[0]?:=by grind
def bw(h:H.length=n): (H++L)[n+k]?=L[k]?:=by grind
theorem EC{o:ae}(h:H.length=n): (H++L).set n o=H++L.set 0 o:=by grind
theorem nd{o:ae}(h:H.length=n): (H++L).set (n+k) o=H++L.set k o:=by grind
def mF(h:H.length=n): (H++L).take n=H:=by grind
end
def Jh{v':AV}{H:List ae}(a: (match ak with|none=>true|some j=>decide (n<=j))=true)(b:freeze ⟨H,ak⟩ n 12 v=some v'):finish n lo v ⟨H,ak⟩=(v',⟨H.take n,lo⟩):=by
 cases ak with
 |none=>simp[finish,b]
 |some j=>simp[finish,a,b]
def zb{E:AS}(h:v.refs<=n):freeze E n (k+1) v=some v:=by
 unfold freeze;grind
def abP{H:List ae}(a: (match ak with|none=>true|some j=>decide (n<=j))=true)(b:v.refs<=n):finish n lo v ⟨H,ak⟩=(v,⟨H.take n,lo⟩):=
 Jh a (zb b)
def wrap_i64{n:Int}(h: -9223372036854775808<=n)(a:n<=9223372036854775807):IntKind.wrap .i64 n=n:=by
 unfold IntKind.wrap IntKind.bits IntKind.signed;grind
def wrap_u64{n:Int}(h:0<=n)(a:n<=18446744073709551615):IntKind.wrap .u64 n=n:=by
 unfold IntKind.wrap IntKind.bits IntKind.signed;grind
def wrap_u32{n:Int}(h:0<=n)(a:n<=4294967295):IntKind.wrap .u32 n=n:=by
 unfold IntKind.wrap IntKind.bits IntKind.signed;grind
def wrap_i32{n:Int}(h: -2147483648<=n)(a:n<=2147483647):IntKind.wrap .i32 n=n:=by
 unfold IntKind.wrap IntKind.bits IntKind.signed;grind
def wrap_u16{n:Int}(h:0<=n)(a:n<=65535):IntKind.wrap .u16 n=n:=by
 unfold IntKind.wrap IntKind.bits IntKind.signed;grind
def wrap_u8{n:Int}(h:0<=n)(a:n<=255):IntKind.wrap .u8 n=n:=by
 unfold IntKind.wrap IntKind.bits IntKind.signed;grind
def S(l:lB):AV:=.str ⟨l.toArray⟩
theorem atD(l:lB): (⟨l.toArray⟩:ByteArray).size=l.length:=by rfl
def o(d:Nat)(i:I):aP:=⟨none,some d,i⟩
def u(i:I):aP:=⟨none,none,i⟩
def gt(t:Nat)(d:oN)(i:I):aP:=⟨some (t,true),d,i⟩
def gf(t:Nat)(d:oN)(i:I):aP:=⟨some (t,false),d,i⟩
def ci(n:Int):ao:=.c (.int .i64 n)
def cf(f:Nat):ao:=.c (.fn (.func f) [] [])
def eP(P:Program)(f:Nat)(pf:PF):Prop:= ∃rows fn,P.funcs[f]?=some fn/\DY P rows fn=some pf
section
variable{X:Ctx}{f:FuncId}{rd:Bool}{fr:Fr}{E:AS}{Q:bU}{e:Env}{ms:lN}{K Kp:AV->AS->Prop}
def atE{i:I}{os:List aP}:dv X (gt t d i::os) ⟨e,ms⟩ E Q=
 za (e t) true (aQ X i (e.set t (.bool true)) E (λv a=>dv X os (Fr.put ⟨e.set t (.bool true),ms⟩ d v) a Q) (λv a=>Q (.panic v) ⟨e.set t (.bool true),ms⟩ a))
  (dv X os (Fr.put ⟨e.set t (.bool false),ms⟩ d .undef) E Q) (dv X os (Fr.put ⟨e,ms⟩ d .undef) E Q):=abJ
def atF{i:I}{os:List aP}:dv X (gf t d i::os) ⟨e,ms⟩ E Q=
 za (e t) false (aQ X i (e.set t (.bool false)) E (λv a=>dv X os (Fr.put ⟨e.set t (.bool false),ms⟩ d v) a Q) (λv a=>Q (.panic v) ⟨e.set t (.bool false),ms⟩ a))
  (dv X os (Fr.put ⟨e.set t (.bool true),ms⟩ d .undef) E Q) (dv X os (Fr.put ⟨e,ms⟩ d .undef) E Q):=abJ
end
theorem abQ:ao.get e (.t i)=e i:=rfl
theorem abR:ao.get e (.c v)=v:=rfl
theorem abS{n:Int}:ao.get e (ci n)= .int .i64 n:=rfl
theorem abT{f:Nat}:ao.get e (cf f)= .fn (.func f) [] []:=rfl
def QQ{X:Ctx}(pf:PF){args:lA}{H:List ae}{a:aS}(b:X.bZ f=none)(g:X.code f=some pf)(c:Nat.ble args.length pf.ntmps=true)
 (h: ∀n,H.length=n->wp X f false pf.body ⟨dc args,[]⟩ ⟨H,none⟩ (dw X n lo pf.results (· =a))):D X (.fn (.func f) [] []) args ⟨H,lo⟩=some a:=by grind [Nat.le_of_ble_eq_true,abK]
def atG{X:Ctx}(pf:PF){args:lA}{H:List ae}{R:aS->Prop}(b:X.bZ f=none)(g:X.code f=some pf)(c:Nat.ble args.length pf.ntmps=true)
 (h: ∀n,H.length=n->wp X f false pf.body ⟨dc args,[]⟩ ⟨H,none⟩ (dw X n lo pf.results R)): ∃a,D X (.fn (.func f) [] []) args ⟨H,lo⟩=some a/\R a:=by simp_all[ass,QP]
theorem abU{X:Ctx}{E:AS}:fy X E e [.t t]=some (e t):=rfl
theorem atH{X:Ctx}{E:AS}{u:Nat}:fy X E e [.t t,.t u]=some (.au [e t,e u]):=rfl
theorem atI{X:Ctx}{E:AS}{u v:Nat}:fy X E e [.t t,.t u,.t v]=some (.au [e t,e u,e v]):=rfl
theorem wO{E:AS}:dJ E []=some E:=rfl
def ED(x:AV)(i:Nat):Option AV:=match x with|.au vs=>vs[i]?|_=>none
def abV(agg:Bool)(n off:Nat)(x:AV):Option AV:=match x with|.agg cs=>part agg n cs off|_=>none
def qZ(E:AS)(x:AV)(tg:Option TypeId):Option (AV×AS):=if x.cn=false then some (.ptr E.heap.length 0,E.push (.box x.cells tg))else none
def QR(z:lA)(a:List (Nat×Nat×AV)):Option AV:=(eo z a).map .agg
def QS(z:lA)(len:Nat)(a:List (Nat×Nat×AV)):Option AV:=(eo (List.replicate len z).flatten a).map λcs=>.sl (chunks z.length len cs) true
def QT(E:AS)(ty:TypeId)(z:lA)(len:Nat)(a:List (Nat×Nat×AV)):Option (AV×AS):=
 (eo (List.replicate len z).flatten a).map λcs=>(.ref E.heap.length 0 z.length 0 len false,E.push (.row 0 z.length ty (chunks z.length len cs)))
def abW(x:AV):Option AV:=match x with|.di t v=>some (.di t v)|_=>none
def Ji(x:AV):Option AV:=match x with|.str s=>if s.size<=room then some (.sl (sx s) false)else none|_=>none
section
variable(X:Ctx)
def kV(os:List aP)(d:Nat)(e:Env)(ms:lN)(Q:bU):AV->AS->Prop:=λv E=>dv X os ⟨e.set d v,ms⟩ E Q
def kU(os:List aP)(e:Env)(ms:lN)(Q:bU):AV->AS->Prop:=λ_ E=>dv X os ⟨e,ms⟩ E Q
def kP(e:Env)(ms:lN)(Q:bU):AV->AS->Prop:=λv E=>Q (.panic v) ⟨e,ms⟩ E
def okV(r:Option AV)(K:AV->AS->Prop)(E:AS):Prop:=match r with|some v=>K v E|none=>False
def wP(r:Option AS)(K:AV->AS->Prop):Prop:=match r with|some E=>K .undef E|none=>False
def sO(r:Option (AV×AS))(K:AV->AS->Prop):Prop:=match r with|some p=>K p.1 p.2|none=>False
def okB(r:Option Bool)(a:Bool)(K:AV->AS->Prop)(E:AS):Prop:=match r with|some b=>K (.bool (if a then !b else b)) E|none=>False
def okN(k:IntKind)(x:AV)(K:AV->AS->Prop)(E:AS):Prop:=match x with|.int _ n=>K (.int k (k.wrap n)) E|_=>False
def QU(c a b:AV)(K:AV->AS->Prop)(E:AS):Prop:=match c with|.bool t=>K (if t then a else b) E|_=>False
def abY(r:Option (List lA))(ty:TypeId)(sz bytes:Nat)(s:AV)(K:AV->AS->Prop)(E:AS):Prop:=match r with|some ys=>sO (dx E ty sz bytes s ys) K|none=>False
def ox(f:FuncId)(rd:Bool)(a b:PC)(fr:Fr)(E:AS)(Q:bU)(c:AV):Prop:=Jd c true (wp X f rd a fr E Q) (wp X f rd b fr E Q)
def gK(t:Nat)(b:Bool)(d:oN)(i:I)(os:List aP)(e:Env)(ms:lN)(E:AS)(Q:bU)(c:AV):Prop:=
 za c b (aQ X i (e.set t (.bool b)) E (match d with|some d=>kV X os d (e.set t (.bool b)) ms Q|none=>kU X os (e.set t (.bool b)) ms Q) (kP (e.set t (.bool b)) ms Q))
  (dv X os (Fr.put ⟨e.set t (.bool (!b)),ms⟩ d .undef) E Q) (dv X os (Fr.put ⟨e,ms⟩ d .undef) E Q)
end
section
variable{X:Ctx}{f:FuncId}{rd:Bool}{fr:Fr}{E:AS}{Q:bU}{e:Env}{ms:lN}{K Kp:AV->AS->Prop}{t:Nat}{d:oN}{i:I}{os:List aP}{dd:Nat}
theorem jo{r:Option AV}:cW r (λv=>K v E)=okV r K E:=by cases r<;>rfl
theorem QV{r:Option AS}:cW r (λa=>K .undef a)=wP r K:=by cases r<;>rfl
theorem abZ{r:Option (AV×AS)}:cW r (λp=>K p.1 p.2)=sO r K:=by cases r<;>rfl
def ab0:dv X (o dd i::os) ⟨e,ms⟩ E Q=aQ X i e E (kV X os dd e ms Q) (kP e ms Q):=QN
def ab1:dv X (u i::os) ⟨e,ms⟩ E Q=aQ X i e E (kU X os e ms Q) (kP e ms Q):=QN
def QW:dv X (gt t d i::os) ⟨e,ms⟩ E Q=gK X t true d i os e ms E Q (e t):=by
 rw[atE];cases d<;>rfl
def QX:dv X (gf t d i::os) ⟨e,ms⟩ E Q=gK X t false d i os e ms E Q (e t):=by
 rw[atF];cases d<;>rfl
theorem ab2:kV X os dd e ms Q v E=dv X os ⟨e.set dd v,ms⟩ E Q:=rfl
theorem ab3:kU X os e ms Q v E=dv X os ⟨e,ms⟩ E Q:=rfl
theorem ab4:kP e ms Q v E=Q (.panic v) ⟨e,ms⟩ E:=rfl
theorem ab5:okV (some v) K E=K v E:=rfl
def ab6{c:Prop}[Decidable c]{v:Option AV}:okV (if c then v else none) K E=(c/\okV v K E):=by split<;>simp[*,okV]
theorem ab7:wP (some E) K=K .undef E:=rfl
def ab8{c:Prop}[Decidable c]{v:Option AS}:wP (if c then v else none) K=(c/\wP v K):=by split<;>simp[*,wP]
theorem ab9:sO (some (v,E)) K=K v E:=rfl
theorem aca{b:Bool}:okB (some b) false K E=K (.bool b) E:=rfl
theorem acb{b:Bool}:okB (some b) true K E=K (.bool (!b)) E:=rfl
theorem acd{k:IntKind}{n:Int}:okN k (.int k' n) K E=K (.int k (k.wrap n)) E:=rfl
theorem ace{a b:AV}:QU (.bool true) a b K E=K a E:=rfl
theorem acf{a b:AV}:QU (.bool false) a b K E=K b E:=rfl
theorem acg{ys:List lA}{ty:TypeId}{bytes:Nat}{s:AV}:abY (some ys) ty sz bytes s K E=sO (dx E ty sz bytes s ys) K:=rfl
def QY{c:ao}{a:PC}:wp X f rd (.cond c a b) fr E Q=ox X f rd a b fr E Q (c.get fr.env):=wp_cond
def ach{a:PC}:ox X f rd a b fr E Q (.bool true)=wp X f rd a fr E Q:=by simp[ox,Je]
def aci{a:PC}:ox X f rd a b fr E Q (.bool false)=wp X f rd b fr E Q:=by simp[ox,Je]
def bO{a:PC}{p:Prop}[Decidable p]:ox X f rd a b fr E Q (.bool (decide p))=((p->wp X f rd a fr E Q)/\ (¬p->wp X f rd b fr E Q)):=by simp[ox,Je]
def acj{a:PC}:ox X f rd a b fr E Q (.bool (!c))=ox X f rd b a fr E Q (.bool c):=by cases c<;>simp[ox,Je]
theorem ack{b:Bool}{c:lA}:gK X t b (some dd) i os e ms E Q (.au c)=dv X os ⟨e.set dd .undef,ms⟩ E Q:=rfl
theorem acm{b:Bool}{c:lA}:gK X t b none i os e ms E Q (.au c)=dv X os ⟨e,ms⟩ E Q:=rfl
def acn:gK X t true (some dd) i os e ms E Q (.bool true)=aQ X i (e.set t (.bool true)) E (kV X os dd (e.set t (.bool true)) ms Q) (kP (e.set t (.bool true)) ms Q):=by simp[gK,Jg]
def aco:gK X t false (some dd) i os e ms E Q (.bool false)=aQ X i (e.set t (.bool false)) E (kV X os dd (e.set t (.bool false)) ms Q) (kP (e.set t (.bool false)) ms Q):=by simp[gK,Jg]
def acp:gK X t true d i os e ms E Q (.bool false)=dv X os (Fr.put ⟨e.set t (.bool false),ms⟩ d .undef) E Q:=by simp[gK,Jg]
def acq:gK X t false d i os e ms E Q (.bool true)=dv X os (Fr.put ⟨e.set t (.bool true),ms⟩ d .undef) E Q:=by simp[gK,Jg]
def acr{b:Bool}{p:Prop}[Decidable p]:gK X t b d i os e ms E Q (.bool (decide p))=((p->gK X t b d i os e ms E Q (.bool true))/\ (¬p->gK X t b d i os e ms E Q (.bool false))):=by
 by_cases h:p<;>simp[h]
theorem acs:aQ X (.mov x) e E K Kp=(K (x.get e) E):=by rfl
def acu{c:ao}{a:ao}{b:ao}:aQ X (.pick c a b) e E K Kp=(QU (c.get e) (a.get e) (b.get e) K E):=by
 first|rfl|rfl|rfl|rfl| (rw[as4];cases c.get e<;>rfl)
theorem acv:aQ X (.alloc z tg) e E K Kp=(K (.ptr E.heap.length 0) (E.push (.box z tg))):=by rfl
def acw{agg:Bool}{a:ao}:aQ X (.load agg n a) e E K Kp=(okV (cb X E agg n (a.get e)) K E):=by grind [as9,jo]
def acx{a:ao}{v:ao}:aQ X (.store n a v) e E K Kp=(wP (j4 E n (a.get e) (v.get e)) K):=by grind [ata,QV]
def acy:aQ X (.nilck x) e E K Kp=(okV (wG (x.get e)) K E):=by grind [atb,jo]
def acz{a:BinOp}:aQ X (.bin a x y) e E K Kp=(okV (dq a (x.get e) (y.get e)) K E):=by grind [atc,jo]
def acA{a:BinOp}:aQ X (.shf a x y) e E K Kp=(okV (k9 a (x.get e) (y.get e)) K E):=by grind [atd,jo]
def acB{k:EK}:aQ X (.eq k x y) e E K Kp=(okB (ep k (x.get e) (y.get e)) false K E):=by
 first|rfl|rfl|rfl|rfl| (rw[ate];cases ep k (x.get e) (y.get e)<;>rfl)
def acC{k:EK}:aQ X (.ne k x y) e E K Kp=(okB (ep k (x.get e) (y.get e)) true K E):=by
 first|rfl|rfl|rfl|rfl| (rw[atf];cases ep k (x.get e) (y.get e)<;>rfl)
def acD{a:UnOp}:aQ X (.un a x) e E K Kp=(okV (yo a (x.get e)) K E):=by grind [atg,jo]
def acE{k:IntKind}:aQ X (.conv k x) e E K Kp=(okN k (x.get e) K E):=by
 first|rfl|rfl|rfl|rfl| (rw[ath];cases x.get e<;>rfl)
theorem acF{t:TypeId}:aQ X (.mki t x) e E K Kp=(K (.di t (x.get e)) E):=by rfl
theorem acG{f:Fn}{first:List ao}{cap:List ao}:aQ X (.mkf f first cap) e E K Kp=(K (.fn f (first.map (ao.get e)) (cap.map (ao.get e))) E):=by rfl
theorem acH:aQ X (.oc) e E K Kp=(K (.mp E.heap.length) (E.push (.map []))):=by rfl
def acI{lo:Option ao}{a:Option ao}:aQ X (.slstr x lo a) e E K Kp=(okV (uQ (x.get e) (lo.map (ao.get e)) (a.map (ao.get e))) K E):=by grind [atj,jo]
def acJ{lo:Option ao}{b:Option ao}{a:Option ao}:aQ X (.slsl n x lo b a) e E K Kp=(okV (gd n (x.get e) (lo.map (ao.get e)) (b.map (ao.get e)) (a.map (ao.get e))) K E):=by grind [atk,jo]
def acK{lo:Option ao}{a:Option ao}:aQ X (.slarr n sz x lo a) e E K Kp=(okV (qN X n sz (x.get e) (lo.map (ao.get e)) (a.map (ao.get e))) K E):=by grind [atl,jo]
def acL:aQ X (.faddr n x) e E K Kp=(okV (wF X n (x.get e)) K E):=by grind [atm,jo]
def acM{i:ao}:aQ X (.iaddra n sz x i) e E K Kp=(okV (uR X n sz (x.get e) (i.get e)) K E):=by grind [ato,jo]
def acN{i:ao}:aQ X (.iaddrs sz x i) e E K Kp=(okV (j5 sz (x.get e) (i.get e)) K E):=by grind [atp,jo]
def acO{agg:Bool}{i:ao}:aQ X (.idxa agg n sz x i) e E K Kp=(okV (qP agg n sz (x.get e) (i.get e)) K E):=by grind [atq,jo]
def acP{i:ao}:aQ X (.idxs x i) e E K Kp=(okV (yp (x.get e) (i.get e)) K E):=by grind [atr,jo]
def acQ{b:EK}{z:AV}{m:ao}{k:ao}{a:Bool}:aQ X (.lookup b z m k a) e E K Kp=(okV (gV X.fo E b z (m.get e) (k.get e) a) K E):=by grind [ats,jo]
def acR{a:EK}{m:ao}{k:ao}{v:ao}:aQ X (.pA a m k v) e E K Kp=(wP (mz E a (m.get e) (k.get e) (v.get e)) K):=by grind [att,QV]
def acS{z:AV}{t:TypeId}{a:Bool}:aQ X (.ta z x t a) e E K Kp=(okV (AN z (x.get e) t a) K E):=by grind [atu,jo]
def acT{k:EK}:aQ X (.len k x) e E K Kp=(okV (ft E k (x.get e)) K E):=by grind [atw,jo]
def acU{ty:TypeId}{bytes:Nat}{s:ao}:aQ X (.append ty sz bytes s x) e E K Kp=(abY (elems E sz (x.get e)) ty sz bytes (s.get e) K E):=by
 first|rfl|rfl|rfl|rfl| (rw[atx];cases elems E sz (x.get e)<;>first|rfl|exact abZ)
def acV{d:ao}{s:ao}:aQ X (.copy sz d s) e E K Kp=(sO (sy E sz (d.get e) (s.get e)) K):=by grind [aty,abZ]
def acW:aQ X (.clear z x) e E K Kp=(wP (sA E z (x.get e)) K):=by grind [atz,QV]
def acX{xs:List ao}:aQ X (.max xs) e E K Kp=(okV (gg qO (xs.map (ao.get e))) K E):=by grind [atA,jo]
def acY{xs:List ao}:aQ X (.min xs) e E K Kp=(okV (gg wE (xs.map (ao.get e))) K E):=by grind [atB,jo]
def acZ{i:Nat}:aQ X (.ext x i) e E K Kp=(okV (ED (x.get e) i) K E):=by
 first|rfl| (rw[atv];exact jo)|rfl|rfl|rfl
def ac0{agg:Bool}{off:Nat}:aQ X (.fld agg n off x) e E K Kp=(okV (abV agg n off (x.get e)) K E):=by
 first|rfl| (rw[atn];exact jo)|rfl|rfl|rfl
def ac1:aQ X (.box x tg) e E K Kp=(sO (qZ E (x.get e) tg) K):=by
 first|rfl|rfl|rfl|rfl| (rw[as5];unfold qZ;cases h: (x.get e).cn<;>simp[sO])
def ac2{a:List (Nat×Nat×ao)}:aQ X (.build z a) e E K Kp=(okV (QR z (a.map λp=>(p.1,p.2.1,p.2.2.get e))) K E):=by
 first|rfl|rfl|rfl|rfl| (rw[as6];unfold QR;cases eo z (a.map λp=>(p.1,p.2.1,p.2.2.get e))<;>rfl)
def ac3{len:Nat}{a:List (Nat×Nat×ao)}:aQ X (.bslice z len a) e E K Kp=(okV (QS z len (a.map λp=>(p.1,p.2.1,p.2.2.get e))) K E):=by
 first|rfl|rfl|rfl|rfl| (rw[as7];unfold QS;cases eo (List.replicate len z).flatten (a.map λp=>(p.1,p.2.1,p.2.2.get e))<;>rfl)
def ac4{ty:TypeId}{len:Nat}{a:List (Nat×Nat×ao)}:aQ X (.sv ty z len a) e E K Kp=(sO (QT E ty z len (a.map λp=>(p.1,p.2.1,p.2.2.get e))) K):=by
 first|rfl|rfl|rfl|rfl| (rw[as8];unfold QT;cases eo (List.replicate len z).flatten (a.map λp=>(p.1,p.2.1,p.2.2.get e))<;>rfl)
def ac5:aQ X (.panic x) e E K Kp=(okV (abW (x.get e)) Kp E):=by
 first|rfl|rfl|rfl|rfl| (rw[atC];cases x.get e<;>rfl)
def ac6:aQ X (.s2b x) e E K Kp=(okV (Ji (x.get e)) K E):=by
 first|rfl|rfl|rfl|rfl| (rw[ati];cases x.get e<;>first|rfl| (rename_i q;simp only[Ji];by_cases a:q.size<=room<;>simp only[a,ajQ,ak8]<;>rfl))
end
def R1:=gG @wp_skip<|gG @wp_exit<|gG @wp_ret<|gG @wp_seq<|gG @wp_block<|gG @QY<|gG @QM<|gG @abw<|gG @abx<|gG @aby<|gG @abz<|gG @abA<|gG @abB<|gG @abC<|gG @abD<|gG @abG<|gG @ab0<|gG @ab1<|gG @QW<|gG @QX<|gG @ab2<|gG @ab3<|gG @ab4<|gG @abL<|gG @acs<|gG @acu<|gG @acv<|gG @acw<|gG @acx<|gG @acy<|gG @acz<|gG @acA<|gG @acB<|gG @acC<|gG @acD<|gG @acE<|gG @acF<|gG @acG<|gG @acH<|gG @acI<|gG @acJ<|gG @acK<|gG @acL<|gG @acM<|gG @acN<|gG @acO<|gG @acP<|gG @acQ<|gG @acR<|gG @acS<|gG @acT<|gG @acU<|gG @acV<|gG @acW<|gG @acX<|gG @acY<|gG @acZ<|gG @ac0<|gG @ac1<|gG @ac2<|gG @ac3<|gG @ac4<|gG @ac5 @ac6
def R2:=gG @abE<|gG @abF<|gG @ab5<|gG @ab6<|gG @ab7<|gG @ab8<|gG @ab9<|gG @aca<|gG @acb<|gG @acd<|gG @ace<|gG @acf<|gG @acg<|gG @ach<|gG @aci<|gG @acj<|gG @ack<|gG @acm<|gG @acn<|gG @aco<|gG @acp<|gG @acq<|gG @Fr.abH<|gG @Fr.abI<|gG @abQ<|gG @abR<|gG @abS<|gG @abT<|gG @push_mk @set_mk
def R4:=gG @acr @bO
section
variable{X:Ctx}{f:FuncId}{rd:Bool}{E:AS}{Q:bU}{e:Env}{ms:lN}{K Kp:AV->AS->Prop}{k:IntKind}{a b c:Int}{l m:lB}{n:Nat}{lo:oN}{H L:List ae}{R:aS->Prop}
def ac7:dq .add (.int k a) (.int k b)=some (.int k (k.wrap (a+b))):=by simp[dq,my]
def ac8:dq .sub (.int k a) (.int k b)=some (.int k (k.wrap (a-b))):=by simp[dq,my]
def ac9:dq .mul (.int k a) (.int k b)=some (.int k (k.wrap (a*b))):=by simp[dq,my]
def ada:dq .quo (.int k a) (.int k b)=if b≠0 then some (.int k (k.wrap (a.tdiv b)))else none:=by
 by_cases h:b=0<;>simp[dq,my,h]
def adb:dq .rem (.int k a) (.int k b)=if b≠0 then some (.int k (a.tmod b))else none:=by
 by_cases h:b=0<;>simp[dq,my,h]
def ade:dq .lss (.int k a) (.int k b)=some (.bool (decide (a<b))):=by simp[dq,my]
def adf:dq .leq (.int k a) (.int k b)=some (.bool (decide (a<=b))):=by simp[dq,my]
def adg:dq .gtr (.int k a) (.int k b)=some (.bool (decide (b<a))):=by simp[dq,my]
def adh:dq .geq (.int k a) (.int k b)=some (.bool (decide (b<=a))):=by simp[dq,my]
def EE:dq .and (.int k a) (.int k b)=some (.int k (k.wrap (BitVec.ofInt k.bits a&&&BitVec.ofInt k.bits b).toNat)):=by simp[dq,my,wB]
def Jj:dq .or (.int k a) (.int k b)=some (.int k (k.wrap (BitVec.ofInt k.bits a|||BitVec.ofInt k.bits b).toNat)):=by simp[dq,my,wB]
def QZ:dq .xor (.int k a) (.int k b)=some (.int k (k.wrap (BitVec.ofInt k.bits a^^^BitVec.ofInt k.bits b).toNat)):=by simp[dq,my,wB]
def Q0:dq .andNot (.int k a) (.int k b)=some (.int k (k.wrap (BitVec.ofInt k.bits a&&& ~~~ (BitVec.ofInt k.bits b)).toNat)):=by simp[dq,my,wB]
def Bj:k9 .shl (.int k a) (.int k' b)=if 0<=b then some (.int k (k.wrap (a*2^(min b.toNat k.bits))))else none:=by
 by_cases h:0<=b
 ·have: ¬b<0:=by omega
  simp[k9,wC,h,this]
 ·have:b<0:=by omega
  simp[k9,wC,h,this]
def EF:k9 .shr (.int k a) (.int k' b)=if 0<=b then some (.int k (a.fdiv (2^(min b.toNat k.bits))))else none:=by
 by_cases h:0<=b
 ·have: ¬b<0:=by omega
  simp[k9,wC,h,this]
 ·have:b<0:=by omega
  simp[k9,wC,h,this]
def eq_int:ep .int (.int k a) (.int k b)=some (decide (a=b)):=by
 simp only[ep,qM,ajQ];grind
theorem adi{x y:Bool}:ep .bool (.bool x) (.bool y)=some (x==y):=rfl
theorem adj{x:Bool}:yo .not (.bool x)=some (.bool !x):=rfl
theorem adk:yo .neg (.int k a)=some (.int k (k.wrap (0-a))):=rfl
theorem adl:ft E .str (S l)=some (.int .i64 l.length):=by rfl
def adm:yp (S l) (.int k a)=if 0<=a/\a<l.length then some (.int .u8 (l.getD a.toNat 0).toNat)else none:=by
 simp only[yp,sw,S]
 grind
def atJ(i j:Nat): (⟨l.toArray⟩:ByteArray).extract i j=⟨((l.take j).drop i).toArray⟩:=by
 apply ByteArray.ext;simp[ByteArray.data_extract,aww]
def Jl:uQ (S l) (some (.int k a)) none=if 0<=a/\a<=l.length then some (S (l.drop a.toNat))else none:=by
 simp only[uQ,S,gb,lR,atD];by_cases h:0<=a/\a<=l.length
 ·simp_all[aaR,atJ]
 grind
theorem adn: (S l).cn=false:=rfl
theorem ado: (S l).cells=[S l]:=rfl
theorem adp: (S l).refs=0:=rfl
def adq:dw X n lo [.t t] R .ret ⟨e,[]⟩ E=R (.ret (finish n lo (e t) E).1 (finish n lo (e t) E).2):=by
 simp[dw,dJ,abU]
def adr{u:Nat}:dw X n lo [.t t,.t u] R .ret ⟨e,[]⟩ E=R (.ret (finish n lo (.au [e t,e u]) E).1 (finish n lo (.au [e t,e u]) E).2):=by
 simp[dw,dJ,atH]
def ads{u v:Nat}:dw X n lo [.t t,.t u,.t v] R .ret ⟨e,[]⟩ E=R (.ret (finish n lo (.au [e t,e u,e v]) E).1 (finish n lo (.au [e t,e u,e v]) E).2):=by
 simp[dw,dJ,atI]
def adt:dw X n lo [] R .ret ⟨e,[]⟩ E=R (.ret (finish n lo (.au []) E).1 (finish n lo (.au []) E).2):=by
 simp[dw,dJ,fy,jE]
def adu:dw X n lo [] R .normal ⟨e,[]⟩ E=R (.ret (finish n lo (.au []) E).1 (finish n lo (.au []) E).2):=by
 simp[dw,dJ,fy,jE]
def Bk:finish n lo v ⟨H,none⟩=if v.refs<=n then(v,⟨H.take n,lo⟩)else match freeze ⟨H,none⟩ n 12 v with|some v'=>(v',⟨H.take n,lo⟩)|none=>(v,⟨H,ga lo none⟩):=by
 by_cases h:v.refs<=n
 ·rw[aaR h,abP rfl h]
 ·rw[aaH h];rfl
def EG:finish n lo v ⟨H,some j⟩=if n<=j then(if v.refs<=n then(v,⟨H.take n,lo⟩)else match freeze ⟨H,some j⟩ n 12 v with|some v'=>(v',⟨H.take n,lo⟩)|none=>(v,⟨H,ga lo (some j)⟩))else(v,⟨H,ga lo (some j)⟩):=by
 by_cases d:n<=j
 ·rw[aaR d];by_cases h:v.refs<=n
  ·rw[aaR h,abP (by grind) h]
  ·rw[aaH h];simp only[finish,alb,aaR d];rfl
 ·simp only[finish,alb,aaH d]
def adv(h:H.length=n):H.take n=H:=by grind
theorem adw{agg:Bool}{m id off:Nat}{lo:oN}:cb X ⟨H,lo⟩ agg m (.ptr id off)=match H[id]? with
 |some (.box cs _)=>part agg m cs off
 |_=>none:=rfl
theorem adx{agg:Bool}{m off:Nat}{cs:lA}:cb X E agg m (.eZ cs off)=part agg m cs off:=rfl
theorem ady{m id off:Nat}{v:AV}{lo:oN}:j4 ⟨H,lo⟩ m (.ptr id off) v=match H[id]? with
 |some (.box cs tg)=>if v.cn=false/\v.cells.length=m/\off+m<=cs.length then some (AS.set ⟨H,lo⟩ id (.box (aH cs off v.cells) tg) v.refs)else none
 |_=>none:=rfl
theorem adz{m:Nat}{cs:lA}{off:Nat}:part false m cs off=cs[off]?:=rfl
theorem adA{m:Nat}{cs:lA}{off:Nat}:part true m cs off=if off+m<=cs.length then some (.agg ((cs.drop off).take m))else none:=rfl
theorem adB{id off:Nat}:wG (.ptr id off)=some (.ptr id off):=rfl
theorem adC{id off:Nat}:wG (.dm id aj i off)=some (.dm id aj i off):=rfl
theorem adD{cs:lA}{off:Nat}:wG (.eZ cs off)=some (.eZ cs off):=rfl
theorem adE{id off m:Nat}:wF X m (.ptr id off)=some (.ptr id (off+m)):=rfl
theorem adF{id off m:Nat}:wF X m (.dm id aj i off)=some (.dm id aj i (off+m)):=rfl
theorem adG{cs:lA}{off m:Nat}:wF X m (.eZ cs off)=some (.eZ cs (off+m)):=rfl
theorem adH:qZ E (.int k a) tg=some (.ptr E.heap.length 0,E.push (.box [.int k a] tg)):=rfl
theorem adI{b:Bool}:qZ E (.bool b) tg=some (.ptr E.heap.length 0,E.push (.box [.bool b] tg)):=rfl
theorem adJ:qZ E (S l) tg=some (.ptr E.heap.length 0,E.push (.box [S l] tg)):=rfl
theorem adK{cs:lA}:qZ E (.agg cs) tg=some (.ptr E.heap.length 0,E.push (.box cs tg)):=rfl
def adL{cs:lA}:aH cs 0 vs=vs++cs.drop vs.length:=by simp[aH]
def adM{cs:lA}{c:AV}{off:Nat}:aH (c::cs) (off+1) vs=c::aH cs off vs:=by
 simp[aH,Nat.add_right_comm]
theorem adN{k:IntKind}{n:Int}:AV.cn (.int k n)=false:=rfl
theorem adO{k:IntKind}{n:Int}:AV.cells (.int k n)=[.int k n]:=rfl
theorem adP{b:Bool}:AV.cn (.bool b)=false:=rfl
theorem adQ{b:Bool}:AV.cells (.bool b)=[.bool b]:=rfl
theorem adR{o:Nat}:AV.cn (.ptr i o)=false:=rfl
theorem adS{o:Nat}:AV.cells (.ptr i o)=[.ptr i o]:=rfl
theorem adT{v o:Nat}:AV.cn (.dm i v j o)=false:=rfl
theorem adU{v o:Nat}:AV.cells (.dm i v j o)=[.dm i v j o]:=rfl
theorem adV{cs:lA}{o:Nat}:AV.cn (.eZ cs o)=false:=rfl
theorem adW{cs:lA}{o:Nat}:AV.cells (.eZ cs o)=[.eZ cs o]:=rfl
theorem adX:AV.cn (.en)=false:=rfl
theorem adY:AV.cells (.en)=[.en]:=rfl
theorem adZ:AV.cn (.ai)=false:=rfl
theorem ad0:AV.cells (.ai)=[.ai]:=rfl
theorem ad1{c:Bool}:AV.cn (.sl af c)=false:=rfl
theorem ad2{c:Bool}:AV.cells (.sl af c)=[.sl af c]:=rfl
theorem ad3{v z o l:Nat}{c:Bool}:AV.cn (.ref i v z o l c)=false:=rfl
theorem ad4{v z o l:Nat}{c:Bool}:AV.cells (.ref i v z o l c)=[.ref i v z o l c]:=rfl
theorem ad5{z o l:Nat}:AV.cn (.fk i z o l)=false:=rfl
theorem ad6{z o l:Nat}:AV.cells (.fk i z o l)=[.fk i z o l]:=rfl
theorem ad7:AV.cn (.mw)=false:=rfl
theorem ad8:AV.cells (.mw)=[.mw]:=rfl
theorem ad9:AV.cn (.mp i)=false:=rfl
theorem aea:AV.cells (.mp i)=[.mp i]:=rfl
theorem aeb{f:Fn}{a b:lA}:AV.cn (.fn f a b)=false:=rfl
theorem aec{f:Fn}{a b:lA}:AV.cells (.fn f a b)=[.fn f a b]:=rfl
theorem aed:AV.cn (.cR)=false:=rfl
theorem aee:AV.cells (.cR)=[.cR]:=rfl
theorem aef{t:TypeId}:AV.cn (.di t v)=false:=rfl
theorem aeg{t:TypeId}:AV.cells (.di t v)=[.di t v]:=rfl
theorem aeh:AV.cn (.eI)=false:=rfl
theorem aei:AV.cells (.eI)=[.eI]:=rfl
theorem aej{g:Nat}:AV.cn (.dp g)=false:=rfl
theorem aek{g:Nat}:AV.cells (.dp g)=[.dp g]:=rfl
theorem ael{cs:lA}:AV.cn (.agg cs)=false:=rfl
theorem aem{cs:lA}:AV.cells (.agg cs)=cs:=rfl
theorem aen{k:IntKind}{n:Int}:AV.refs (.int k n)=0:=by rfl
theorem aeo{b:Bool}:AV.refs (.bool b)=0:=by rfl
theorem aep{o:Nat}:AV.refs (.ptr i o)=i+1:=by rfl
theorem aeq:AV.refs (.ai)=0:=by rfl
theorem aer{v z o l:Nat}{c:Bool}:AV.refs (.ref i v z o l c)=i+1:=by rfl
theorem aes:AV.refs (.mp i)=i+1:=by rfl
theorem aet{f:Nat}{a b:lA}:AV.refs (.fn (.func f) a b)=max (aG a) (aG b):=by rfl
theorem aeu{t:TypeId}:AV.refs (.di t v)=v.refs:=by rfl
theorem aev{cs:lA}:AV.refs (.agg cs)=aG cs:=by rfl
theorem aew{cs:lA}:AV.refs (.au cs)=aG cs:=by rfl
theorem aex{c:Bool}:AV.refs (.sl af c)=b9 af:=by rfl
theorem aey:aG []=0:=by rfl
theorem aez{a:AV}{as:lA}:aG (a::as)=max a.refs (aG as):=by rfl
theorem aeA{a:AV}{as:lA}:dc (a::as) 0=a:=rfl
theorem aeB{a:AV}{as:lA}{n:Nat}:dc (a::as) (n+1)=dc as n:=rfl
theorem aeC{n:Nat}:dc [] n= .undef:=rfl
theorem aeD: (!true)=false:=rfl
theorem aeE: (!false)=true:=rfl
end
structure Rd(E:AS)(v:AV)(sz:Nat)(af:List lA):Prop where
 kind:match v with|.ai|.sl .. |.ref .. =>True|_=>False
 eq:elems E sz v=some af
 aF7: ∀el∈af,el.length=sz
def fa(v:AV)(j off:Nat):AV:=
 match v with
 |.sl af _=>.eZ (af.getD j []) off
 |.ref id aj _ o _ _=>.dm id aj (o+j) off
 |_=>.iI
section
variable{X:Ctx}{E:AS}{v:AV}{sz:Nat}{af:List lA}{k:IntKind}{a:Int}
def Rd.len(h:Rd E v sz af):ft E .sl v=some (.int .i64 af.length):=by
 obtain⟨i,d,j⟩:=h;cases v<;>simp only[]at i
 ·cases d;rfl
 ·simp only[elems]at d;split at d<;>cases d;rfl
 ·simp only[elems]at d;split at d
  ·split at d
   ·simp only[ft];grind
   grind
  grind
def Rd.addr(h:Rd E v sz af):j5 sz v (.int k a)=if 0<=a/\a<af.length then some (fa v a.toNat 0)else none:=by
 obtain⟨o,d,p⟩:=h;cases v<;>simp only[]at o
 ·cases d;have: ¬(0<=a/\a< (([]:List lA).length:Int)):=by simp
  rw[aaH this];rfl
 ·simp only[elems]at d;simp only[j5,sw,fa]
  grind
 ·rename_i id aj z off len cH;simp only[elems]at d;split at d
  ·split at d
   ·rename_i j;cases d;simp only[j5,sw,fa];have e: ((List.take len (List.drop off (by assumption))).length:Nat)=len:=by rw[ajM,apj];omega
    rw[e];by_cases i:0<=a/\a<len
    ·rw[aaR ⟨i.1,i.2,j.2.2.1⟩,aaR i]
    ·rw[aaH (λh=>i ⟨h.1,h.2.1⟩),aaH i]
   grind
  grind
def Rd.load(h:Rd E v sz af){off:Nat}{agg:Bool}(q:j<af.length):cb X E agg n (fa v j off)=part agg n (af.getD j []) off:=by
 obtain⟨p,d,r⟩:=h;cases v<;>simp only[]at p
 ·simp only[elems]at d;grind
 ·simp only[elems]at d;split at d<;>cases d;rfl
 ·simp only[elems]at d;split at d
  ·rename_i v' o ty i hr;split at d
   ·simp only[fa,cb,hr]
    grind
   grind
  grind
theorem Rd.sl{af:List lA}(h: ∀el∈af,el.length=sz):Rd E (.sl af c) sz af:=
 ⟨trivial,by simp only[elems];grind,h⟩
theorem Rd.ai:Rd E .ai sz []:=⟨trivial,rfl,by simp⟩
def Rd.ext{H L:List ae}(h:Rd ⟨H,lo⟩ v sz af):Rd ⟨H++L,ak⟩ v sz af:=by
 obtain⟨i,d,j⟩:=h;refine⟨i,?_,j⟩;cases v<;>simp only[]at i
 ·exact d
 ·exact d
 ·simp only[elems]at d⊢
  grind
end
def Q2{f:AV->AV->Option AV}{x:AV}:gg f [x]=some x:=by rw[gg]
def aeF{f:AV->AV->Option AV}{x y z:AV}{r:lA}(h:f x y=some z):gg f (x::y::r)=gg f (z::r):=by rw[gg,h]
def Q3{k:IntKind}{a b:Int}{r:lA}:gg qO (.int k a:: .int k' b::r)=gg qO (.int k (max a b)::r):=by
 refine aeF ?_;simp only[qO];grind
def aeG{k:IntKind}{a b:Int}{r:lA}:gg wE (.int k a:: .int k' b::r)=gg wE (.int k (min a b)::r):=by
 refine aeF ?_;simp only[wE];grind
def Rd.mono{H H':List ae}(h:Rd ⟨H,lo⟩ v sz af)(d:H<+:H'):Rd ⟨H',ak⟩ v sz af:=by
 obtain⟨L,rfl⟩:=d;exact h.ext
def Rv(v:AV)(sz:Nat)(af:List lA):Prop:= ∀E,Rd E v sz af
def Rv.len(h:Rv v sz af){E:AS}:ft E .sl v=some (.int .i64 af.length):=(h E).len
def Rv.addr(h:Rv v sz af){k:IntKind}{a:Int}:j5 sz v (.int k a)=if 0<=a/\a<af.length then some (fa v a.toNat 0)else none:=(h ⟨[],none⟩).addr
theorem Rv.load{X:Ctx}(h:Rv v sz af){E:AS}{off:Nat}{agg:Bool}(d:j<af.length):cb X E agg n (fa v j off)=part agg n (af.getD j []) off:=(h E).load d
theorem Rv.sl(h: ∀el∈af,el.length=sz):Rv (.sl af c) sz af:=λ_=>.sl h
theorem Rv.ai:Rv .ai sz []:=λ_=>.ai
def cU{v':AV}{H H':List ae}(h:v=v')(d:H=H'):aS.ret v ⟨H,lo⟩=aS.ret v' ⟨H',lo⟩:=by grind
theorem aeH: ((k+m:Nat):Int)=(k:Int)+(m:Int):=by rfl
theorem cast_zero: ((0:Nat):Int)=0:=rfl
def aeI{α:Type}[Inhabited α]{g:α->lA}{l:List α}(h:j<l.length): (l.map g).getD j []=g (l.getD j default):=by grind
section
variable{α:Type}{g:α->lA}{l:List α}{v:AV}{sz:Nat}
def Rv.bD(h:Rv v sz (l.map g)){E:AS}:ft E .sl v=some (.int .i64 l.length):=by rw[h.len,ahX]
def Rv.bX(h:Rv v sz (l.map g)){k:IntKind}{a:Int}:j5 sz v (.int k a)=if 0<=a/\a<l.length then some (fa v a.toNat 0)else none:=by rw[h.addr,ahX]
def Rv.cp[Inhabited α]{X:Ctx}(h:Rv v sz (l.map g)){E:AS}{off:Nat}{agg:Bool}(d:j<l.length):cb X E agg n (fa v j off)=part agg n (g (l.getD j default)) off:=by
 rw[h.load (by grind),aeI d]
def Rd.bD{E:AS}(h:Rd E v sz (l.map g)):ft E .sl v=some (.int .i64 l.length):=by rw[h.len,ahX]
def Rd.bX{E:AS}(h:Rd E v sz (l.map g)){k:IntKind}{a:Int}:j5 sz v (.int k a)=if 0<=a/\a<l.length then some (fa v a.toNat 0)else none:=by rw[h.addr,ahX]
def Rd.cp[Inhabited α]{X:Ctx}{E:AS}(h:Rd E v sz (l.map g)){off:Nat}{agg:Bool}(d:j<l.length):cb X E agg n (fa v j off)=part agg n (g (l.getD j default)) off:=by
 rw[h.load (by grind),aeI d]
end
def V1:=gG @ac7<|gG @ac8<|gG @ac9<|gG @ada<|gG @adb<|gG @ade<|gG @adf<|gG @adg<|gG @adh<|gG @EE<|gG @Jj<|gG @QZ<|gG @Q0<|gG @Bj<|gG @EF<|gG @eq_int<|gG @adi<|gG @adj<|gG @adk<|gG @adl<|gG @adm<|gG @Jl<|gG @adn<|gG @ado<|gG @adp<|gG @adq<|gG @adr<|gG @ads<|gG @adt<|gG @adu<|gG @adw<|gG @adx<|gG @ady<|gG @adz<|gG @adA<|gG @adB<|gG @adC<|gG @adD<|gG @adE<|gG @adF<|gG @adG<|gG @adH<|gG @adI<|gG @adJ<|gG @adK<|gG @adL<|gG @adM<|gG @abO<|gG @abM @abN
def V3:type_of% @aeA/\type_of% @cast_zero/\type_of% @aeH/\type_of% @Int.toNat_natCast/\type_of% @Int.natCast_nonneg/\type_of% @Q2/\type_of% @Q3/\type_of% @aeG/\type_of% @aeB/\type_of% @aeC/\type_of% @aeD/\type_of% @aeE/\type_of% @Option.map_some.{0,0}/\type_of% @Option.map_none.{0,0}/\type_of% @List.map_cons.{0,0}/\type_of% @List.map_nil.{0,0}/\type_of% @not_false_eq_true/\type_of% @true_and/\type_of% @and_true/\type_of% @Nat.zero_le/\type_of% @List.length_cons.{0}/\type_of% @List.length_nil.{0}/\type_of% @List.length_append.{0}/\type_of% @List.length_map.{0,0}/\type_of% @if_true.{1}/\type_of% @if_false.{1}/\type_of% @if_true.{0}/\type_of% @if_false.{0}/\type_of% @ne_eq.{1}/\type_of% @List.cons_append.{0}/\type_of% @List.nil_append.{0}/\type_of% @List.append_nil.{0}/\type_of% @Nat.zero_add/\type_of% @List.length_set.{0}/\type_of% @List.append_assoc.{0}/\type_of% @List.getElem?_cons_zero.{0}/\type_of% @List.getElem?_cons_succ.{0}/\type_of% @List.set_cons_zero.{0}/\type_of% @List.set_cons_succ.{0}/\type_of% @List.drop_succ_cons.{0}/\type_of% @List.drop_zero.{0}/\type_of% @List.take_succ_cons.{0}/\type_of% @List.take_zero.{0}/\type_of% @Nat.max_self/\type_of% @Nat.zero_max/\type_of% @Nat.max_zero:=
 ⟨@aeA,@cast_zero,@aeH,@aw1,@Int.natCast_nonneg,@Q2,@Q3,@aeG,@aeB,@aeC,@aeD,@aeE,@ah6.{0,0},@Option.map_none.{0,0},@ape.{0,0},@awu.{0,0},@not_false_eq_true,@aBp,@aqt,@abX,@ajC.{0},@apY.{0},@ahU.{0},@ahX.{0,0},@ajQ.{1},@ak8.{1},@ajQ.{0},@ak8.{0},@ne_eq.{1},@ajW.{0},@ajS.{0},@ajJ.{0},@alv,@ajB.{0},@aaS.{0},@atT.{0},@axr.{0},@List.set_cons_zero.{0},@List.set_cons_succ.{0},@apg.{0},@alq.{0},@as1.{0},@List.take_zero.{0},@Nat.max_self,@Nat.zero_max,@Nat.max_zero⟩
def F1:=gG @Bk @EG
def V2:=gG @adN<|gG @adP<|gG @adR<|gG @adT<|gG @adV<|gG @adX<|gG @adZ<|gG @ad1<|gG @ad3<|gG @ad5<|gG @ad7<|gG @ad9<|gG @aeb<|gG @aed<|gG @aef<|gG @aeh<|gG @aej<|gG @ael<|gG @adO<|gG @adQ<|gG @adS<|gG @adU<|gG @adW<|gG @adY<|gG @ad0<|gG @ad2<|gG @ad4<|gG @ad6<|gG @ad8<|gG @aea<|gG @aec<|gG @aee<|gG @aeg<|gG @aei<|gG @aek<|gG @aem<|gG @aen<|gG @aeo<|gG @aep<|gG @aeq<|gG @aer<|gG @aes<|gG @aet<|gG @aeu<|gG @aev<|gG @aew<|gG @aex<|gG @aey @aez
def gx:List aP->lN
 | []=>[]
 |o::os=>match o.dst with
  |some d=>d::gx os
  |none=>gx os
def Fr.Ei{fr:Fr}(h:d≠some t): (fr.put d v).env t=fr.env t:=by
 cases d with
 |none=>rfl
 |some d=>
  simp only[Fr.put,Env.set]
  grind
section
variable{X:Ctx}{C:bA}{L:eu}
theorem Q4: ∀ (os:List aP) (fr a:Fr) (E E':AS) (ex:Ex),eN X C os fr E=some (ex,a,E')-> ∀t,t∉gx os->a.env t=fr.env t
 | [],fr,a,E,E',ex,h,t,j=>by simp only[eN,aaQ,asj]at h;grind
 |o::os,fr,a,E,E',ex,h,t,j=>by
  have k:o.dst≠some t:=by
   intro e;apply j;simp[gx,e]
  have g:t∉gx os:=by
   intro e;apply j;simp only[gx];grind
  simp only[eN]at h;split at h
  ·split at h
   ·rw[Q4 os _ _ _ _ _ h t g,Fr.Ei k]
   ·grind
   grind
  ·rw[Q4 os _ _ _ _ _ h t g,Fr.Ei k]
end
def sP:lN->Nat->Bool
 | [],_=>false
 |a::as,t=>a==t||sP as t
theorem aeJ{t:Nat}: ∀ {W:lN},sP W t=true↔t∈W
 | []=>by simp[sP]
 |a::as=>by
  simp only[sP,arJ,aup,ajR];rw[aeJ]
  grind
def aeK(b:Bool)(a e:Env)(t:Nat):AV:=match b with|true=>a t|false=>e t
theorem aeL{a:Env}:aeK true a e t=a t:=rfl
theorem aeM{a:Env}:aeK false a e t=e t:=rfl
section
variable{X:Ctx}{f:FuncId}{rd:Bool}{E ow:AS}{Q:bU}{e:Env}{ms:lN}{t:Nat}{b c:Bool}{d:oN}{i:I}{os:List aP}
def Q5(r:Nat)(v:AV)(ms:lN)(ow:AS)(Q:bU):bU
 |.normal,fr,E'=>fr.env r=v/\fr.marks=ms/\E'=ow
 |ex,fr,E'=>Q ex fr E'
theorem aeN{ms a:lN}:Q5 r v ms ow Q .normal ⟨e,a⟩ E=(e r=v/\a=ms/\E=ow):=rfl
end
def wQ(e:Env):lN->Env->Env
 | [],a=>a
 |t::ts,a=>(wQ e ts a).set t (e t)
theorem aeO{W:lN}{e g:Env}(h: ∀t,t∉W->g t=e t): ∀a:lN,a.all (λk=>!sP W k)=true->wQ e a g=g
 | [],_=>rfl
 |k::a,j=>by
  simp only[auK,ajI]at j;have l:k∉W:=by grind [aeJ]
  simp only[wQ];rw[aeO h a j.2,<-h k l,Env.QO]
section
variable{X:Ctx}{f:FuncId}{rd:Bool}{E:AS}{Q:bU}{e:Env}{ms:lN}{t:Nat}{b c:Bool}{d:oN}{i:I}{os:List aP}
def atK(ow:AS)(r:Nat)(v:AV)(g:lN)(j:g.all (λk=>!sP (gx os) k)=true)(q:dv X os ⟨e,ms⟩ E (Q5 r v ms ow Q))(p: ∀u,Q .normal ⟨(wQ e g u).set r v,ms⟩ ow):dv X os ⟨e,ms⟩ E Q:=by
 obtain⟨ex,a,E',hr,h⟩:=q;have l:=Q4 os _ _ _ _ _ hr;refine⟨ex,a,E',hr,?_⟩;cases ex with
 |normal=>
  obtain⟨o,n,m⟩:=h;have:=p a.env;rw[aeO l g j,<-o,Env.QO,<-n,<-m]at this;omega
 |_=>exact h
def vd(r:Nat)(v:AV)(a:lN){g:AV}(l:e t=g)(j:a.all (λk=>!sP (gx (⟨none,d,i⟩::os)) k)=true)(h:gK X t b d i os e ms E (Q5 r v ms E Q) g)(m: ∀n,Q .normal ⟨(wQ e a n).set r v,ms⟩ E):gK X t b d i os e ms E Q g:=by
 subst l;have key: ∀Q,gK X t b d i os e ms E Q (e t)=dv X (⟨some (t,b),d,i⟩::os) ⟨e,ms⟩ E Q:=by
  intro Q;cases b
  ·exact QX.symm
  ·exact QW.symm
 rw[key]at h⊢;exact atK E r v a j h m
def atL(r:Nat)(v:AV)(ms:lN)(P:AS->Prop)(Q:bU):bU
 |.normal,fr,E'=>fr.env r=v/\fr.marks=ms/\P E'
 |ex,fr,E'=>Q ex fr E'
theorem aeP{ms a:lN}{P:AS->Prop}:atL r v ms P Q .normal ⟨e,a⟩ E=(e r=v/\a=ms/\P E):=rfl
def Q6(P:Env->List ae->oN->Prop)(Q:bU):bU
 |.normal,fr,E'=>fr.marks=[]/\P fr.env E'.heap E'.lo
 |ex,fr,E'=>Q ex fr E'
def Jm{P:Env->List ae->oN->Prop}{H:List ae}:Q6 P Q .normal ⟨e,[]⟩ ⟨H,lo⟩=P e H lo:=by simp[Q6]
def aeQ{p q:PC}{a:AV}(P:Env->List ae->oN->Prop)(g:ox X f rd p q ⟨e,[]⟩ E (Q6 P Q) a)(l: ∀e H lo,P e H lo->Q .normal ⟨e,[]⟩ ⟨H,lo⟩):ox X f rd p q ⟨e,[]⟩ E Q a:=by
 have key: ∀Q,ox X f rd p q ⟨e,[]⟩ E Q a=wp X f rd (.cond (.c a) p q) ⟨e,[]⟩ E Q:=λQ=>by rw[QY];rfl
 rw[key]at g⊢;refine wp_mono g ?_;rintro ex ⟨m,ms⟩ ⟨H,lo⟩ h;cases ex with
 |normal=>obtain⟨k,j⟩:=h;grind
 |_=>exact h
end
def lZ(n:Nat)(a:AV):FP:=match a with
 |.ptr id off=>.rd id off (Nat.max n 1)
 |.dm .. =>.rr
 |.eZ .. =>.no
 |.dp _=>.no
 |_=>.all
def Jn(n:Nat)(a:AV):FP:=match a with
 |.ptr id off=>.wr id off n
 |.dm .. =>.app
 |_=>.all
noncomputable def Q7(E E':AS):FP:=open Classical in if E'=E then .q else .all
section
variable{e:Env}{E E':AS}
theorem aeR:aW (.mov x) e E E'= .no:=rfl
theorem aeS{c:ao}{a:ao}{b:ao}:aW (.pick c a b) e E E'= .no:=rfl
theorem aeT{a:List (Nat×Nat×ao)}:aW (.build z a) e E E'= .no:=rfl
theorem aeU{a:List (Nat×Nat×ao)}:aW (.bslice z n a) e E E'= .no:=rfl
theorem aeV:aW (.nilck x) e E E'= .no:=rfl
theorem aeW{a:BinOp}:aW (.bin a x y) e E E'= .no:=rfl
theorem aeX{a:BinOp}:aW (.shf a x y) e E E'= .no:=rfl
theorem aeY{k:EK}:aW (.eq k x y) e E E'= .no:=rfl
theorem aeZ{k:EK}:aW (.ne k x y) e E E'= .no:=rfl
theorem ae0{a:UnOp}:aW (.un a x) e E E'= .no:=rfl
theorem ae1{a:IntKind}:aW (.conv a x) e E E'= .no:=rfl
theorem ae2:aW (.s2b x) e E E'= .no:=rfl
theorem ae3{ty:TypeId}:aW (.mki ty x) e E E'= .no:=rfl
theorem ae4{fn:Fn}{g:List ao}{a:List ao}:aW (.mkf fn g a) e E E'= .no:=rfl
theorem ae5{lo:Option ao}{a:Option ao}:aW (.slstr x lo a) e E E'= .no:=rfl
theorem ae6{lo:Option ao}{g:Option ao}{a:Option ao}:aW (.slsl n x lo g a) e E E'= .no:=rfl
theorem ae7{lo:Option ao}{a:Option ao}:aW (.slarr n m x lo a) e E E'= .no:=rfl
theorem ae8:aW (.faddr n x) e E E'= .no:=rfl
theorem ae9:aW (.fld ag n m x) e E E'= .no:=rfl
theorem afa:aW (.iaddra n m x y) e E E'= .no:=rfl
theorem afb:aW (.iaddrs n x y) e E E'= .no:=rfl
theorem afc:aW (.idxa ag n m x y) e E E'= .no:=rfl
theorem afd:aW (.idxs x y) e E E'= .no:=rfl
theorem afe{a:AV}{ty:TypeId}{g:Bool}:aW (.ta a x ty g) e E E'= .no:=rfl
theorem aff:aW (.ext x n) e E E'= .no:=rfl
theorem afg{a:List ao}:aW (.max a) e E E'= .no:=rfl
theorem afh{a:List ao}:aW (.min a) e E E'= .no:=rfl
theorem afi{k:EK}{a:AV}{g:Bool}:aW (.lookup k a x y g) e E E'= .q:=rfl
theorem afj:aW (.len .sl x) e E E'= .no/\aW (.len .str x) e E E'= .no/\aW (.len .map x) e E E'= .q:=⟨rfl,rfl,rfl⟩
theorem afk{ty:TypeId}:aW (.append ty n m x y) e E E'= .app:=rfl
theorem afl:aW (.alloc z tg) e E E'= .all:=rfl
theorem afm:aW (.box x tg) e E E'= .all:=rfl
theorem afn{ty:TypeId}{a:List (Nat×Nat×ao)}:aW (.sv ty z n a) e E E'= .all:=rfl
theorem afo:aW (.oc) e E E'= .all:=rfl
theorem afp{k:EK}{c:ao}:aW (.pA k x y c) e E E'= .all:=rfl
theorem afq:aW (.copy n x y) e E E'= .all:=rfl
theorem afr:aW (.clear z x) e E E'= .all:=rfl
theorem afs:aW (.panic x) e E E'= .all:=rfl
theorem aft:aW (.load ag n x) e E E'=lZ n (x.get e):=by rfl
theorem afu:aW (.store n x y) e E E'=Jn n (x.get e):=by rfl
theorem afv{a:List ao}:aW (.call x a) e E E'=Q7 E E':=rfl
def afw:Q7 E E= .q:=by simp[Q7]
theorem afx{id off:Nat}:lZ n (.ptr id off)= .rd id off (Nat.max n 1)/\lZ n (.dm id aj i off)= .rr:=⟨rfl,rfl⟩
theorem afy{off:Nat}{cs:lA}:lZ n (.eZ cs off)= .no:=rfl
theorem afz{g:Nat}:lZ n (.dp g)= .no:=rfl
theorem afA{id off:Nat}:Jn n (.ptr id off)= .wr id off n/\Jn n (.dm id aj i off)= .app:=⟨rfl,rfl⟩
theorem Rv.lZ(h:Rv v sz af){off:Nat}(k:j<af.length):Den.lZ n (fa v j off)= .no:=by
 obtain⟨g,a,l⟩:=h ⟨[],none⟩;cases v<;>simp only[]at g
 ·simp only[Den.elems]at a;grind
 ·rfl
 ·trivial
def Rv.atM{α:Type}{g:α->lA}{l:List α}(h:Rv v sz (l.map g)){off:Nat}(a:j<l.length):Den.lZ n (fa v j off)= .no:=h.lZ (by grind)
theorem Jo{x:FP}:FP.ok .no x=true:=by rfl
def Jp{x:FP}:FP.ok x .no=true:=by cases x<;>rfl
theorem Jq{b c h g:Nat}:FP.ok (.rd a b c) (.rd a' h g)=true:=rfl
theorem Jr{b c:Nat}:FP.ok (.rd a b c) .q=true:=rfl
theorem Js{b c:Nat}:FP.ok .q (.rd a b c)=true:=rfl
theorem Jt:FP.ok .q .q=true:=rfl
theorem afB{b c:Nat}:FP.ok .rr (.rd a b c)=true/\FP.ok (.rd a b c) .rr=true/\FP.ok .rr (.wr a b c)=true/\FP.ok (.wr a b c) .rr=true:=⟨rfl,rfl,rfl,rfl⟩
theorem afC:FP.ok .rr .q=true/\FP.ok .q .rr=true/\FP.ok .rr .rr=true:=⟨rfl,rfl,rfl⟩
theorem Ju{b c:Nat}:FP.ok (.rd a b c) .app=true:=rfl
theorem Jv{b c:Nat}:FP.ok .app (.rd a b c)=true:=rfl
theorem Jw{b c g h:Nat}:FP.ok (.rd a b c) (.wr a' g h)=(a !=a'||b+c<=g||g+h<=b):=rfl
theorem Jx{b c g h:Nat}:FP.ok (.wr a b c) (.rd a' g h)=(a !=a'||b+c<=g||g+h<=b):=rfl
end
def q0(bJ:List FP)(x:FP):lN->Bool
 | []=>true
 |j::js=>(bJ.getD j .all).ok x&&q0 bJ x js
theorem Q8{bJ:List FP}{x:FP}: ∀js:lN,js.all (λj=>(bJ.getD j .all).ok x)=q0 bJ x js
 | []=>rfl
 |j::js=>by simp only[auK,q0,Q8 js]
def kD(X:Ctx)(i:I)(cq:AS)(bJ:List FP)(js:lN)(os:List (aP×lN))(d:oN)(e:Env)(ms:lN)(Q:bU):AV->AS->Prop:=λv E=>
 q0 bJ (aW i e cq E) js=true/\gw X (bJ++[aW i e cq E]) os (Fr.put ⟨e,ms⟩ d v) E Q
def kF(bJ:List FP)(i:I)(d:oN)(js:lN)(os:List (aP×lN))(e:Env)(ms:lN)(Q:bU):AV->AS->Prop:=λv E=>DW bJ (⟨none,d,i⟩,js) os=true/\Q (.panic v) ⟨e,ms⟩ E
def afD{X:Ctx}{E:AS}{Q:bU}{ms:lN}{bJ:List FP}{js:lN}{os:List (aP×lN)}{i:I}:gw X bJ ((⟨none,d,i⟩,js)::os) ⟨e,ms⟩ E Q=aQ X i e E (kD X i E bJ js os d e ms Q) (kF bJ i d js os e ms Q):=by
 apply propext;simp only[gw,aQ,gh,fS,ajQ];cases g:exec X (D X) i e E with
 |none=>simp[qY]
 |some o=>
  cases o with
  |ok v E'=>
   simp only[qY,Q8];by_cases a:q0 bJ (aW i e E E') js=true
   ·rw[aaR a];exact⟨λh=>⟨a,h⟩,λh=>h.2⟩
   ·simp[kD,a]
  |panic v E'=>
   simp only[qY,kF]
   grind
section
variable{X:Ctx}{f:FuncId}{rd:Bool}{E cq:AS}{Q:bU}{e:Env}{ms:lN}{bJ:List FP}{js:lN}{os:List (aP×lN)}{i:I}{d:Nat}{v:AV}
def afE:gw X bJ [] ⟨e,ms⟩ E Q=Q .normal ⟨e,ms⟩ E:=propext (by simp only[gw,gh];grind)
def afF:gw X bJ ((o d i,js)::os) ⟨e,ms⟩ E Q=aQ X i e E (kD X i E bJ js os (some d) e ms Q) (kF bJ i (some d) js os e ms Q):=afD
def afG:gw X bJ ((u i,js)::os) ⟨e,ms⟩ E Q=aQ X i e E (kD X i E bJ js os none e ms Q) (kF bJ i none js os e ms Q):=afD
theorem afH:kD X i cq bJ js os (some d) e ms Q v E=(q0 bJ (aW i e cq E) js=true/\gw X (bJ++[aW i e cq E]) os ⟨e.set d v,ms⟩ E Q):=rfl
theorem afI:kD X i cq bJ js os none e ms Q v E=(q0 bJ (aW i e cq E) js=true/\gw X (bJ++[aW i e cq E]) os ⟨e,ms⟩ E Q):=rfl
theorem afJ{x:FP}:q0 bJ x []=true:=rfl
theorem afK{x:FP}:q0 bJ x (j::js)=((bJ.getD j .all).ok x&&q0 bJ x js):=rfl
def afL{H:List ae}:wp X f rd (.uP os) ⟨e,ms⟩ ⟨H,lo⟩ Q=gw X [] (gW H.length os) ⟨e,ms⟩ ⟨H++dy os,lo⟩ Q:=as3
theorem afM{x y:FP}{l:List FP}: (x::l).getD 0 y=x:=rfl
end
def dj:I->Option ae
 |.alloc z tg=>some (.box z tg)
 |_=>none
theorem afN{d:Nat}{i:I}:aP.fH (o d i)=dj i:=by rfl
theorem afO{i:I}:aP.fH (u i)=dj i:=by rfl
theorem afP{i:I}:aP.fH (gt t d i)=dj i:=by rfl
theorem afQ{i:I}:aP.fH (gf t d i)=dj i:=by rfl
def iL(n:Nat)(x:aP)(l:lN)(os:List (aP×lN)):Option ae->List (aP×lN)
 |none=>(x,l)::gW n os
 |some _=>({x with i:=.mov (.c (.ptr n 0))},l)::gW (n+1) os
def zC(os:List (aP×lN)):Option ae->List ae
 |none=>dy os
 |some b=>b::dy os
theorem afR:gW n []=[]:=rfl
def afS{x:aP}{l:lN}{os:List (aP×lN)}:gW n ((x,l)::os)=iL n x l os x.fH:=by
 simp only[gW,lU];cases x.fH<;>rfl
theorem afT{x:aP}{l:lN}{os:List (aP×lN)}:iL n x l os none=(x,l)::gW n os:=rfl
theorem afU{d:Nat}{i:I}{l:lN}{os:List (aP×lN)}{b:ae}:iL n (o d i) l os (some b)=(o d (.mov (.c (.ptr n 0))),l)::gW (n+1) os:=rfl
theorem afV{i:I}{l:lN}{os:List (aP×lN)}{b:ae}:iL n (gt t d i) l os (some b)=(gt t d (.mov (.c (.ptr n 0))),l)::gW (n+1) os:=rfl
theorem afW{i:I}{l:lN}{os:List (aP×lN)}{b:ae}:iL n (gf t d i) l os (some b)=(gf t d (.mov (.c (.ptr n 0))),l)::gW (n+1) os:=rfl
theorem afX:dy []=[]:=rfl
def afY{x:aP}{l:lN}{os:List (aP×lN)}:dy ((x,l)::os)=zC os x.fH:=by
 simp only[dy];cases x.fH<;>rfl
theorem afZ{os:List (aP×lN)}:zC os none=dy os:=rfl
theorem af0{os:List (aP×lN)}{b:ae}:zC os (some b)=b::dy os:=rfl
theorem af1:dj (.alloc z tg)=some (.box z tg):=rfl
theorem af2{a:_}:dj (.mov a)=none:=rfl
theorem af3{h:_}{g:_}{a:_}:dj (.pick h g a)=none:=rfl
theorem af4{g:_}{a:_}:dj (.box g a)=none:=rfl
theorem af5{g:_}{a:_}:dj (.build g a)=none:=rfl
theorem af6{h:_}{g:_}{a:_}:dj (.bslice h g a)=none:=rfl
theorem af7{j:_}{h:_}{g:_}{a:_}:dj (.sv j h g a)=none:=rfl
theorem af8{h:_}{g:_}{a:_}:dj (.load h g a)=none:=rfl
theorem af9{h:_}{g:_}{a:_}:dj (.store h g a)=none:=rfl
theorem aga{a:_}:dj (.nilck a)=none:=rfl
theorem agb{h:_}{g:_}{a:_}:dj (.bin h g a)=none:=rfl
theorem agc{h:_}{g:_}{a:_}:dj (.shf h g a)=none:=rfl
theorem agd{h:_}{g:_}{a:_}:dj (.eq h g a)=none:=rfl
theorem age{h:_}{g:_}{a:_}:dj (.ne h g a)=none:=rfl
theorem agf{g:_}{a:_}:dj (.un g a)=none:=rfl
theorem agh{g:_}{a:_}:dj (.conv g a)=none:=rfl
theorem agi{a:_}:dj (.s2b a)=none:=rfl
theorem agj{g:_}{a:_}:dj (.mki g a)=none:=rfl
theorem agk{h:_}{g:_}{a:_}:dj (.mkf h g a)=none:=rfl
theorem agl:dj .oc=none:=rfl
theorem agm{h:_}{g:_}{a:_}:dj (.slstr h g a)=none:=rfl
theorem agn{k:_}{j:_}{h:_}{g:_}{a:_}:dj (.slsl k j h g a)=none:=rfl
theorem ago{k:_}{j:_}{h:_}{g:_}{a:_}:dj (.slarr k j h g a)=none:=rfl
theorem agp{g:_}{a:_}:dj (.faddr g a)=none:=rfl
theorem agq{j:_}{h:_}{g:_}{a:_}:dj (.fld j h g a)=none:=rfl
theorem agr{j:_}{h:_}{g:_}{a:_}:dj (.iaddra j h g a)=none:=rfl
theorem ags{h:_}{g:_}{a:_}:dj (.iaddrs h g a)=none:=rfl
theorem agt{k:_}{j:_}{h:_}{g:_}{a:_}:dj (.idxa k j h g a)=none:=rfl
theorem agu{g:_}{a:_}:dj (.idxs g a)=none:=rfl
theorem agv{k:_}{j:_}{h:_}{g:_}{a:_}:dj (.lookup k j h g a)=none:=rfl
theorem agw{j:_}{h:_}{g:_}{a:_}:dj (.pA j h g a)=none:=rfl
theorem agx{j:_}{h:_}{g:_}{a:_}:dj (.ta j h g a)=none:=rfl
theorem agy{g:_}{a:_}:dj (.ext g a)=none:=rfl
theorem agz{g:_}{a:_}:dj (.len g a)=none:=rfl
theorem agA{k:_}{j:_}{h:_}{g:_}{a:_}:dj (.append k j h g a)=none:=rfl
theorem agB{h:_}{g:_}{a:_}:dj (.copy h g a)=none:=rfl
theorem agC{g:_}{a:_}:dj (.clear g a)=none:=rfl
theorem agD{a:_}:dj (.max a)=none:=rfl
theorem agE{a:_}:dj (.min a)=none:=rfl
theorem agF{g:_}{a:_}:dj (.call g a)=none:=rfl
theorem agG{a:_}:dj (.panic a)=none:=rfl
def N1:=gG @afN<|gG @afO<|gG @afP<|gG @afQ<|gG @afR<|gG @afS<|gG @afT<|gG @afU<|gG @afV<|gG @afW<|gG @afX<|gG @afY<|gG @afZ<|gG @af0<|gG @af1<|gG @af2<|gG @af3<|gG @af4<|gG @af5<|gG @af6<|gG @af7<|gG @af8<|gG @af9<|gG @aga<|gG @agb<|gG @agc<|gG @agd<|gG @age<|gG @agf<|gG @agh<|gG @agi<|gG @agj<|gG @agk<|gG @agl<|gG @agm<|gG @agn<|gG @ago<|gG @agp<|gG @agq<|gG @agr<|gG @ags<|gG @agt<|gG @agu<|gG @agv<|gG @agw<|gG @agx<|gG @agy<|gG @agz<|gG @agA<|gG @agB<|gG @agC<|gG @agD<|gG @agE<|gG @agF @agG
def P1:=gG @afL<|gG @afE<|gG @afF<|gG @afG<|gG @afH<|gG @afI<|gG @afJ<|gG @afK<|gG @afM<|gG @aft<|gG @afu<|gG @afv<|gG @afw<|gG @afx<|gG @afy<|gG @afz<|gG @afA<|gG @Jo<|gG @Jp<|gG @Jq<|gG @Jr<|gG @Js<|gG @Jt<|gG @afB<|gG @afC<|gG @Ju<|gG @Jv<|gG @Jw<|gG @Jx<|gG @aeR<|gG @aeS<|gG @aeT<|gG @aeU<|gG @aeV<|gG @aeW<|gG @aeX<|gG @aeY<|gG @aeZ<|gG @ae0<|gG @ae1<|gG @ae2<|gG @ae3<|gG @ae4<|gG @ae5<|gG @ae6<|gG @ae7<|gG @ae8<|gG @ae9<|gG @afa<|gG @afb<|gG @afc<|gG @afd<|gG @afe<|gG @aff<|gG @afg<|gG @afh<|gG @afi<|gG @afj<|gG @afk<|gG @afl<|gG @afm<|gG @afn<|gG @afo<|gG @afp<|gG @afq<|gG @afr @afs
def atN{X:Ctx}(pf:PF){args cap:lA}{H:List ae}{a:aS}(g:X.bZ f=none)(k:X.code f=some pf)(j:Nat.ble (args++cap).length pf.ntmps=true)
 (h: ∀n,H.length=n->wp X f false pf.body ⟨dc (args++cap),[]⟩ ⟨H,none⟩ (dw X n lo pf.results (· =a))):D X (.fn (.func f) [] cap) args ⟨H,lo⟩=some a:=by grind [Nat.le_of_ble_eq_true,abK]
def atO{X:Ctx}{rd:Bool}{E:AS}{Q:bU}(m:Nat)(I:Nat->Env->List ae->Prop){H:List ae}(k:Nat)(g:k<=m)(n:I k e H)
  (l: ∀k,k<=m-> ∀e H,I k e H->wp X f rd b ⟨e,[]⟩ ⟨H,none⟩ (λex a E'=>match ex with|.normal=>k<m/\ ∃h H',a=⟨h,[]⟩/\E'=⟨H',none⟩/\I (k+1) h H'|ex=>Q ex a E')):wp X f rd (.loop b) ⟨e,[]⟩ ⟨H,none⟩ Q:=by
 refine wp_loop (S:=Nat) (λk fr E=>k<=m/\ ∃e H,fr=⟨e,[]⟩/\E=⟨H,none⟩/\I k e H) (λk=>m-k) k ⟨g,e,H,rfl,rfl,n⟩ ?_;rintro k fr E ⟨g,e,H,rfl,rfl,j⟩;refine wp_mono (l k g e H j) ?_
 grind
def Bl(k m:Nat)(I:Nat->Env->List ae->Prop)(Q:bU):bU:=λex a E'=>match ex with|.normal=>k<m/\ ∃g H',a=⟨g,[]⟩/\E'=⟨H',none⟩/\I (k+1) g H'|ex=>Q ex a E'
def agH{I:Nat->Env->List ae->Prop}{Q:bU}{H:List ae}:Bl k m I Q .normal ⟨e,[]⟩ ⟨H,none⟩=(k<m/\I (k+1) e H):=by
 simp only[Bl]
 grind
theorem agI{I:Nat->Env->List ae->Prop}{Q:bU}{fr:Fr}{E:AS}:Bl k m I Q (.exit i) fr E=Q (.exit i) fr E:=rfl
theorem agJ{I:Nat->Env->List ae->Prop}{Q:bU}{fr:Fr}{E:AS}:Bl k m I Q .ret fr E=Q .ret fr E:=rfl
theorem agK{I:Nat->Env->List ae->Prop}{Q:bU}{fr:Fr}{E:AS}:Bl k m I Q (.panic v) fr E=Q (.panic v) fr E:=rfl
def dB{X:Ctx}{rd:Bool}{Q:bU}(m:Nat)(I:Nat->Env->List ae->Prop){H:List ae}(k:Nat)(a:k<=m)(j:I k e H)
  (h: ∀k,k<=m-> ∀e H,I k e H-> ∀n,H.length=n->wp X f rd b ⟨e,[]⟩ ⟨H,none⟩ (Bl k m I Q)):wp X f rd (.loop b) ⟨e,[]⟩ ⟨H,none⟩ Q:=
 atO (E:=⟨H,none⟩) m I k a j λk a e H g=>h k a e H g _ rfl
def Bm(k m:Nat)(I:Nat->Env->List ae->oN->Prop)(Q:bU):bU:=λex a E'=>match ex with|.normal=>k<m/\a.marks=[]/\I (k+1) a.env E'.heap E'.lo|ex=>Q ex a E'
def agL{I:Nat->Env->List ae->oN->Prop}{Q:bU}{H:List ae}:Bm k m I Q .normal ⟨e,[]⟩ ⟨H,lo⟩=(k<m/\I (k+1) e H lo):=by
 simp[Bm]
theorem agM{I:Nat->Env->List ae->oN->Prop}{Q:bU}{fr:Fr}{E:AS}:Bm k m I Q (.exit i) fr E=Q (.exit i) fr E:=rfl
theorem agN{I:Nat->Env->List ae->oN->Prop}{Q:bU}{fr:Fr}{E:AS}:Bm k m I Q .ret fr E=Q .ret fr E:=rfl
def gX{X:Ctx}{rd:Bool}{Q:bU}(m:Nat)(I:Nat->Env->List ae->oN->Prop){H:List ae}(k:Nat)(g:k<=m)(o:I k e H lo)
  (l: ∀k,k<=m-> ∀e H lo,I k e H lo-> ∀n,H.length=n->wp X f rd b ⟨e,[]⟩ ⟨H,lo⟩ (Bm k m I Q)):wp X f rd (.loop b) ⟨e,[]⟩ ⟨H,lo⟩ Q:=by
 refine wp_loop (S:=Nat) (λk fr E=>k<=m/\fr.marks=[]/\I k fr.env E.heap E.lo) (λk=>m-k) k ⟨g,rfl,o⟩ ?_;rintro k ⟨e,ms⟩ ⟨H,lo⟩ ⟨g,a,j⟩;subst a;refine wp_mono (l k g e H lo j _ rfl) ?_;intro ex fr E h;cases ex with
 |normal=>
  obtain⟨r,q,p⟩:=h
  grind
 |_=>exact h
section
variable{S:Type}{I:S->Env->List ae->Prop}{μ:S->Nat}{s:S}{Q:bU}
end
def Jy(X:Ctx)(f:FuncId)(rd:Bool)(b:PC)(Q:bU):bU
 |.normal,fr,E=>wp X f rd (.loop b) fr E Q
 |ex,fr,E=>Q ex fr E
section
variable{X:Ctx}{f:FuncId}{rd:Bool}{b:PC}{fr:Fr}{E:AS}{Q:bU}{i:Nat}{v:AV}
theorem agO:Jy X f rd b Q .normal fr E=wp X f rd (.loop b) fr E Q:=rfl
theorem agP:Jy X f rd b Q (.exit i) fr E=Q (.exit i) fr E:=rfl
theorem agQ:Jy X f rd b Q .ret fr E=Q .ret fr E:=rfl
theorem agR:Jy X f rd b Q (.panic v) fr E=Q (.panic v) fr E:=rfl
end
theorem agS{a:Env}:wQ e [] a=a:=rfl
theorem agT{g:Env}{a:lN}:wQ e (t::a) g=(wQ e a g).set t (e t):=rfl
def agU{p:Prop}[Decidable p]: (!decide p)=decide (¬p):=by simp
theorem agV:gx []=[]:=rfl
theorem agW{i:I}{os:List aP}:gx (o a i::os)=a::gx os:=rfl
theorem agX{i:I}{os:List aP}:gx (u i::os)=gx os:=rfl
theorem agY{i:I}{os:List aP}:gx (gt t (some a) i::os)=a::gx os:=rfl
theorem agZ{i:I}{os:List aP}:gx (gf t (some a) i::os)=a::gx os:=rfl
theorem ag0{i:I}{os:List aP}:gx (gt t none i::os)=gx os:=rfl
theorem ag1{i:I}{os:List aP}:gx (gf t none i::os)=gx os:=rfl
theorem ag2{i:I}{os:List aP}:gx (⟨none,some a,i⟩::os)=a::gx os:=rfl
theorem ag3{i:I}{os:List aP}:gx (⟨none,none,i⟩::os)=gx os:=rfl
theorem ag4:sP [] t=false:=rfl
theorem ag5{as:lN}:sP (a::as) t=(a==t||sP as t):=rfl
def ff: (false=true)=False:=by simp
def tt: (true=true)=True:=by simp
def C1:=gG @aeP<|gG @agL<|gG @agM<|gG @agN<|gG @agO<|gG @agP<|gG @agQ<|gG @agR<|gG @agH<|gG @agI<|gG @agJ<|gG @agK<|gG @aeL<|gG @aeM<|gG @at0<|gG @at3<|gG @axG<|gG @aoC<|gG @agS<|gG @agT<|gG @agU<|gG @agV<|gG @agW<|gG @agX<|gG @agY<|gG @agZ<|gG @ag0<|gG @ag1<|gG @ag2<|gG @ag3<|gG @ag4<|gG @ag5<|gG @ff @aeN
def aF{X:Ctx}(pf:PF){args:lA}{H:List ae}{a:aS}
 (h: ∀n,H.length=n->wp X f false pf.body ⟨dc args,[]⟩ ⟨H,none⟩ (dw X n lo pf.results (· =a))) (g:X.bZ f=none:=by exact rfl) (k:X.code f=some pf:=by exact rfl) (j:Nat.ble args.length pf.ntmps=true:=by exact rfl):D X (.fn (.func f) [] []) args ⟨H,lo⟩=some a:=QQ pf g k j h
def cE{X:Ctx}(pf:PF){args:lA}{H:List ae}{R:aS->Prop}
 (h: ∀n,H.length=n->wp X f false pf.body ⟨dc args,[]⟩ ⟨H,none⟩ (dw X n lo pf.results R)) (g:X.bZ f=none:=by exact rfl) (k:X.code f=some pf:=by exact rfl) (j:Nat.ble args.length pf.ntmps=true:=by exact rfl): ∃a,D X (.fn (.func f) [] []) args ⟨H,lo⟩=some a/\R a:=atG pf g k j h
def fb{X:Ctx}(pf:PF){args cap:lA}{H:List ae}{a:aS}
 (h: ∀n,H.length=n->wp X f false pf.body ⟨dc (args++cap),[]⟩ ⟨H,none⟩ (dw X n lo pf.results (· =a))) (g:X.bZ f=none:=by exact rfl) (k:X.code f=some pf:=by exact rfl) (j:Nat.ble (args++cap).length pf.ntmps=true:=by exact rfl):D X (.fn (.func f) [] cap) args ⟨H,lo⟩=some a:=atN pf g k j h
section
variable{P:Program}{X:Ctx}{B:Nat}{av:World}{cY:List Deferred}
section
variable{C:bA}(hC:fP P B av C)(hg:fz X B av){r:oN}{n nt:Nat}{rows:Bool}
include hC hg
theorem Q9{c:Array Oper}(j:lN): ∀ (os:List Oper) (is:lN) (l:List aP),is.map (c[·]?)=os.map some->k0 P rows c os=some l->(∀x∈l,∀d,x.dst=some d->d<nt)->
  ∀ (G:Gh) (E:AS) (w:World) (fr:Fr) (a:Act) (res:Ex×Fr×AS) (Q:Exit->Act->World->Prop),aV P B av G E w->cK G nt fr.env a.tmps->gi cY G fr.marks a.defers->eN X C l fr E=some res->
  (∀a w,res.1= .normal->mD P B av cY G E nt res .normal a w->wpOpsIn (W r) n P c Q j a w)->(∀e a w,res.1≠ .normal->mD P B av cY G E nt res e a w->Q e a w)->wpOpsIn (W r) n P c Q (is++j) a w
 | [],is,l,p,m,q,G,E,w,fr,a,res,Q,hw,he,hm,hr,z,u=>by
   have:is=[]:=by simp_all
   subst this;simp only[k0,aaQ]at m;subst m;simp only[eN,aaQ]at hr;subst hr;exact z _ _ rfl ⟨G,G.le_refl,hw,he,hm,.refl E,trivial⟩
 |o::os,is,l,p,m,q,G,E,w,fr,a,res,Q,hw,he,hm,hr,z,u=>by
  cases is with
  |nil=>grind
  |cons i is=>
   simp only[ape,aAL]at p;obtain⟨F,p⟩:=p;simp only[k0]at m;split at m
   ·rename_i x xs g s;cases m;simp only[ajW,wpOpsIn,F];have H:guardOf c o=some x.g:=by
     unfold iq at g;split at g
     ·rename_i I;cases g;exact I
     ·cases g
    have t:x.dst=o.dst:=by
     unfold iq at g;split at g
     ·cases g;rfl
     ·cases g
    have D:=yF he H;simp only[eN]at hr;rw[D];split at hr
    ·rename_i k;rw[aaR k];split at hr
     ·rename_i v M hex;refine yG hC hg g (q x (by simp)) hw he hm hex (λb f e V a' w' K I J T S=>?_) (λb f e=>by cases e);cases e;exact Q9 j os is xs p s (λy A=>q y (by simp[A])) V M w' _ a' res Q I T S hr (λa w e h=>z a w e (h.trans K J)) (λe a w U h=>u e a w U (h.trans K J))
     ·rename_i v M hex;cases hr;exact yG hC hg g (q x (by simp)) hw he hm hex (λb f e=>by cases e) (λb f e Y a' w' h=>by cases e;exact u _ _ _ (by simp) h)
     ·cases hr
    ·rename_i k;rw[aaH k];refine⟨λ_ _=>trivial,?_⟩;obtain⟨R,O,N⟩:=qS (a:=a) he (q x (by simp)) (v:=.undef) (v':=undef) yE;rw[<-t];exact Q9 j os is xs p s (λy A=>q y (by simp[A])) G E w _ _ res Q hw R (by rw[O,N];exact hm) hr z u
   grind
end
structure wR where
 dst:Nat
 pf:PF
 deriving Inhabited
def ag6(o:Oper):Bool:=match o.op with
 |.call c=>match c.callee,c.args.toList,o.guard with
  |.builtin .recover,[],none=>true
  |_,_,_=>false
 |_=>false
def Ra(o:Oper):Bool:=match o.op,o.guard with
 |.move _,none=>true
 |.assign _,none=>true
 |_,_=>false
def ag7(P:Program)(rows:Bool)(nt:Nat):Code->Option (Nat×PC)
 |.seq (.region _ ops false) b=>match ops.toList with
  |o::os=>match o.dst,k0 P rows ops os,eO P rows nt b with
   |some d,some xs,some a=>if ag6 o=true/\os.all Ra=true/\d<nt/\xs.all (λx=>match x.dst with|some d=>d<nt|none=>true)then some (d,.seq (.aL xs) a)else none
   |_,_,_=>none
  | []=>none
 |_=>none
def Bn(P:Program)(rows:Bool)(fn:Func):Option wR:=
 match fn.body with
 |some c=>match ag7 P rows fn.ntmps c,pD P fn.results.toList with
  |some (d,b),some rs=>if(fn.name != "runtime.NumGoroutine")then some ⟨d,{ntmps:=fn.ntmps,results:=rs,body:=b}⟩else none
  |_,_=>none
 |none=>none
noncomputable def Jz(X:Ctx)(C:bA)(L:eu)(g:FuncId)(pr:wR)(args:lA)(rv:AV)(E:AS):Option AS:=
 if args.length<=pr.pf.ntmps then
  match a0 X C L g false pr.pf.body {env:=(dc args).set pr.dst rv,marks:=[]} {E with lo:=none}with
  |some (.normal,⟨e,[]⟩,a)=>(fy X a e pr.pf.results).map λv=>(finish E.heap.length E.lo v a).2
  |some (.ret,⟨e,[]⟩,a)=>(fy X a e pr.pf.results).map λv=>(finish E.heap.length E.lo v a).2
  |_=>none
 else none
def ag8(G:Gh)(u:FrameMode)(rv:AV):Prop:=
 (u= .returning/\rv= .eI)\/ ∃v',u= .panicking [{v:=v',recovered:=false}]/\an G rv v'
section
variable{C:bA}(hC:fP P B av C)(hg:fz X B av)(hX:pG P X)(gv:A5 P X B av){L:eu}(hL:yH L)
include hC hg hX gv hL
omit hC hg hX gv hL in
theorem ag9{n nt:Nat}{rows:Bool}{b:Array Oper}{cs:List Frame}: ∀ (os:List Oper) (is:lN) (l:List aP),is.map (b[·]?)=os.map some->k0 P rows b os=some l->os.all Ra=true->(∀x∈l,∀d,x.dst=some d->d<nt)->
  ∀ (G:Gh) (E:AS) (w:World) (fr:Fr) (a:Act) (Q:Exit->Act->List Frame->World->Prop) (res:Ex×Fr×AS),aV P B av G E w->cK G nt fr.env a.tmps->gi [] G fr.marks a.defers->eN X C l fr E=some res->
  (∀a' m,res=(.normal,m,E)->cK G nt m.env a'.tmps->gi [] G m.marks a'.defers->Q .normal a' cs w)->wpOpsSIn (W none) n P b Q is a cs w
 | [],is,l,k,h,_,I,G,E,w,fr,a,Q,res,hw,he,hm,hr,J=>by
   have:is=[]:=by simpa using k
   subst this;simp only[k0,aaQ]at h;subst h;simp only[eN,aaQ]at hr;exact J a fr hr.symm he hm
 |o::os,is,l,k,h,e,I,G,E,w,fr,a,Q,res,hw,he,hm,hr,J=>by
  cases is with
  |nil=>simp at k
  |cons i is=>
   simp only[ape,aAL]at k;obtain⟨H,k⟩:=k;simp only[auK,ajI]at e;obtain⟨j,e⟩:=e;simp only[k0]at h;split at h
   ·rename_i x xs c A;cases h;have q: (∃z,(o.op= .move z\/o.op= .assign z))/\o.guard=none:=by
     unfold Ra at j;split at j
     ·rename_i z u t;exact⟨⟨_,.inl u⟩,t⟩
     ·rename_i z u t;exact⟨⟨_,.inr u⟩,t⟩
     ·cases j
    obtain⟨⟨z,f⟩,s⟩:=q;have D: ∃y,bM z=some y/\x={g:=none,dst:=o.dst,i:=.mov y}:=by
     unfold iq at c;have u:guardOf b o=some none:=by unfold guardOf;rw[s]
     rw[u]at c;have t:kZ P rows o=(bM z).map .mov:=by
      rcases f with f|f<;>simp only[kZ,f]
     rw[t]at c;cases v:bM z with
     |none=>rw[v]at c;cases c
     |some y=>rw[v]at c;cases c;exact⟨y,rfl,rfl⟩
    obtain⟨y,v,rfl⟩:=D;have p: (execOp a.eval o).run P w= .ok (.value (a.eval z)) w:=by
     rcases f with f|f<;>(unfold execOp;simp only[f];rfl)
    simp only[wpOpsSIn,H];have F:Region.wanted o (yielded b a.tmps)=true:=by simp[Region.wanted,s]
    rw[aaR F,p];refine⟨λ_ _=>trivial,?_⟩;simp only[eN,fS,ajQ,exec]at hr;obtain⟨N,M,K⟩:=qS (a:=a) (dst:=o.dst) he (I {g:=none,dst:=o.dst,i:=.mov y} (by simp)) (cD he v);exact ag9 os is xs k A e (λx c=>I x (by simp[c])) G E w _ _ Q res hw N (by rw[M,K];exact hm) hr J
   ·cases h
theorem atP{g:FuncId}{fn:Func}{pr:wR}{rows:Bool}(hfn:P.funcs[g]?=some fn)(q:Bn P rows fn=some pr){args:lA}{E f:AS}{rv:AV}
  (h:Jz X C L g pr args rv E=some f) {G:Gh}  {a:Array Value} (hw:aV P B av G E w) (hl:aD G args a.toList) {u:FrameMode} (hu:ag8 G u rv):
  CallsDIn (W none) n P g a u w (λe A w'=>settle A= .returning/\ ∃v K,e= .returned v/\G.le K/\aV P B av K f w'/\E.Ext f):=by
 unfold Bn at q;split at q
 case h_2=>grind
 rename_i c hb;split at q
 case h_2=>grind
 rename_i d b rs p hrs;split at q
 case isFalse=>grind
 cases q;unfold ag7 at p;split at p
 case h_2=>cases p
 rename_i id ops b';split at p
 case h_2=>cases p
 rename_i o os y;split at p
 case h_2=>cases p
 rename_i d' xs pb Rb wS hpb;split at p
 case isFalse=>cases p
 rename_i U;cases p;obtain⟨I,hmv,hdn,y4⟩:=U;unfold Jz at h;split at h
 case isFalse=>cases h
 rename_i z;simp only at z h;cases H:a0 X C L g false (.seq (.aL xs) pb) {env:=(dc args).set d rv,marks:=[]} {E with lo:=none}with
 |none=>rw[H]at h;cases h
 |some res=>
 have k:=H;simp only[a0]at k;cases s:eN X C xs {env:=(dc args).set d rv,marks:=[]} {E with lo:=none}with
 |none=>rw[s]at k;cases k
 |some Y=>
 rw[s]at k;refine callsDIn_of_wpSIn hfn hb trivial λl cs T=>?_
 refine wpSIn_seq (wpSIn_region ?_);have aF8:0<ops.size:=by rw[<-anc,y];simp
 have M:List.range ops.size=0:: (List.range' 1 (ops.size-1)):=by
  rw[aBq,show ops.size=(ops.size-1)+1 by omega,List.range'_succ];simp
 have h0:ops[0]?=some o:=by rw[<-asv,y];rfl
 rw[M];simp only[wpOpsSIn,h0];have atW: (∃c,o.op= .call c/\c.callee= .builtin .recover/\c.args.toList=[])/\o.guard=none:=by
  unfold ag6 at I;split at I
  ·rename_i c R;split at I
   ·rename_i h1 h2 h3;exact⟨⟨c,R,h1,h2⟩,h3⟩
   ·cases I
  ·cases I
 obtain⟨⟨cc,R,Rc,aF9⟩,iu⟩:=atW;have Re: ∀t:Array Value,Region.wanted o (yielded ops t)=true:=λt=>by simp[Region.wanted,iu]
 have S: ∀ρ,(execOp ρ o).run P w= .ok .recover w:=by
  intro ρ;unfold execOp;simp only[R,resolve,Rc];simp[invoke,builtin]
 rw[aaR (Re _),S];refine⟨λ_ _=>trivial,?_⟩;have he0:cK G fn.ntmps (dc args) (a++Array.replicate (fn.ntmps-a.size) undef):=IN hl z;have Rf: (List.range' 1 (ops.size-1)).map (ops[·]?)=os.map some:=by
  apply apn;intro j;have hos:os.length=ops.size-1:=by
   have:ops.toList.length=os.length+1:=by rw[y];rfl
   rw[anc]at this;omega
  by_cases hj:j<os.length
  ·have e1: (List.range' 1 (ops.size-1))[j]?=some (1+j):=by
     rw[List.getElem?_range' (by omega)];simp
   simp only[ajP,e1,ah6,abe hj];rw[<-asv,y,Nat.add_comm,axr,abe hj]
  ·rw[ana (by simp;omega),ana (by simp;omega)]
 have atY: ∀x∈xs,∀d,x.dst=some d->d<fn.ntmps:=by
  intro x hx d Z;have:=ajD.1 y4 x hx;rw[Z]at this;simpa using this
 have key: ∀ (v':Value) (N:List Frame) (A:FrameMode),an G rv v'->settle A= .returning->N={l with mode:=A}::cs->
   wpOpsSIn (W none) n P ops (Exit.thenS (b'.wpSIn (W none) n P (bodyPostS P fn l cs (λe A w'=>settle A= .returning/\ ∃v K,e= .returned v/\G.le K/\aV P B av K f w'/\E.Ext f))) (bodyPostS P fn l cs (λe A w'=>settle A= .returning/\ ∃v K,e= .returned v/\G.le K/\aV P B av K f w'/\E.Ext f)))
    (List.range' 1 (ops.size-1)) (Act.put {tmps:=a++Array.replicate (fn.ntmps-a.size) undef,defers:=[]} o.dst v') N w:=by
  intro v' N A hv O IG;rw[Rb];have he1:cK G fn.ntmps ((dc args).set d rv) (Act.put {tmps:=a++Array.replicate (fn.ntmps-a.size) undef,defers:=[]} (some d) v').tmps:=he0.set hdn hv;refine ag9 os _ xs Rf wS hmv atY G {E with lo:=none} w {env:=(dc args).set d rv,marks:=[]} _ _ Y (hw.lo none) he1 rfl s (λa1 JA Q he2 Bo=>?_);subst Q;simp only at k;simp only[Exit.thenS];refine wpSIn_of_wpIn rfl (wJ hC hg hX gv hL (r:=none) rfl b' pb hpb G {E with lo:=none} w JA a1 res _ (hw.lo none) he2 Bo k (λe a2 w2 at1=>?_));obtain⟨G2,q1,q2,q3,q4,q5,q6⟩:=at1;obtain⟨ex,⟨e2,ms⟩,V⟩:=res;rw[H]at h;have fin:ms=[]->(∃v,fy X V e2 rs=some v/\ (finish E.heap.length E.lo v V).2=f)->(e= .normal\/e= .ret)->bodyPostS P fn l cs (λe A w'=>settle A= .returning/\ ∃v K,e= .returned v/\G.le K/\aV P B av K f w'/\E.Ext f) e a2 N w2:=by
   intro hms ⟨v,F,D⟩ hee;subst hms;obtain⟨v2,r1,r2⟩:=Ef hg q2 q3 hrs F;obtain⟨G3,p1,p2,p3,p4⟩:=yB hw q1 q2 q5 r2;rw[D]at p2 p4;have hd2:a2.defers=[]:=q4;rcases hee with rfl|rfl
   ·exact⟨hd2,A,IG,v2,r1,O,v2,G3,rfl,p1,p2,p4⟩
   ·exact⟨hd2,A,IG,v2,r1,O,v2,G3,rfl,p1,p2,p4⟩
  cases ex with
  |normal=>
   cases ms with
   |cons m ms=>cases h
   |nil=>
    obtain⟨v,F,D⟩:=ah3.1 h;cases e<;>simp[fQ]at q6;exact fin rfl ⟨v,F,D⟩ (.inl rfl)
  |ret=>
   cases ms with
   |cons m ms=>cases h
   |nil=>
    obtain⟨v,F,D⟩:=ah3.1 h;cases e<;>simp[fQ]at q6;exact fin rfl ⟨v,F,D⟩ (.inr rfl)
  |exit i=>cases h
  |panic v=>cases h
 rcases hu with⟨rfl,rfl⟩| ⟨v',rfl,hv⟩
 ·have J:recoverD (l::cs)=none:=by simp[recoverD,T]
  simp only[J];refine key .nilIface (l::cs) .returning (by simp[an]) rfl ?_;rw[<-T]
 ·have J:recoverD (l::cs)=some (v',{l with mode:=.panicking [{v:=v',recovered:=true}]}::cs):=by simp[recoverD,T]
  simp only[J];exact key v' _ _ hv rfl rfl
end
end
section
variable{P:Program}{X:Ctx}{B:Nat}{av:World}{cY:List Deferred}
inductive EH where
 |here(ops:List aP)(la:ao)(fB:List ao)(rest:PC)
 |later(pre:PC)(d:EH)
 deriving Inhabited
structure vf where
 ntmps:Nat
 results:List RV
 body:EH
 deriving Inhabited
def ahb(P:Program)(rows:Bool)(nt:Nat):Code->Option (List aP×ao×List ao)
 |.region _ ops false=>match ops.toList.getLast? with
  |some o=>match o.op,o.guard,o.dst with
   |.defer c,none,none=>match c.callee with
    |.value f=>match k0 P rows ops ops.toList.dropLast,bM f,og c.args.toList with
     |some xs,some a,some as=>if xs.all (λx=>match x.dst with|some d=>d<nt|none=>true)then some (xs,a,as)else none
     |_,_,_=>none
    |_=>none
   |_,_,_=>none
  |none=>none
 |_=>none
def EI(P:Program)(rows:Bool)(nt:Nat):Code->Option EH
 |.seq a b=>match ahb P rows nt a with
  |some (xs,f,as)=>(eO P rows nt b).map (.here xs f as)
  |none=>match eO P rows nt a,EI P rows nt b with
   |some d,some c=>some (.later d c)
   |_,_=>none
 |_=>none
def Bp(P:Program)(rows:Bool)(fn:Func):Option vf:=
 match fn.body with
 |some c=>match EI P rows fn.ntmps c,pD P fn.results.toList with
  |some b,some rs=>if(fn.name != "runtime.NumGoroutine")then some {ntmps:=fn.ntmps,results:=rs,body:=b}else none
  |_,_=>none
 |none=>none
def AV.JB:AV->Bool
 |.fn .. =>true
 |_=>false
noncomputable def wT(X:Ctx)(C:bA)(L:eu)(bS:FuncId):EH->Fr->AS->Option (Option (AV×lA)×(Ex×Fr×AS))
 |.here ops a c rest,fr,E=>match eN X C ops fr E with
  |some (.normal,⟨e,[]⟩,f)=>if(a.get e).JB then(a0 X C L bS false rest ⟨e,[]⟩ f).map λr=>(some (a.get e,c.map (·.get e)),r)else none
  |some (.normal,_,_)=>none
  |some r=>some (none,r)
  |none=>none
 |.later pre d,fr,E=>match a0 X C L bS false pre fr E with
  |some (.normal,b,f)=>wT X C L bS d b f
  |some r=>some (none,r)
  |none=>none
abbrev pN:=FuncId->Option wR
noncomputable def Bq(X:Ctx)(C:bA)(L:eu)(R:pN)(b:AV)(a:lA)(rv:AV)(E:AS):Option AS:=
 match b with
 |.fn (.func g) first cap=>(R g).bind λpr=>Jz X C L g pr (first++a++cap) rv E
 |_=>none
def Ex.Rg:Ex->Option AV
 |.normal=>some .eI
 |.ret=>some .eI
 |.panic v=>some v
 |.exit _=>none
noncomputable def Rh(X:Ctx)(C:bA)(L:eu)(R:pN)(n:Nat)(dI:oN)(c:vf):Option (Option (AV×lA)×(Ex×Fr×AS))->Option aS
 |some (none,r)=>leave X n dI {ntmps:=c.ntmps,results:=c.results,body:=.skip} (some r)
 |some (some (tv,d),(ex,fr,E))=>match ex.Rg,dJ E fr.marks with
  |some rv,some b=>(Bq X C L R tv d rv b).bind λa=>(fy X a fr.env c.results).map λv=>.ret (finish n dI v a).1 (finish n dI v a).2
  |_,_=>none
 |none=>none
noncomputable def wU(X:Ctx)(C:bA)(L:eu)(R:pN)(f:FuncId)(a:vf)(args:lA)(E:AS):Option aS:=
 if args.length<=a.ntmps then Rh X C L R E.heap.length E.lo a (wT X C L f a.body {env:=dc args,marks:=[]} {E with lo:=none})else none
def Ri(P:Program)(R:pN):Prop:= ∀g pr,R g=some pr-> ∃rows fn,P.funcs[g]?=some fn/\Bn P rows fn=some pr
section
variable{C:bA}(hC:fP P B av C)(hg:fz X B av)(hX:pG P X)(gv:A5 P X B av){L:eu}(hL:yH L)
include hC hg hX gv hL
theorem at4{rows:Bool}{nt:Nat}{bS:FuncId}: ∀ (c:Code) (pd:EH),EI P rows nt c=some pd->
  ∀ (G:Gh) (E:AS) (w:World) (fr:Fr) (a:Act) (N:Option (AV×lA)) (r:Ex×Fr×AS) (Q:Exit->Act->World->Prop),aV P B av G E w->cK G nt fr.env a.tmps->gi [] G fr.marks a.defers->wT X C L bS pd fr E=some (N,r)->
  (N=none-> ∀e a w,mD P B av [] G E nt r e a w->Q e a w)->
  (∀tv I,N=some (tv,I)-> ∀z q G1,G.le G1->an G1 tv z->aD G1 I q.toList-> ∀d,(∀w:World,(Deferred.ofValue z q).run P w= .ok d w)-> ∀e a w,mD P B av [d] G1 E nt r e a w->Q e a w)->c.wpIn (W none) n P Q a w:=by
 intro c
 induction c with
 |seq x y ihx ihy=>
  intro pd h G E w fr a N r Q hw he hm hr hN hD;rw[EI]at h;split at h
  ·rename_i xs f' as g;obtain⟨rest,K,rfl⟩:=ah3.1 h;unfold ahb at g;split at g
   case h_2=>cases g
   rename_i id ops;split at g
   case h_2=>cases g
   rename_i o u;split at g
   case h_2=>cases g
   rename_i cc pM iu Rb;split at g
   case h_2=>cases g
   rename_i fop Rc;split at g
   case h_2=>cases g
   rename_i xs' f'' IM wS hfo has;split at g
   case isFalse=>cases g
   rename_i uZ;cases g;have hd: ∀x∈xs,∀d,x.dst=some d->d<nt:=by
    intro x hx d y4;have:=ajD.1 uZ x hx;rw[y4]at this;simpa using this
   have p:ops.toList=ops.toList.dropLast++[o]:=by
    rw[List.getLast?_eq_some_iff]at u;obtain⟨ys,Rj⟩:=u;rw[Rj];simp
   have om:ops.size=ops.toList.dropLast.length+1:=by
    rw[<-anc];conv=>lhs;rw[p]
    simp
   have A:List.range ops.size=List.range (ops.size-1)++[ops.size-1]:=by
    conv=>lhs;rw[show ops.size=(ops.size-1)+1 by omega,arI]
   have Rf: (List.range (ops.size-1)).map (ops[·]?)=ops.toList.dropLast.map some:=by
    apply apn;intro j;by_cases hj:j<ops.toList.dropLast.length
    ·have e1: (List.range (ops.size-1))[j]?=some j:=by rw[ar9 (by omega)]
     simp only[ajP,e1,ah6,abe hj];rw[<-asv]
     conv=>lhs;rw[p]
     rw[aaF hj,abe hj]
    ·rw[ana (by simp;simp at hj;omega),ana (by simpa using hj)]
   have F:ops[ops.size-1]?=some o:=by
    rw[<-asv]
    conv=>lhs;rw[p]
    rw[ajE (by omega)];rw[show ops.size-1-ops.toList.dropLast.length=0 by omega];rfl
   refine aB2 (wpIn_region ?_);rw[A];simp only[wT]at hr;cases b:eN X C xs fr E with
   |none=>rw[b]at hr;cases hr
   |some i=>
   refine Q9 hC hg [ops.size-1] _ _ xs Rf wS hd G E w fr a i _ hw he hm b (λk w1 D f=>?_) (λe k w1 D f=>?_)
   ·obtain⟨ex,⟨e1,ms⟩,s⟩:=i;simp only at D;subst D;obtain⟨G1,q1,q2,R,q4,q5,q6⟩:=f;rw[b]at hr;cases ms with
    |cons m ms=>cases hr
    |nil=>
    simp only at hr;split at hr
    case isFalse=>cases hr
    rename_i v;obtain⟨r',Rk,ra⟩:=ah3.1 hr;cases ra;have Rl:k.defers=[]:=q4;have at7:=yw R has;have H:=cD R hfo;simp only[wpOpsIn,F];have Re:Region.wanted o (yielded ops k.tmps)=true:=by simp[Region.wanted,iu]
    rw[aaR Re];refine⟨λ_ _=>trivial,?_⟩;have Eo:o.semAt (W none).round k.eval=execOp k.eval o:=Oper.semAt_none _ _;rw[Eo];have aua: ∀d,(∀w:World,(Deferred.ofValue (k.eval fop) (cc.args.map k.eval)).run P w= .ok d w)->(execOp k.eval o).run P w1= .ok (.defer d) w1:=by
     intro d t;unfold execOp;simp only[pM,resolve,Rc];rw[Sem.run_bind,t w1];rfl
    have aub: ∃d,∀w:World,(Deferred.ofValue (k.eval fop) (cc.args.map k.eval)).run P w= .ok d w:=by
     cases Z:f'.get e1<;>rw[Z]at v<;>simp only[AV.JB,ah2]at v;rw[Z]at H;simp only[an]at H;obtain⟨f0,fs0,Rm,hfe,_⟩:=H;rw[hfe];exact⟨_,λw=>rfl⟩
    obtain⟨d,t⟩:=aub;rw[aua d t];simp only[Oper.uponIn,Rb,Act.put,Rl];refine wJ hC hg hX gv hL (r:=none) (cY:=[d]) rfl y rest K G1 s w1 ⟨e1,[]⟩ {k with defers:=[d]} r _ q2 R rfl Rk (λe a2 O l=>?_);refine hD _ _ rfl _ _ G1 q1 H (by simpa using at7) d t e a2 O ?_;obtain⟨G2,Y,V,U,T,S,J⟩:=l;exact⟨G2,Y,V,U,T,q5.trans S,J⟩
   ·rw[b]at hr;obtain⟨ex,⟨e1,ms⟩,s⟩:=i;have M:some (none,(ex,⟨e1,ms⟩,s))=some (N,r):=by
     cases ex with
     |normal=>exact absurd rfl D
     |_=>exact hr
    cases M;have M:=hN rfl e k w1 f;obtain⟨G2,Y,V,U,T,S,J⟩:=f;cases e<;>first|exact M| (exfalso;cases ex<;>simp[fQ]at J;exact D rfl)
  ·split at h
   ·rename_i px pd' hx hy;cases h;simp only[wT]at hr;cases b:a0 X C L bS false px fr E with
    |none=>rw[b]at hr;cases hr
    |some i=>
    rw[b]at hr;obtain⟨ex,JA,s⟩:=i;by_cases D:ex= .normal
    ·subst D;simp only at hr;refine aB2 (wJ hC hg hX gv hL (r:=none) rfl x px hx G E w fr a _ _ hw he hm b (λe k w1 f=>?_));obtain⟨G1,q1,q2,R,q4,q5,q6⟩:=f;cases e<;>simp[fQ]at q6;refine ihy pd' hy G1 s w1 JA k N r Q q2 R q4 hr (λaue e a2 O hh=>hN aue e a2 O (hh.trans q1 q5)) (λtv I t z q G2 hG2 hv hl d hd e a2 O l=>?_);refine hD tv I t z q G2 (Gh.le_trans q1 hG2) hv hl d hd e a2 O ?_;obtain⟨G3,Y,V,U,T,S,J⟩:=l;exact⟨G3,Y,V,U,T,q5.trans S,J⟩
    ·have M:some (none,(ex,JA,s))=some (N,r):=by
       cases ex with
       |normal=>exact absurd rfl D
       |_=>exact hr
     cases M;refine aB2 (wJ hC hg hX gv hL (r:=none) rfl x px hx G E w fr a _ _ hw he hm b (λe k w1 f=>?_));have M:=hN rfl e k w1 f;obtain⟨G2,Y,V,U,T,S,J⟩:=f;cases e<;>first|exact M| (exfalso;cases ex<;>simp[fQ]at J;exact D rfl)
   ·cases h
 |_=>intro pd h;simp[EI]at h
omit hC hX gv hL in
theorem aug{fn:Func}{G:Gh}{E:AS}{w':World}{r:Ex×Fr×AS}{k:aS}{e:Exit}{a:Act}(g:pD P fn.results.toList=some pf.results)(y:aV P B av G E w)
  (h:leave X E.heap.length E.lo pf (some r)=some k) (F:mD P B av [] G {heap:=E.heap,lo:=none} fn.ntmps r e a w'):bodyPostM (W none) 0 P fn (Ends P B av G E k) e a w':=by
 obtain⟨H,x,u,A,t,s,j⟩:=F;obtain⟨ex,fr,q⟩:=r;have f:qQ X E.heap.length E.lo pf fr q=some k->LeavesInM (W none) 0 P fn a.tmps (Ends P B av G E k) a.defers .returning w':=by
  intro h;unfold qQ at h;split at h
  ·rename_i d i;split at h
   ·rename_i v D;cases h;refine yL (by simp) fr.marks a.defers q d w' t u i (λl b=>?_);obtain⟨v',e1,z⟩:=Ef hg b A g D;refine⟨v',e1,?_⟩;obtain⟨c,p,o,n,m⟩:=yB y x b (s.trans (yI _ _ _ i)) z;exact⟨c,p,o,n,m⟩
   ·cases h
  ·cases h
 cases ex with
 |normal=>cases e<;>simp[fQ]at j;exact f h
 |ret=>cases e<;>simp[fQ]at j;exact f h
 |exit id=>simp[leave]at h
 |panic v=>
  cases e<;>simp[fQ]at j;rename_i chain;obtain⟨v',rfl,rv⟩:=j;simp only[leave]at h;split at h
  ·rename_i d i;cases h;refine yL (by simp) fr.marks a.defers q d w' t u i (λl b=>?_);obtain⟨c,p,o,n,m⟩:=yB y x b (s.trans (yI _ _ _ i)) rv;exact⟨c,v',rfl,p,o,n,m⟩
  ·cases h
theorem auh{R:pN}(hR:Ri P R){fn:Func}{pd:vf}{rows:Bool}(O:P.funcs[f]?=some fn)(n:Bp P rows fn=some pd):gj P B av f (wU X C L R f pd):=by
 intro args E cr h G w l hw hl;unfold Bp at n;split at n
 case h_2=>grind
 rename_i c hb;split at n
 case h_2=>grind
 rename_i bd rs D y;split at n
 case isFalse=>grind
 rename_i aGf;cases n;unfold wU at h;split at h
 case isFalse=>cases h
 rename_i q;simp only at q h;have x: ¬fn.name= "runtime.NumGoroutine" :=by grind
 have Q: (callFunc f l).run P w= .ok (.enter f l) w:=by
  simp[callFunc,atV,O,x,hb]
 rw[Q];show CallsIn (W none) 0 P f l w _;have he:cK G fn.ntmps (dc args) (l++Array.replicate (fn.ntmps-l.size) undef):=IN hl q;cases t:wT X C L f bd {env:=dc args,marks:=[]} {E with lo:=none}with
 |none=>rw[t]at h;cases h
 |some res=>
 obtain⟨dr,r⟩:=res;rw[t]at h;refine azd O hb trivial (at4 hC hg hX gv hL c bd D G {E with lo:=none} w {env:=dc args,marks:=[]} _ dr r _ (hw.lo none) he rfl t ?_ ?_) rfl
 ·rintro rfl e a w' hr;exact aug hg (pf:={ntmps:=fn.ntmps,results:=rs,body:=.skip}) y hw h hr
 ·rintro tv T rfl tv' m G1 hG1 hv hld d hd e a w' ⟨G',Y,q2,q3,q4,q5,V⟩;obtain⟨ex,fr,I⟩:=r;simp only[Rh]at h;have az: ∀ (rv:AV) (j:AS) (u:FrameMode),dJ I fr.marks=some j->ag8 G' u rv->u≠ .run->
    ((Bq X C L R tv T rv j).bind λs=>(fy X s fr.env rs).map λv=>aS.ret (finish E.heap.length E.lo v s).1 (finish E.heap.length E.lo v s).2)=some cr->
    LeavesInM (W none) 0 P fn a.tmps (Ends P B av G E cr) a.defers u w':=by
   intro rv j u o A hu hcr;refine yL hu fr.marks a.defers I j w' q4 q2 o (λw'' J=>?_);obtain⟨s,p,N⟩:=aqj.1 hcr;obtain⟨v,hv1,rfl⟩:=ah3.1 N;unfold Bq at p;split at p
   case h_2=>cases p
   rename_i g first cap
   obtain⟨pr,hpr,ra⟩:=aqj.1 p;obtain⟨asb,S,z,b⟩:=hR g pr hpr;have hgb: ∃Z,S.body=some Z/\ ¬S.name= "runtime.NumGoroutine" :=by
    unfold Bn at b;split at b
    case h_2=>cases b
    rename_i Z F;split at b
    case h_2=>cases b
    split at b
    case isFalse=>cases b
    rename_i hn;exact⟨Z,F,by simpa using hn⟩
   obtain⟨Z,F,hgn⟩:=hgb;have K:=hv;simp only[an,nb]at K;obtain⟨f',i,k,rfl,rfl,hf,hc⟩:=K;have yY:d={target:=.fn (.func g) k,args:=i++m}:=by
    have h1:=hd w;have h2: (Deferred.ofValue (.func (.func g) i k) m).run P w= .ok {target:=.fn (.func g) k,args:=i++m} w:=rfl;rw[h2]at h1;simpa using h1.symm
   subst yY;have H:aD G' (first++T++cap) (i++m++k).toList:=by
    simp only[Array.toList_append];exact((hf.mono Y).append (hld.mono Y)).append (hc.mono Y)
   refine⟨hu,.inr ⟨λh=>by simp[W]at h,.func g,k,g,i++m++k,rfl,?_,λ_ _=>trivial,?_⟩⟩
   ·show(callFunc g (i++m++k)).run P w''=_;simp[callFunc,atV,z,hgn,F]
   ·refine(atP hC hg hX gv hL z b ra J H A).mono ?_;rintro e2 u2 w3 ⟨M,v3,G3,rfl,g1,g2,g3⟩;show LeavesInM (W none) 0 P fn a.tmps _ [] (settle u2) w3;rw[M];obtain⟨v',e1,r1⟩:=Ef hg g2 (q3.mono g1) y hv1;refine⟨v',e1,?_⟩;obtain⟨U,p1,p2,p3,p4⟩:=yB hw (Gh.le_trans hG1 (Gh.le_trans Y g1)) g2 ((q5.trans (yI _ _ _ o)).trans g3) r1;exact⟨U,p1,p2,p3,p4⟩
  cases ex with
  |normal=>
   cases e<;>simp[fQ]at V;cases o:dJ I fr.marks with
   |none=>rw[o]at h;cases h
   |some j=>rw[o]at h;exact az .eI j .returning o (.inl ⟨rfl,rfl⟩) (by simp) h
  |ret=>
   cases e<;>simp[fQ]at V;cases o:dJ I fr.marks with
   |none=>rw[o]at h;cases h
   |some j=>rw[o]at h;exact az .eI j .returning o (.inl ⟨rfl,rfl⟩) (by simp) h
  |exit id=>
   cases o:dJ I fr.marks<;>rw[o]at h<;>cases h
  |panic v=>
   cases e<;>simp[fQ]at V;obtain⟨v',rfl,rv⟩:=V;cases o:dJ I fr.marks with
   |none=>rw[o]at h;cases h
   |some j=>rw[o]at h;exact az v j (.panicking [{v:=v',recovered:=false}]) o (.inr ⟨v',rfl,rv⟩) (by simp) h
end
def ahd:yH Lw:=λ_ _ _ _ h=>EA h
def Rn(hg:fz X B av)(hX:pG P X)(e: ∀f p,X.bZ f=some p->gj P B av f p){R:pN}(d:Ri P R){fn:Func}{c:vf}{rows:Bool}(b:P.funcs[f]?=some fn)(a:Bp P rows fn=some c):
 gj P B av f (wU X (D X) Lw R f c):=auh (QJ hg hX e) hg hX (Qt hg) ahd d b a
end
def aN(N:Nat)(H:List ae)(v:AV)(sz:Nat)(ty:TypeId)(af:List lA):Prop:=
 (∀el∈af,el.length=sz)/\ ((v= .ai/\af=[])\/ ∃id aj,N<=id/\v= .ref id aj sz 0 af.length false/\H[id]?=some (.row aj sz ty af))
def bt(v:AV)(af:List lA):AV:=match v with
 |.ai=>.ai
 |_=>.sl af false
section
variable{N:Nat}{H H':List ae}{v:AV}{sz bytes:Nat}{ty:TypeId}{af ys:List lA}{lo:oN}
theorem aN.ai:aN N H .ai sz ty []:=⟨by simp,.inl ⟨rfl,rfl⟩⟩
def aN.mono(h:aN N H v sz ty af)(b:H<+:H'):aN N H' v sz ty af:=by
 obtain⟨c,a⟩:=h;refine⟨c,?_⟩;rcases a with a| ⟨id,aj,e,d,hr⟩
 ·grind
 ·obtain⟨L,rfl⟩:=b
  grind
def aN.ext{L:List ae}(h:aN N H v sz ty af):aN N (H++L) v sz ty af:=h.mono (ast _ _)
def aN.rd(h:aN N H v sz ty af):Rd ⟨H,lo⟩ v sz af:=by
 obtain⟨b,a⟩:=h;rcases a with⟨rfl,rfl⟩| ⟨id,aj,c,rfl,hr⟩
 ·exact .ai
 ·refine⟨trivial,?_,b⟩;simp only[elems,hr,aBp]
  grind
def ahe{id:Nat}{o:ae}(a:H0<+:H)(b:H0.length<=id):H0<+:H.set id o:=by
 obtain⟨L,rfl⟩:=a
 grind
def aN.append(h:aN N H v sz ty af)(b:H0<+:H)(o:H0.length=N)(i:0<sz)(k: ∀el∈ys,el.length=sz)(l:b9 ys=0)(f: (af.length+ys.length)*bytes<=room):
  ∃v' H',dx ⟨H,lo⟩ ty sz bytes v ys=some (v',⟨H',lo⟩)/\aN N H' v' sz ty (af++ys)/\H0<+:H'/\H.length<=H'.length/\ (∀id,id<N->H'[id]?=H[id]?):=by
 have e:0<sz/\ys.all (λel=>el.length==sz)=true:=⟨i,by grind⟩;obtain⟨q,g⟩:=h;have p: ∀el∈af++ys,el.length=sz:=by grind
 by_cases he:ys.length=0
 ·have d:ys=[]:=ak9.1 he;subst d;refine⟨v,H,?_,by simpa using⟨q,g⟩,b,ahT _,λ_ _=>rfl⟩;unfold dx
  grind
 rcases g with⟨rfl,rfl⟩| ⟨id,aj,m,rfl,a⟩
 ·refine⟨.ref H.length 0 sz 0 ys.length false,H++[.row 0 sz ty ys],?_,⟨by simpa using k,.inr ⟨H.length,0,?_,by simp,by simp⟩⟩,b.trans (ast _ _),by simp,λid n=>?_⟩
  ·unfold dx;rw[aaR e];simp only[aaH he];rw[aaR (by simpa using f)];rfl
  ·rw[<-o];exact b.length_le
  ·rw[aaF (by have:=b.length_le;omega)]
 ·have c:=(aaG.1 a).1;refine⟨.ref id (aj+1) sz 0 (af.length+ys.length) false,H.set id (.row (aj+1) sz ty (af++ys)),?_,⟨p,.inr ⟨id,aj+1,m,by simp,by simp[c]⟩⟩,ahe b (by omega),by simp,λj r=>?_⟩
  ·unfold dx;rw[aaR e];simp only[a];rw[aaR ⟨trivial,trivial,trivial,trivial,by omega,f⟩,aaH he];simp[AS.set,l]
  ·rw[aaD (by omega)]
def oy{K:AV->AS->Prop}(h:aN N H v sz ty af)(d:H0<+:H)(f:H0.length=N)(a:0<sz)(b: ∀el∈ys,el.length=sz)(c:b9 ys=0)(e: (af.length+ys.length)*bytes<=room)
  (g: ∀v' H',aN N H' v' sz ty (af++ys)->H0<+:H'->K v' ⟨H',lo⟩):sO (dx ⟨H,lo⟩ ty sz bytes v ys) K:=by
 obtain⟨v',H',k,j,i,_⟩:=h.append d f a b c e;rw[k];exact g v' H' j i
def aN.Ro(h:aN N H v sz ty af)(w:N<=H.length)(k:0<sz)(l: ∀el∈ys,el.length=sz)(m:b9 ys=0)(q: (af.length+ys.length)*bytes<=room):
  ∃v' H',dx ⟨H,lo⟩ ty sz bytes v ys=some (v',⟨H',lo⟩)/\aN N H' v' sz ty (af++ys)/\H.length<=H'.length/\ (∀id,id<N->H'[id]?=H[id]?)/\ (∀ (id:Nat) o,(∀a d,o≠ .row a sz ty d)->H[id]?=some o->H'[id]?=some o):=by
 have n:H.take N<+:H:=List.take_prefix _ _;obtain⟨v',H',b,t,x,s,r⟩:=h.append n (by grind) k l m q;refine⟨v',H',b,t,s,r,λid o f e=>?_⟩;have p:=(aaG.1 e).1;unfold dx at b;have i:0<sz/\ys.all (λel=>el.length==sz)=true:=⟨k,by grind⟩;rw[aaR i]at b;rcases h.2 with⟨rfl,rfl⟩| ⟨j,aj,u,rfl,c⟩
 ·simp only at b;split at b
  ·grind
  ·split at b
   ·simp only[AS.push,aaQ,asj,AS.mk.injEq]at b
    grind
   grind
 ·simp only[c]at b;split at b
  ·split at b
   ·simp only[aaQ,asj,AS.mk.injEq]at b;rw[<-b.2.1];exact e
   ·simp only[ah2,ak8,AS.set,aaQ,asj,AS.mk.injEq]at b;rw[<-b.2.1];have g:j≠id:=by rintro rfl;rw[c]at e;cases e;exact f _ _ rfl
    rw[aaD g];exact e
  ·cases b
def auq{K:AV->AS->Prop}(h:aN N H v sz ty af)(i:H0<+:H)(j:H0.length=N)(b:0<sz)(c: ∀el∈ys,el.length=sz)(e:b9 ys=0)(f: (af.length+ys.length)*bytes<=room)
  (k: ∀v' H',aN N H' v' sz ty (af++ys)->H0<+:H'->H.length<=H'.length->(∀ (id:Nat) o,(∀a d,o≠ .row a sz ty d)->H[id]?=some o->H'[id]?=some o)->K v' ⟨H',lo⟩):sO (dx ⟨H,lo⟩ ty sz bytes v ys) K:=by
 obtain⟨v',H',g,n,m,q,l⟩:=h.Ro (by grind) b c e f;obtain⟨v2,r,g1,_,p,_⟩:=h.append i j b c e f;rw[g]at g1;cases g1;rw[g];exact k v' H' n p m l
def JC{E:AS}:freeze E n (k+1) (.au vs)=if(AV.au vs).refs<=n then some (.au vs)else match il E n k vs with|some a=>some (.au a)|none=>none:=by
 rw[freeze]
 grind
theorem Rp{E:AS}{n k:Nat}: ∀l:lA,aG l<=n->il E n (k+2) l=some l
 | [],_=>by rw[il]
 |b::bs,a=>by
  simp only[aG]at a;rw[il,zb (by omega)];rw[Rp bs (by omega)]
theorem Rq{E:AS}{n k:Nat}: ∀af:List lA,b9 af<=n->sD E n (k+3) af=some af
 | [],_=>by rw[sD]
 |a::as,h=>by
  simp only[b9]at h;rw[sD,Rp a (by omega)];rw[Rq as (by omega)]
theorem aN.freeze(h:aN N H v sz ty af)(c:b9 af<=N):Den.freeze ⟨H,lo⟩ N (k+4) v=some (bt v af):=by
 obtain⟨f,d⟩:=h;rcases d with⟨rfl,rfl⟩| ⟨id,aj,e,rfl,a⟩
 ·exact zb (abX _)
 ·have b: ¬(AV.ref id aj sz 0 af.length false).refs<=N:=by simp only[AV.refs];omega
  rw[Den.freeze,aaH b];simp only[a];rw[aaR ⟨trivial,trivial,by omega⟩];simp only[alq,aiv];rw[Rq af c];rfl
theorem aN.Rr(h:aN N H v sz ty af)(a:b9 af<=N):finish N lo v ⟨H,none⟩=(bt v af,⟨H.take N,lo⟩):=
 Jh rfl (h.freeze a)
def aN.ahf{b:AV}(h:aN N H v sz ty af)(d:b9 af<=N)(e:b.refs<=N):finish N lo (.au [v,b]) ⟨H,none⟩=(.au [bt v af,b],⟨H.take N,lo⟩):=by
 refine Jh rfl ?_;rw[JC];have e1:il ⟨H,none⟩ N 11 [v,b]=some [bt v af,b]:=by
  rw[il,h.freeze d];rw[il,zb e];rw[il]
 rw[e1];split
 ·rename_i hle;have a:bt v af=v:=by
   obtain⟨i,f⟩:=h;rcases f with⟨rfl,rfl⟩| ⟨id,aj,g,rfl,c⟩
   ·rfl
   ·simp only[AV.refs,aG]at hle;omega
  rw[a]
 ·rfl
def aN.re(h:aN N H v sz ty af):Rv (bt v af) sz af:=by
 obtain⟨c,b⟩:=h;rcases b with⟨rfl,rfl⟩| ⟨id,aj,d,rfl,a⟩
 ·exact .ai
 ·exact .sl c
theorem bz{α:Type}{g:α->lA}(a: ∀x,aG (g x)=0): ∀l:List α,b9 (l.map g)=0
 | []=>rfl
 |x::xs=>by simp only[ape,b9,a,bz a xs];rfl
def aur{E:AS}(h:af.all (λel=>el.length==sz)=true):Den.elems E sz (.sl af c)=some af:=by
 simp only[Den.elems];grind
end
def ahg{k:IntKind}{a b:Int}{c:List EK}{as bs:lA}:ji (.int::c) (.int k a::as) (.int k b::bs)=if a=b then ji c as bs else some false:=by
 simp only[ji,qM,ajQ]
 grind
def aus{a b:Bool}{c:List EK}{as bs:lA}:ji (.bool::c) (.bool a::as) (.bool b::bs)=if a=b then ji c as bs else some false:=by
 simp only[ji,qM]
 grind
theorem ahh:ji [] [] []=some true:=rfl
def ahi{N:Nat}{H:List ae}(b: ¬v.refs<=N)(a:freeze ⟨H,none⟩ N 12 v=none):finish N lo v ⟨H,none⟩=(v,⟨H,lo⟩):=by
 rw[Bk,aaH b,a];rfl
def Rs{N id o:Nat}{E:AS}(h:N<=id):freeze E N k (.ptr id o)=none:=by
 cases k with
 |zero=>rw[freeze]
 |succ k=>
  have a: ¬(AV.ptr id o).refs<=N:=by simp only[AV.refs];omega
  simp[freeze,a]
def EJ{X:Ctx}{p:lA->AS->Option aS}{args:lA}{E:AS}{a:aS}(b:X.bZ f=some p)(h:p args E=some a):D X (.fn (.func f) [] []) args E=some a:=by
 refine I9 ?_;simp only[step,b,ajS,ajJ];exact h
theorem ahj{cs:lA}:eo cs []=some cs:=rfl
theorem ahk{cs:lA}{off:Nat}{r:List (Nat×Nat×AV)}:eo cs ((off,n,v)::r)=if v.cn=false/\v.cells.length=n/\off+n<=cs.length then eo (aH cs off v.cells) r else none:=rfl
theorem ahl{len:Nat}{a:List (Nat×Nat×AV)}:QS z len a=(eo (List.replicate len z).flatten a).map λcs=>.sl (chunks z.length len cs) true:=rfl
theorem ahm{E:AS}{ty:TypeId}{len:Nat}{a:List (Nat×Nat×AV)}:QT E ty z len a=(eo (List.replicate len z).flatten a).map λcs=>(.ref E.heap.length 0 z.length 0 len false,E.push (.row 0 z.length ty (chunks z.length len cs))):=rfl
theorem ahn{a:List (Nat×Nat×AV)}:QR z a=(eo z a).map .agg:=rfl
theorem aho{cs:lA}:chunks sz 0 cs=[]:=rfl
theorem ahp{cs:lA}:chunks sz (k+1) cs=cs.take sz::chunks sz k (cs.drop sz):=rfl
theorem ahq{E:AS}:Den.elems E sz (.sl af c)=if af.all (λel=>el.length==sz)then some af else none:=rfl
theorem ahr{X:Ctx}{id off:Nat}{k:IntKind}{a:Int}:uR X n sz (.ptr id off) (.int k a)=if 0<=a/\a<n then some (.ptr id (off+a.toNat*sz))else none:=rfl
theorem ahs{X:Ctx}{id off:Nat}{k:IntKind}{a:Int}:uR X n sz (.dm id aj j off) (.int k a)=if 0<=a/\a<n then some (.dm id aj j (off+a.toNat*sz))else none:=rfl
theorem aht{X:Ctx}{off:Nat}{cs:lA}{k:IntKind}{a:Int}:uR X n sz (.eZ cs off) (.int k a)=if 0<=a/\a<n then some (.eZ cs (off+a.toNat*sz))else none:=rfl
theorem ahu{X:Ctx}{g:Nat}{k:IntKind}{a:Int}:uR X n sz (.dp g) (.int k a)=if 0<=a/\a<n then(match X.dp g with|some cs=>some (.eZ cs (a.toNat*sz))|none=>none)else none:=rfl
theorem ahv{off:Nat}{cs:lA}:abV ag n off (.agg cs)=Den.part ag n cs off:=rfl
theorem ahw:ED (.au vs) i=vs[i]?:=rfl
theorem ahx{E:AS}:ft E .sl (.sl af c)=some (.int .i64 af.length):=rfl
theorem ahy{E:AS}:ft E .sl .ai=some (.int .i64 0):=rfl
theorem ahz{E:AS}{id v z o:Nat}:ft E .sl (.ref id v z o n c)=some (.int .i64 n):=rfl
theorem ahA{E:AS}{id off:Nat}:ft E .sl (.fk id sz off n)=some (.int .i64 n):=rfl
theorem Rt{id off:Nat}{k:IntKind}{a:Int}:j5 m (.fk id sz off n) (.int k a)=if 0<=a/\a<n/\sz=m then some (.ptr id (off+a.toNat*m))else none:=rfl
def ahB{X:Ctx}{id off:Nat}{b:Int}:qN X n sz (.ptr id off) none (some (.int k' b))=if 0<=b/\b<=n then some (.fk id sz off b.toNat)else none:=by
 simp only[qN,gb,lR]
 grind
theorem ahC{H:List ae}{lo:oN}{id sz m off n:Nat}:Den.elems ⟨H,lo⟩ m (.fk id sz off n)=match H[id]? with
 |some (.box cs _)=>if sz=m/\off+n*m<=cs.length then some (chunks m n (cs.drop off))else none
 |_=>none:=rfl
theorem ahD:wD []=some []:=rfl
theorem ahE{n:Int}{r:List lA}:wD ([.int .u8 n]::r)=(wD r).map (UInt8.ofNat n.toNat:: ·):=rfl
def ahF{H:List ae}{x:ae}(h:H.length=n)(a:m=n+1): (H++[x]).take m=H++[x]:=by grind
def dT{h:Decidable True}: @decide True h=true:=by simp
def dF{h:Decidable False}: @decide False h=false:=by simp
def O1:=gG @ahj<|gG @ahk<|gG @ahl<|gG @ahm<|gG @ahn<|gG @aho<|gG @ahp<|gG @ahq<|gG @ahv<|gG @ahA<|gG @ahx<|gG @ahy<|gG @ahz<|gG @Rt<|gG @ahB<|gG @ahC<|gG @ahD<|gG @ahE<|gG @dT<|gG @dF<|gG @List.getD_cons_zero.{0}<|gG @List.getD_cons_succ.{0}<|gG @ahr<|gG @ahs<|gG @aht<|gG @ahu<|gG @Nat.mul_one<|gG @ahw<|gG @auj.{0}<|gG @List.replicate_zero.{0}<|gG @aqy.{0}<|gG @List.flatten_nil.{0}<|gG @auK.{0} @List.all_nil.{0}
section
variable{X:Ctx}{n:Nat}{lo:oN}{e:Env}{E:AS}{R:aS->Prop}{a b c d m k:Nat}{ag ah:Bool}
def mG(n:Nat)(lo:oN)(R:aS->Prop):AV->AS->Prop:=λv E=>R (.ret (finish n lo v E).1 (finish n lo v E).2)
theorem ahG:mG n lo R v E=R (.ret (finish n lo v E).1 (finish n lo v E).2):=rfl
def Br:dw X n lo [.cell a ag m] R .ret ⟨e,[]⟩ E=okV (cb X E ag m (e a)) (mG n lo R) E:=by
 simp only[wN,wO,fy,jE,od];cases h:cb X E ag m (e a)with
 |none=>simp[okV,h]
 |some v=>simp[okV,mG,h]
def pO:dw X n lo [.cell a ag m,.t b] R .ret ⟨e,[]⟩ E=okV (cb X E ag m (e a)) (λv E=>mG n lo R (.au [v,e b]) E) E:=by
 simp only[wN,wO,fy,jE,od];cases h:cb X E ag m (e a)with
 |none=>simp[okV,h]
 |some v=>simp[okV,mG,h]
def ahH:dw X n lo [.cell a ag m,.t b,.t c] R .ret ⟨e,[]⟩ E=okV (cb X E ag m (e a)) (λv E=>mG n lo R (.au [v,e b,e c]) E) E:=by
 simp only[wN,wO,fy,jE,od];cases h:cb X E ag m (e a)with
 |none=>simp[okV,h]
 |some v=>simp[okV,mG,h]
def ahI:dw X n lo [.cell a ag m,.t b,.t c,.t d] R .ret ⟨e,[]⟩ E=okV (cb X E ag m (e a)) (λv E=>mG n lo R (.au [v,e b,e c,e d]) E) E:=by
 simp only[wN,wO,fy,jE,od];cases h:cb X E ag m (e a)with
 |none=>simp[okV,h]
 |some v=>simp[okV,mG,h]
def ahJ:dw X n lo [.cell a ag m,.cell b ah k] R .ret ⟨e,[]⟩ E=okV (cb X E ag m (e a)) (λv E=>okV (cb X E ah k (e b)) (λu E=>mG n lo R (.au [v,u]) E) E) E:=by
 simp only[wN,wO,fy,jE,od];cases h:cb X E ag m (e a)with
 |none=>simp[okV,h]
 |some v=>
  cases f:cb X E ah k (e b)with
  |none=>simp[okV,h,f]
  |some u=>simp[okV,mG,h,f]
def Q1:=gG @ahG<|gG @Br<|gG @pO<|gG @ahH<|gG @ahI @ahJ
end
section
variable{X:Ctx}{R:pN}
def rf(X:Ctx)(R:pN)(tv:AV)(fB:lA)(rv:AV)(E:AS)(K:AS->Prop):Prop:= ∃a,Bq X (D X) Lw R tv fB rv E=some a/\K a
def dK(X:Ctx)(R:pN)(n:Nat)(lo:oN)(res:List RV)(P:aS->Prop)(tv:AV)(fB:lA):bU
 |.normal,fr,E=> ∃a,dJ E fr.marks=some a/\rf X R tv fB .eI a λb=>dw X n lo res P .ret ⟨fr.env,[]⟩ b
 |.ret,fr,E=> ∃a,dJ E fr.marks=some a/\rf X R tv fB .eI a λb=>dw X n lo res P .ret ⟨fr.env,[]⟩ b
 |.panic v,fr,E=> ∃a,dJ E fr.marks=some a/\rf X R tv fB v a λb=>dw X n lo res P .ret ⟨fr.env,[]⟩ b
 |.exit _,_,_=>False
section
variable{n:Nat}{lo:oN}{res:List RV}{P:aS->Prop}{tv:AV}{fB:lA}{e:Env}{E:AS}{v:AV}
def EL:dK X R n lo res P tv fB .ret ⟨e,[]⟩ E=rf X R tv fB .eI E λa=>dw X n lo res P .ret ⟨e,[]⟩ a:=by
 simp[dK,dJ]
def oz:dK X R n lo res P tv fB (.panic v) ⟨e,[]⟩ E=rf X R tv fB v E λa=>dw X n lo res P .ret ⟨e,[]⟩ a:=by
 simp[dK,dJ]
end
def JD(X:Ctx)(R:pN)(f:FuncId)(n:Nat)(lo:oN)(res:List RV)(P:aS->Prop)(la:ao)(fB:List ao)(rest:PC):bU:=λex fr E=>
 ex= .normal/\fr.marks=[]/\ (la.get fr.env).JB=true/\wp X f false rest ⟨fr.env,[]⟩ E (dK X R n lo res P (la.get fr.env) (fB.map (·.get fr.env)))
def Ru(X:Ctx)(R:pN)(f:FuncId)(n:Nat)(lo:oN)(res:List RV)(P:aS->Prop)(ops:List aP)(la:ao)(fB:List ao)(rest:PC):bU:=λex fr E=>
 ex= .normal/\wp X f false (.aL ops) fr E (JD X R f n lo res P la fB rest)
section
variable{f:FuncId}{n:Nat}{lo:oN}{res:List RV}{P:aS->Prop}{ops:List aP}{la:ao}{fB:List ao}{rest:PC}{e:Env}{fr:Fr}{E:AS}
def j8:JD X R f n lo res P la fB rest .normal ⟨e,[]⟩ E=((la.get e).JB=true/\wp X f false rest ⟨e,[]⟩ E (dK X R n lo res P (la.get e) (fB.map (·.get e)))):=by simp[JD]
def j9:Ru X R f n lo res P ops la fB rest .normal fr E=wp X f false (.aL ops) fr E (JD X R f n lo res P la fB rest):=by simp[Ru]
end
def Rw(i:vf){k:PC}{ops:List aP}{la:ao}{fB:List ao}{rest:PC}(x:i.body= .later k (.here ops la fB rest)){args:lA}{H:List ae}{P:aS->Prop}(u:Nat.ble args.length i.ntmps=true)
  (h: ∀n,H.length=n->wp X f false k ⟨dc args,[]⟩ ⟨H,none⟩ (Ru X R f n lo i.results P ops la fB rest)): ∃m,wU X (D X) Lw R f i args ⟨H,lo⟩=some m/\P m:=by
 obtain⟨ex,fr,E,hr,rfl,hw⟩:=h _ rfl;rw[QM]at hw;obtain⟨A,⟨j,t⟩,s,p,rfl,hm,w,d,c,g,o,q⟩:=hw;subst hm;have l:wT X (D X) Lw f i.body ⟨dc args,[]⟩ ⟨H,none⟩=some (some (la.get j,fB.map (·.get j)),(d,c,g)):=by
  rw[x];simp only[wT,hr,p,w,ajQ,o,ah6]
 unfold wU;rw[aaR (ass u)];simp only[l,Rh];have key: ∀rv,d.Rg=some rv->(∃b,dJ g c.marks=some b/\rf X R (la.get j) (fB.map (·.get j)) rv b λa=>dw X H.length lo i.results P .ret ⟨c.env,[]⟩ a)->
   ∃m,(match d.Rg,dJ g c.marks with
    |some rv,some b=>(Bq X (D X) Lw R (la.get j) (fB.map (·.get j)) rv b).bind λa=>(fy X a c.env i.results).map λv=>aS.ret (finish H.length lo v a).1 (finish H.length lo v a).2
    |_,_=>none)=some m/\P m:=by
  rintro rv B ⟨b,I,a,G,z⟩;obtain⟨r,v,y,F,C⟩:=z;simp only[dJ,aaQ]at y
  grind
 cases d with
 |normal=>exact key _ rfl q
 |ret=>exact key _ rfl q
 |panic v=>exact key _ rfl q
 |exit _=>trivial
def JE{g:FuncId}{pr:wR}(c:R g=some pr){cap fB:lA}{rv:AV}{H:List ae}{K:AS->Prop}(b:Nat.ble (fB++cap).length pr.pf.ntmps=true)
  (h: ∀n,H.length=n->wp X g false pr.pf.body ⟨(dc (fB++cap)).set pr.dst rv,[]⟩ ⟨H,none⟩ (λex fr E=>fr.marks=[]/\ (ex= .normal\/ex= .ret)/\ ∃v,fy X E fr.env pr.pf.results=some v/\K (finish n lo v E).2)):
  rf X R (.fn (.func g) [] cap) fB rv ⟨H,lo⟩ K:=by
 obtain⟨ex,⟨e,ms⟩,E,hr,hm,hex,v,i,d⟩:=h _ rfl;have a:=ass b;refine⟨_,?_,d⟩;simp only[Bq,c,arL,Jz,ajS]
 grind
end
section
structure Ext(X X':Ctx):Prop where
 dp:X'.dp=X.dp
 fo:X'.fo=X.fo
 code:X'.code=X.code
 bZ: ∀f,X'.bZ f=X.bZ f\/ (X.bZ f=none/\X.code f=none)
variable{X X':Ctx}
def aut(h:Ext X X'):cb X'=cb X:=by
 unfold cb;rw[h.dp]
def ahK(h:Ext X X'){C:bA}(i:I)(e:Env)(E:AS):exec X' C i e E=exec X C i e E:=by
 obtain⟨g,j,c,m'⟩:=X';obtain⟨b,a,f,d⟩:=h;subst b a;cases i<;>rfl
theorem ahL(h:Ext X X'){C:bA}: ∀ (os:List aP),eN X' C os=eN X C os
 | []=>by rfl
 |o::os=>by
  simp only[eN,ahK h,ahL h os]
theorem ahM(h:Ext X X'){C:bA}: ∀ (os:List (aP×lN)) (a:List FP),gh X' C a os=gh X C a os
 | [],a=>by rfl
 |o::os,a=>by
  simp only[gh,ahK h,ahM h os]
def auu(h:Ext X X')(a:sB X v=true):sB X' v=true:=by
 unfold sB at a⊢;split at a
 ·rename_i f _ _;rw[h.code];rcases h.bZ f with b| ⟨_,c⟩
  ·grind
  grind
 omega
theorem sQ(h:Ext X X'){C:bA}{L:eu}(e:eu.le L L)(bS:FuncId)(rd:Bool): ∀j,qV (a0 X C L bS rd j) (a0 X' C L bS rd j)
 |.skip,_,_,_,d=>by trivial
 |.seq a b,fr,E,r,d=>by
  simp only[a0]at d⊢;split at d
  ·rename_i k;rw[sQ h e bS rd a _ _ _ k];exact sQ h e bS rd b _ _ _ d
  ·cases hr:a0 X C L bS rd a fr E with
   |none=>grind
   |some q=>
    rw[sQ h e bS rd a _ _ _ hr]
    grind
 |.cond c a b,fr,E,r,d=>by
  simp only[a0]at d⊢;split at d
  ·rename_i t m;split at d
   ·rename_i f;rw[aaR f];exact sQ h e bS rd a _ _ _ d
   ·rename_i f;rw[aaH f];exact sQ h e bS rd b _ _ _ d
  omega
 |.block id body,fr,E,r,d=>by
  simp only[a0]at d⊢;cases hr:a0 X C L bS rd body fr E with
  |none=>rw[hr]at d;cases d
  |some q=>rw[sQ h e bS rd body _ _ _ hr];rw[hr]at d;exact d
 |.loop body,fr,E,r,d=>by
  simp only[a0]at d⊢;exact e _ _ (sQ h e bS rd body) _ _ _ d
 |.exit id,_,_,_,d=>by simpa only[a0]using d
 |.ret,_,_,_,d=>by simpa only[a0]using d
 |.aL ops,fr,E,r,d=>by
  simp only[a0]at d⊢;rw[ahL h];exact d
 |.uP ops,fr,E,r,d=>by
  simp only[a0]at d⊢;rw[ahM h];exact d
 |.ik g ps as bd,fr,E,r,d=>by
  simp only[a0]at d⊢;split at d
  ·cases d
  ·rename_i i;rw[aaH i];split at d
   ·rename_i l;rw[aaR (auu h l)];exact d
   ·cases d
def auv(h:Ext X X'){C:bA}{L:eu}(m:eu.le L L)(l:Nat)(args:lA)(E:AS)(r:aS)(c:j7 X C L l args E=some r):j7 X' C L l args E=some r:=by
 simp only[j7]at c⊢;split at c
 ·rename_i st j f env ps as bd s;split at c
  ·rename_i a;simp only[a,ajQ];split at c
   ·rename_i fr e n;rw[sQ h m _ _ _ _ _ _ n];simp only;split at c
    ·rename_i b p d g i iK o;cases k:a0 X C L f true bd fr (e.set l (.loop .busy b p d g i iK) 0)with
     |none=>rw[k]at c;cases c
     |some q=>rw[sQ h m _ _ _ _ _ _ k];grind
    omega
   grind
  grind
 omega
theorem ahN(h:Ext X X')(E:AS)(e:Env): ∀rs,jE X' E e rs=jE X E e rs
 | []=>rfl
 |r::rs=>by
  have:od X' E e r=od X E e r:=by
   cases r with
   |t i=>rfl
   |cell a ag n=>simp only[od,aut h]
  simp only[jE,this,ahN h E e rs]
def auw(h:Ext X X')(n:Nat)(lo:oN)(pf:PF)(r:jk):leave X' n lo pf r=leave X n lo pf r:=by
 have e1: ∀fr E,qQ X' n lo pf fr E=qQ X n lo pf fr E:=λfr E=>by
  simp only[qQ,fy,ahN h]
 rcases r with _| ⟨ex,fr,E⟩
 ·rfl
 ·cases ex<;>simp only[leave,e1]
def auy(h:Ext X X'){C:bA}{L:eu}(d:eu.le L L):bA.le (step X C L) (step X' C L):=by
 intro v args E r b;unfold step at b⊢;split at b
 ·rename_i f first cap
  split at b
  ·rename_i p g;have:X'.bZ f=some p:=by
    rcases h.bZ f with q| ⟨q,_⟩
    ·grind
    grind
   grind
  ·split at b
   ·rename_i pf e;split at b
    ·rename_i a;have:X'.bZ f=none:=by
      rcases h.bZ f with q| ⟨_,q⟩
      ·grind
      grind
     rw[this,h.code,e];simp only;rw[aaR a,auw h];cases c:a0 X C L f false pf.body {env:=dc (first++args++cap),marks:=[]} {E with lo:=none}with
     |none=>rw[c]at b;cases b
     |some q=>rw[sQ h d _ _ _ _ _ _ c];grind
    grind
   grind
 ·exact auv h d _ _ _ _ b
 omega
theorem ahO(h:Ext X X'): ∀n,bA.le (im X n) (im X' n)
 |0=>λf args E r h=>by trivial
 |n+1=>by
  exact bA.le_trans (auy h (I7 n)) (abn (ahO h n) (I7 n))
def ahP(h:Ext X X'):bA.le (D X) (D X'):=λf a s r hr=>by
 obtain⟨n,b⟩:=y7 hr;exact QF (n:=n) _ _ _ _ (ahO h n _ _ _ _ b)
end
def rh(a:List (Nat×lB×Nat)):List (AV×AV):=a.map λx=>(.int .u8 x.1,.fn (.func x.2.2) [] [])
theorem Rx{n:Int}: ∀l:List (AV×AV),(∀p∈l,∃m:Int,p.1= .int .u8 m)->ea (.int .u8 n) l=some ((l.find? λp=>match p.1 with|.int _ m=>n==m|_=>false).map (·.2))
 | [],_=>rfl
 | (k,v)::l,h=>by
   obtain⟨m,hm⟩:=h (k,v) (by simp);have a:=Rx (n:=n) l (λp b=>h p (by grind));simp only[ea,pC,List.find?_cons]
   grind
theorem ahQ: ∀ {l:List (AV×AV)} {p q:AV×AV},(l.Pairwise λp q=>p.1≠q.1)->p∈l->q∈l->p≠q->p.1≠q.1
 |a::l,p,q,h,f,e,b=>by
  rw[aqu]at h;rcases ajR.1 f with d|d
  ·grind
  ·rcases ajR.1 e with c|c
   ·grind
   ·exact ahQ h.2 d c b
def auz{α β:Type}{F:α->β}{l g:List β}(h:l.Perm g): ∀m:List α,m.map F=l-> ∃m':List α,m'.Perm m/\m'.map F=g:=by
 induction h with
 |nil=>simp
 |cons x _ j=>
  intro m hm;cases m with
  |nil=>grind
  |cons a m=>
   simp only[ape,aAL]at hm;obtain⟨m',f,i⟩:=j m hm.2;exact⟨a::m',f.cons a,by grind⟩
 |swap x y l=>
  intro m hm
  match m,hm with
  |a::b::m,hm=>
   exact⟨b::a::m,.swap a b m,by grind⟩
 |trans _ _ e d=>
  intro m hm;obtain⟨m',f,i⟩:=e m hm;obtain⟨c,n,k⟩:=d m' i;exact⟨c,n.trans f,k⟩
def auA{l e:List (AV×AV)}(h: ∀p∈l,∃m:Int,p.1= .int .u8 m)(o:l.Perm e)(u:l.Pairwise λp q=>p.1≠q.1){k:AV}{v:Option AV}(f:ea k l=some v):ea k e=some v:=by
 have w: ∀p∈e,∃m:Int,p.1= .int .u8 m:=λp j=>h p (o.mem_iff.2 j)
 cases l with
 |nil=>simp_all
 |cons a l=>
  obtain⟨m,hm⟩:=h a (by simp);obtain⟨z,r⟩:=a;simp only at hm;subst hm;cases k with
  |int q n=>
   by_cases t:q= .u8
   ·subst t;rw[Rx _ h]at f;rw[Rx _ w];rw[<-f]
    congr 2
    have hu: ∀p q:AV×AV,p∈((AV.int .u8 m,r)::l)->q∈((AV.int .u8 m,r)::l)->(match p.1 with|.int _ m=>n==m|_=>false)=true->(match q.1 with|.int _ m=>n==m|_=>false)=true->p=q:=by
     intro p q c b e1 d;obtain⟨g,y⟩:=h p c;obtain⟨s,x⟩:=h q b;have e3:p.1=q.1:=by grind
     by_cases i:p=q
     ·omega
     ·exact absurd e3 (ahQ u c b i)
    cases e1: ((AV.int .u8 m,r)::l).find? (λp=>match p.1 with|.int _ m=>n==m|_=>false)with
    |none=>grind
    |some p=>
     have g:=at6 e1;have t1:=List.find?_some e1;cases d:e.find? (λp=>match p.1 with|.int _ m=>n==m|_=>false)with
     |none=>
      rw[aB8]at d;exact absurd t1 (d p (o.mem_iff.1 g))
     |some q=>
      have s:=o.mem_iff.2 (at6 d);have t2:=List.find?_some d;rw[hu q p s g t2 t1]
   ·exfalso;simp[ea,pC,t]at f
  |_=>exfalso;simp[ea,pC]at f
section
variable{P:Program}{W:World}
theorem ahR{α β:Type}{f:α->Option β}: ∀ {l:List α} {r:List β},l.mapM f=some r->l.length=r.length/\ ∀ (i:Nat) a b,l[i]?=some a->r[i]?=some b->f a=some b
 | [],r,h=>by grind
 |x::l,r,h=>by
  rw[aBs]at h;simp only[bind,aqj,pure,aaQ]at h;obtain⟨y,d,c,hr,rfl⟩:=h;obtain⟨g,e⟩:=ahR hr
  grind
def ahS{n:String}{d:DataW Unit}{g e:Nat}{ps rs:Array TypeId}{va:Bool}{a:List (Nat×lB×Nat)}(hfa:funcsAt P W n d)(hd:d.funcsOut= .map (a.map λx=>(.int .u8 x.1,.held x.2.1)))
  (hg:P.globalNamed n=some g) (ht: (P.globals[g]?).map (·.type)=some t) (hu:P.underlying t=some (.map k e)) (hk:P.underlying k=some (.int .u8)) (he:P.underlying e=some (.func ps rs va))
  (S: ∀x∈a,((List.range P.funcs.size).filter λf=>(P.funcs[f]?).any (·.name.toUTF8.data.toList==x.2.1))=[x.2.2]) (ot: ∀x∈a,x.2.1≠[]) (D:a.Pairwise λx y=>x.1≠y.1):
  g<W.heap.size/\ ∃es' r ms clock,r<W.heap.size/\W.cell? ⟨g,0,none⟩=some (.map (some r))/\W.heap[r]?=some (.map ms clock)/\fI (G0 W.heap.size W) es' ms.toList/\ ∀k v,ea k (rh a)=some v->ea k es'=some v:=by
 obtain⟨g',t',cs,fuel,p,h1,h2,h3,u⟩:=hfa;obtain rfl:g'=g:=alo (h1.symm.trans hg);obtain rfl:t'=t:=alo (h2.symm.trans ht);rw[hd]at u;cases fuel with
 |zero=>simp[DataW.trod]at u
 |succ fuel=>
 unfold DataW.trod at u;rw[hu]at u;obtain⟨b,K⟩: ∃b,cs.toList=[.map (some b)]:=by
  split at u<;>simp_all
 rw[K]at u;simp only at u;split at u
 case h_2=>cases u
 rename_i es clock hb;split at u
 case isFalse=>cases u
 obtain⟨entries,hm,hs⟩:=aqj.1 u;split at hs
 case isFalse=>cases hs
 rename_i aGh;simp only[aaQ,asj,DataW.map.injEq]at hs;obtain⟨G,_⟩:=hs;obtain⟨E,auC⟩:=ahR hm;have z: (entries.map (·.1)).Perm (a.map λx=>(Lit.int .u8 x.1,DataW.held x.2.1)):=by
  rw[<-G];exact(WideShapes.sorted_perm _).symm
 have B: ∀ (i:Nat) (m:MapEntry),es.toList[i]?=some m-> ∃x∈a,(entries.map (·.1))[i]?=some (Lit.int .u8 x.1,DataW.held x.2.1)/\m.key= .int .u8 x.1/\m.val= .func (.func x.2.2) #[] #[]:=by
  intro i m J;have I:i<entries.length:=by rw[<-E];exact(aaG.1 J).1
  have B:=auC i m entries[i] J (abe I);obtain⟨key,l,s⟩:=aqj.1 B;have U:entries[i].1∈a.map λx=>(Lit.int .u8 x.1,DataW.held x.2.1):=z.mem_iff.1 (ais.2 ⟨entries[i],aui I,rfl⟩)
  obtain⟨x,C,q⟩:=ais.1 U;refine⟨x,C,by rw[ajP,abe I,ah6,<-q],?_⟩;split at s
  case isFalse=>cases s
  rename_i A;obtain⟨y,F,N⟩:=ah3.1 s;have hk1:key= .int .u8 x.1:=by rw[<-N]at q;simp only[asj]at q;exact q.1.symm
  have V:y.1= .held x.2.1:=by rw[<-N]at q;simp only[asj]at q;exact q.2.symm
  constructor
  ·subst hk1;unfold keyOf at l;rw[hk]at l;simp only at l;unfold mapKey at l;rw[hk]at l;split at l<;>simp_all
  ·have L:m.val.cells.toList=[m.val]:=by
     cases hv:m.val<;>first|rfl| (rw[hv]at A;simp[Value.formed,he]at A)
   rw[L]at F;obtain⟨y1,y2⟩:=y;simp only at V;subst V;cases H:x.2.1 with
   |nil=>exact absurd H (ot x C)
   |cons c r=>
    rw[H]at F;have ho:=S x C;rw[H]at ho;exact func_of_trod he ho F
 obtain⟨w,R,Q⟩:=auz z.symm a rfl;have O:g'<W.heap.size:=by
  have hc:W.cell? ⟨g',0,none⟩=some (.map (some b)):=by rw[World.var?_cell hg h3,<-asv,K];rfl
  unfold World.cell? at hc;cases hh:W.heap[g']? with
  |none=>rw[hh]at hc;cases hc
  |some o=>exact(ao8.1 hh).1
 have Z: ∀x∈a,∀y∈a,x.1=y.1->x=y:=by
  intro x C y F e;obtain⟨i,J⟩:=auH C;obtain⟨j,Y⟩:=auH F;rw[List.pairwise_iff_getElem]at D;have hi1:=(aaG.1 J).1;have X:=(aaG.1 Y).1;rcases awY i j with h|h|h
  ·have:=D i j hi1 X h;rw[(aaG.1 J).2,(aaG.1 Y).2]at this;exact absurd e this
  ·subst h;rw[J]at Y;cases Y;rfl
  ·have:=D j i X hi1 h;rw[(aaG.1 J).2,(aaG.1 Y).2]at this;exact absurd e.symm this
 refine⟨O,rh w,b,es,clock,(ao8.1 hb).1,?_,hb,?_,?_⟩
 ·rw[World.var?_cell hg h3,<-asv,K];rfl
 ·have hl':w.length=es.toList.length:=by
    have:=ajV List.length Q;simp only[ahX]at this;omega
  have key: ∀ (T:List (Nat×lB×Nat)) (M:List MapEntry),T.length=M.length->(∀ (i:Nat) x m,T[i]?=some x->M[i]?=some m->m.key= .int .u8 x.1/\m.val= .func (.func x.2.2) #[] #[])->fI (G0 W.heap.size W) (rh T) M:=by
   intro T
   induction T with
   |nil=>
    intro M hM _;cases M with
    |nil=>rfl
    |cons m M=>simp at hM
   |cons x T ih=>
    intro M hM hh;cases M with
    |nil=>simp at hM
    |cons m M=>
     obtain⟨e1,e2⟩:=hh 0 x m rfl rfl;refine⟨m,M,rfl,rfl,by rw[e1];rfl,by rw[e2];exact⟨.func x.2.2,#[],#[],rfl,rfl,rfl,rfl⟩,ih M (by simpa using hM) λi x' m' C hm=>hh (i+1) x' m' (by simpa using C) (by simpa using hm)⟩
  refine key w es.toList hl' λi x m C hm=>?_
  obtain⟨y,F,hy1,hy2,hy3⟩:=B i m hm;have e1: (entries.map (·.1))[i]?=some (Lit.int .u8 x.1,DataW.held x.2.1):=by
   rw[<-Q,ajP,C];rfl
  rw[hy1]at e1;simp only[aaQ,asj,Lit.int.injEq,aBp]at e1;have e2:y.1=x.1:=by have:=e1.1;omega
  have:y=x:=Z y F x (R.mem_iff.1 (aoA C)) e2;subst this;exact⟨hy2,hy3⟩
 ·intro k v hf;refine auA (λp hp=>?_) (R.symm.map _) ?_ hf
  ·obtain⟨x,_,rfl⟩:=ais.1 hp;exact⟨x.1,rfl⟩
  ·rw[aCh];refine D.imp λhab=>?_
   simp only[ne_eq,AV.int.injEq,aBp];omega
end
section
variable{X:Ctx}
def JF{args:lA}{E:AS}{r:aS}(h:j7 X (D X) Lw l args E=some r):D X (.fn (.yield l) [] []) args E=some r:=
 I9 (by trivial)
def ahV(X:Ctx)(y:AV)(a k:Nat)(x:lA)(P:List ae->List ae->Prop)(Q:Bool->List ae->List ae->Prop):Prop:=
 ∀A M,P A M->A.length=a-> ∀G L lo,G.length=k-> ∃b A' c,A'.length=a/\c.length=M.length/\D X y x ⟨A++(G++(M++L)),lo⟩=some (.ret (.bool b) ⟨A'++(G++(c++L)),lo⟩)/\Q b A' c
def ahW(X:Ctx)(g:AV)(a:Nat)(G:List ae)(xs:List lA):Prop:=
 ∀ (y:AV) (I:Nat->List ae->List ae->Prop) (J:List ae->List ae->Prop),
   (∀j x,xs[j]?=some x->ahV X y a G.length x (I j) (λb A M=>if b=true then I (j+1) A M else J A M))->
   ∀A M,A.length=a->I 0 A M-> ∀lo,∃A' d c,A'.length=a/\d.length=G.length/\c.length=M.length/\
    D X g [y] ⟨A++(G++M),lo⟩=some (.ret (.au []) ⟨A'++(d++c),lo⟩)/\ (I xs.length A' c\/J A' c)
def Ry(a:Nat)(R:List ae)(I:List ae->Prop)(J:Ex->List ae->Prop):bU:=λex _ E=>
 E.lo=none/\ ∃b iI,E.heap=b++(R++iI)/\b.length=a/\ (match ex with|.normal=>I b|.panic _=>False|ex=>J ex b)
def Ex.code:Ex->PC
 |.ret=>.ret
 |.exit id=>.exit id
 |_=>.skip
def auJ{g:ao}{a:lN}{as c:PC}{Q:bU}(xs:List lA)(A G:List ae)
  (hg:sB X (g.get e)=true) (Rz:ahW X (g.get e) A.length G xs) (I:Nat->List ae->Prop) (J:Ex->List ae->Prop) (h0:I 0 A)
  (hb: ∀j x,xs[j]?=some x->x.length=a.length/\ ∀k,k.length=A.length->I j k-> ∀R,
    wp X f true as ⟨iJ e a x,[]⟩ ⟨k++R,none⟩ (λex fr N=>ex= .normal/\ ∃R1,N=⟨k++(R++R1),none⟩/\
     ∀R',R'.length=R.length->wp X f true c fr ⟨k++(R'++R1),none⟩ (Ry A.length R' (I (j+1)) J)))
  (h1: ∀A' i o,A'.length=A.length->i.length=G.length->I xs.length A'->Q .normal ⟨e,[(A++G).length]⟩ ⟨A'++(i++[.bE,o]),none⟩)
  (h2: ∀ex A' i o,A'.length=A.length->i.length=G.length->J ex A'->Q ex ⟨e,[(A++G).length]⟩ ⟨A'++(i++[.bE,o]),none⟩):
  wp X f false (.ik g a as c) ⟨e,[]⟩ ⟨A++G,none⟩ Q:=by
 obtain⟨l,hl⟩: ∃l,l=A.length+G.length+1:=⟨_,rfl⟩;have w: ∀ (A' i:List ae) (d o:ae) (L:List ae),A'.length=A.length->i.length=G.length->(A'++(i++([d,o]++L)))[l]?=some o:=by
  intro A' i d o L ha E;rw[ajE (by omega),ajE (by omega),ha,E,hl];rw[show A.length+G.length+1-A.length-G.length=1 by omega];rfl
 have z: ∀ (A' i:List ae) (d o o':ae) (L:List ae),A'.length=A.length->i.length=G.length->(A'++(i++([d,o]++L))).set l o'=A'++(i++([d,o']++L)):=by
  intro A' i d o o' L ha E;rw[aqs _ _ (by omega),aqs _ _ (by omega),ha,E,hl];rw[show A.length+G.length+1-A.length-G.length=1 by omega];rfl
 have n: ∀ (H:List ae) (o:ae),AS.set ⟨H,none⟩ l o 0=⟨H.set l o,none⟩:=λH o=>by simp[AS.set]
 let I':Nat->List ae->List ae->Prop:=λj k M=>M=[.bE,.loop .ready none f e a as c]/\I j k
 let J':List ae->List ae->Prop:=λk M=> ∃ex,M=[.bE,.loop .done (some ex.code) f e a as c]/\AO ex.code=some ex/\J ex k
 have C: ∀j x,xs[j]?=some x->ahV X (.fn (.yield l) [] []) A.length G.length x (I' j) (λb A M=>if b=true then I' (j+1) A M else J' A M):=by
  intro j x hx k M ⟨T,hI⟩ q G1 L lo y;subst T;obtain⟨Z,hbj⟩:=hb j x hx;have h:=hbj k q hI (G1++([.bE,.loop .ready none f e a as c]++L));obtain⟨ex,fr,N,EM,rfl,R1,rfl,F⟩:=h;have F:=F (G1++([.bE,.loop .busy none f e a as c]++L)) (by simp);obtain⟨V,fr2,Y,RA,B,t,iI,S,m,hex⟩:=F;obtain⟨h2',mH⟩:=Y;simp only at B S;subst B S;have hn: (k++(G1++([ae.bE,.loop .ready none f e a as c]++L))).length=(t++(G1++([ae.bE,.loop .busy none f e a as c]++L))).length:=by
   simp[q,m]
  have u: ∀ (O:Option PC),sE V=some O->j7 X (D X) Lw l x ⟨k++(G1++([ae.bE,.loop .ready none f e a as c]++L)),lo⟩=some (.ret (.bool O.isNone) ⟨t++(G1++([ae.bE,.loop (if O.isNone then .ready else .done) O f e a as c]++L)),lo⟩):=by
   intro O EN;unfold j7;simp only[w k G1 _ _ L q y];rw[aaR Z,EM];simp only;have e1:k++((G1++([ae.bE,.loop .ready none f e a as c]++L))++R1)=k++(G1++([ae.bE,.loop .ready none f e a as c]++(L++R1))):=by simp
   rw[e1,w k G1 _ _ (L++R1) q y];simp only[n,z k G1 _ _ _ (L++R1) q y];have e2:k++(G1++([ae.bE,.loop .busy none f e a as c]++(L++R1)))=k++((G1++([ae.bE,.loop .busy none f e a as c]++L))++R1):=by simp
   rw[e2,RA];have e3:t++((G1++([ae.bE,.loop .busy none f e a as c]++L))++iI)=t++(G1++([ae.bE,.loop .busy none f e a as c]++(L++iI))):=by simp
   simp only[endRound,EN,e3,w t G1 _ _ (L++iI) m y,n,z t G1 _ _ _ (L++iI) m y];have e4: ∀o:ae,(t++(G1++([ae.bE,o]++(L++iI)))).take (k++(G1++([ae.bE,.loop .ready none f e a as c]++L))).length=t++(G1++([ae.bE,o]++L)):=by
    intro o;have:t++(G1++([ae.bE,o]++(L++iI)))=(t++(G1++([ae.bE,o]++L)))++iI:=by simp
    rw[this];exact aqm (by simp[q,m])
   simp only[finish,freeze,AV.refs,abX,ajQ,e4]
  cases V with
  |normal=>
   exact⟨true,t,_,m,rfl,JF (u none rfl),by simp only[ajQ];exact⟨rfl,hex⟩⟩
  |ret=>
   exact⟨false,t,[.bE,.loop .done (some .ret) f e a as c],m,rfl,JF (u (some .ret) rfl),by simp only[ah2,ak8];exact⟨.ret,rfl,rfl,hex⟩⟩
  |exit id=>
   exact⟨false,t,[.bE,.loop .done (some (.exit id)) f e a as c],m,rfl,JF (u (some (.exit id)) rfl),by simp only[ah2,ak8];exact⟨.exit id,rfl,rfl,hex⟩⟩
  |panic v=>exact hex.elim
 obtain⟨A',i,M',s,p,hM',hD,JG⟩:=Rz (.fn (.yield l) [] []) I' J' C A [.bE,.loop .ready none f e a as c] rfl ⟨rfl,h0⟩ none;have K: ((AS.push ⟨A++G,none⟩ .bE).push (.loop .ready none f e a as c))=(⟨A++(G++[.bE,.loop .ready none f e a as c]),none⟩:AS):=by simp[AS.push]
 have W: (A++G).length+1=l:=by simp[hl]
 have P: ∀r,endLoop l ⟨e,[(A++G).length]⟩ ⟨A'++(i++M'),none⟩=some r->a0 X (D X) Lw f false (.ik g a as c) ⟨e,[]⟩ ⟨A++G,none⟩=some r:=by
  intro r hr;simp only[a0,ah2,ak8];rw[aaR hg,W,K,hD];exact hr
 rcases JG with⟨T,hI⟩| ⟨ex,T,hj,hJ⟩
 ·subst T;refine⟨.normal,⟨e,[(A++G).length]⟩,⟨A'++(i++[.bE,.loop .exhausted none f e a as c]),none⟩,P _ ?_,h1 A' i _ s p hI⟩;have:=w A' i .bE (.loop .ready none f e a as c) [] s p;have U:=z A' i .bE (.loop .ready none f e a as c) (.loop .exhausted none f e a as c) [] s p;simp only[ajJ]at this U;unfold endLoop;simp only[this];rw[aaH (by decide),n,U]
 ·subst T;refine⟨ex,⟨e,[(A++G).length]⟩,⟨A'++(i++[.bE,.loop .exhausted (some ex.code) f e a as c]),none⟩,P _ ?_,h2 ex A' i _ s p hJ⟩;have:=w A' i .bE (.loop .done (some ex.code) f e a as c) [] s p;have U:=z A' i .bE (.loop .done (some ex.code) f e a as c) (.loop .exhausted (some ex.code) f e a as c) [] s p;simp only[ajJ]at this U;unfold endLoop;simp only[this,hj];rw[aaH (by decide),n,U]
end
section
structure YV(S:Type)where
 P:S->List ae->Prop
 row:S->oN
 dW:Nat->Prop
 c:Nat
structure YV.Ok{S:Type}(V:YV S):Prop where
 st: ∀s W W',V.P s W->(∀i,V.dW i\/V.row s=some i->W'[i]?=W[i]?)->V.P s W'
 lt: ∀s W r,V.P s W->V.row s=some r-> ∃v z t af,W[r]?=some (.row v z t af)
def YV.Fr{S:Type}(V:YV S)(s:S)(W a:List ae):Prop:=W.length<=a.length/\ ∀i,i<W.length-> ¬V.dW i->V.row s≠some i->a[i]?=W[i]?
def nf(c b:Nat)(lo ak:oN)(r a:oN):Prop:=(ak=lo/\a=r)\/ ∃j,c<=j/\j<b/\ak=cI lo j
variable{X:Ctx}
def ahY(X:Ctx){S:Type}(V:YV S)(b:Nat)(y:AV)(x:lA)(s:S)(Q:Bool->S->Prop):Prop:=
 ∀W,V.P s W->b<=W.length-> ∀lo,∃c a d ak,D X y x ⟨W,lo⟩=some (.ret (.bool c) ⟨d,ak⟩)/\V.P a d/\V.Fr s W d/\ (V.row a=V.row s\/ ∃r,V.row a=some r/\W.length<=r)/\nf V.c b lo ak (V.row s) (V.row a)/\Q c a
def vg(X:Ctx)(g:AV)(a:Nat)(G:List ae)(xs:List lA):Prop:=
 ∀ (S:Type) (V:YV S) (y:AV) (I:Nat->S->Prop) (J:S->Prop) (b:Nat),V.Ok->(∀i,V.dW i->i<b/\ ¬(a<=i/\i<a+G.length))->
   (∀j x s,xs[j]?=some x->I j s->ahY X V b y x s (λc d=>if c=true then I (j+1) d else J d))->
   ∀W s,V.P s W->I 0 s->W.length=b->V.row s=none->(∀i,i<G.length->W[a+i]?=G[i]?)-> ∀lo,∃d e ak,
    D X g [y] ⟨W,lo⟩=some (.ret (.au []) ⟨e,ak⟩)/\V.P d e/\ (I xs.length d\/J d)/\b<=e.length/\
    (∀i,i<b-> ¬V.dW i-> ¬(a<=i/\i<a+G.length)->e[i]?=W[i]?)/\nf V.c b lo ak none (V.row d)
theorem EO:cI none j=some j:=rfl
def ahZ: ∃q,cI (some i) j=some q/\ (q=i\/q=j):=by
 refine⟨Nat.min j i,rfl,?_⟩
 grind
def ah0{S:Type}(V:YV S)(b:Nat)(s:S)(W:List ae)(I:S->Prop)(J:Ex->S->Prop):bU:=λex _ E=>
 ∃a,V.P a E.heap/\V.Fr s W E.heap/\ ((E.lo=none/\V.row a=V.row s)\/ ∃j,V.c<=j/\j<b/\E.lo=some j/\ (V.row a=V.row s\/ ∃r,V.row a=some r/\W.length<=r))/\
  (match ex with|.normal=>I a|.panic _=>False|ex=>J ex a)
def RC{H:List ae}(a:v.refs=0): (finish n lo v ⟨H,ak⟩).2=(match ak with|none=>⟨H.take n,lo⟩|some j=>if n<=j then⟨H.take n,lo⟩else⟨H,cI lo j⟩):=by
 have c: ∀k E,freeze E n (k+1) v=some v:=λk E=>zb (by omega)
 unfold finish;cases ak with
 |none=>grind
 |some j=>
  simp only[alb];split
  ·grind
  ·rfl
def ri{W:List ae}{o:ae}(h:i≠l): (W.set l o)[i]?=W[i]?:=by grind
def ah1{W:List ae}{o:ae}(h:l<W.length): (W.set l o)[l]?=some o:=by grind
def yV{S:Type}(V:YV S)(m:Nat)(f:FuncId)(e:Env)(a:lN)(as d:PC):YV (S×Option Ex)where
 P:=λs W=>V.P s.1 W/\W[m]?=some .bE/\W[m+1]?=some (match s.2 with|none=>.loop .ready none f e a as d|some ex=>.loop .done (some ex.code) f e a as d)
 row:=λs=>V.row s.1
 dW:=λi=>V.dW i\/i=m\/i=m+1
 c:=V.c
def auL{S:Type}{V:YV S}(c:V.Ok){d:lN}{as l:PC}: (yV V m f e d as l).Ok where
 st:=λs W n ⟨k,j,g⟩ h=>by
  refine⟨c.st _ _ _ k λi a=>h i ?_,?_,?_⟩
  ·rcases a with a|a
   ·exact .inl (.inl a)
   ·exact .inr a
  ·rw[h m (.inl (.inr (.inl rfl)))];exact j
  ·rw[h (m+1) (.inl (.inr (.inr rfl)))];exact g
 lt:=λs W r h hr=>c.lt _ _ r h.1 hr
def JH{S:Type}(V:YV S)(O:V.Ok){g:ao}{p:lN}{as u:PC}{Q:bU}(xs:List lA)(a:Nat)(G W0:List ae)(s0:S)
  (hg:sB X (g.get e)=true) (Rz:vg X (g.get e) a G xs) (hG: ∀i,i<G.length->W0[a+i]?=G[i]?) (hGl:a+G.length<=W0.length)
  (q: ∀i,V.dW i->i<W0.length/\ ¬(a<=i/\i<a+G.length)) (hP:V.P s0 W0) (T:V.row s0=none)
  (I:Nat->S->Prop) (J:Ex->S->Prop) (h0:I 0 s0) (hJ: ∀ex s,J ex s-> ∃t,sE ex=some (some t)/\AO t=some ex/\ex.code=t)
  (hb: ∀j x s,xs[j]?=some x->I j s->x.length=p.length/\ ∀W,V.P s W->W0.length+2<=W.length->
    wp X f true as ⟨iJ e p x,[]⟩ ⟨W,none⟩ (λex fr σ1=>ex= .normal/\ ∃R1,σ1=⟨W++R1,none⟩/\
     ∀H,H.length=W.length->V.P s H->wp X f true u fr ⟨H++R1,none⟩ (ah0 V (W0.length+2) s H (I (j+1)) J)))
  (h1: ∀n k ak,I xs.length n->V.P n k->W0.length+2<=k.length->k[W0.length]?=some .bE->(∀i,i<W0.length-> ¬V.dW i-> ¬(a<=i/\i<a+G.length)->k[i]?=W0[i]?)->nf V.c (W0.length+2) none ak none (V.row n)->Q .normal ⟨e,[W0.length]⟩ ⟨k,ak⟩)
  (h2: ∀ex n k ak,J ex n->V.P n k->W0.length+2<=k.length->k[W0.length]?=some .bE->(∀i,i<W0.length-> ¬V.dW i-> ¬(a<=i/\i<a+G.length)->k[i]?=W0[i]?)->nf V.c (W0.length+2) none ak none (V.row n)->Q ex ⟨e,[W0.length]⟩ ⟨k,ak⟩):
  wp X f false (.ik g p as u) ⟨e,[]⟩ ⟨W0,none⟩ Q:=by
 obtain⟨m,hm⟩: ∃m,m=W0.length:=⟨_,rfl⟩
 let A:=yV V m f e p as u
 have hV':A.Ok:=auL O
 let I':Nat->S×Option Ex->Prop:=λj s=>s.2=none/\I j s.1
 let J':S×Option Ex->Prop:=λs=> ∃ex,s.2=some ex/\J ex s.1
 have rj: ∀s W r,V.P s W->V.row s=some r->r<W.length:=λs W r h1 h2=>by
  obtain⟨_,_,_,_,h⟩:=O.lt s W r h1 h2;exact(aaG.1 h).1
 have auN: ∀j x s,xs[j]?=some x->I' j s->ahY X A (m+2) (.fn (.yield (m+1)) [] []) x s (λc n=>if c=true then I' (j+1) n else J' n):=by
  rintro j x ⟨s,so⟩ hx ⟨z,hI⟩ W ⟨L,hd,hl⟩ hW lo;simp only at z hI L hl;subst z;simp only at hl;obtain⟨qU,hw⟩:=hb j x s hx hI;obtain⟨ex,fr,σ1,EM,rfl,R1,rfl,hbd⟩:=hw W L (by omega);have hnp: ∀i,V.dW i\/V.row s=some i->i≠m/\i≠m+1:=by
   rintro i (d|d)
   ·have:=(q i d).1;omega
   ·obtain⟨_,_,_,_,h⟩:=O.lt s W i L d;refine⟨?_,?_⟩
    ·rintro rfl;rw[hd]at h;cases h
    ·rintro rfl;rw[hl]at h;cases h
  obtain⟨H,E⟩: ∃H,H=W.set (m+1) (.loop .busy none f e p as u):=⟨_,rfl⟩;have Bf:H.length=W.length:=by rw[E,ajB]
  have RE:V.P s H:=O.st _ _ _ L λi d=>by rw[E,ri (hnp i d).2]
  obtain⟨JI,fr2,l,RA,n,F,P,N,hex⟩:=hbd H Bf RE;have JJ: (W++R1)[m+1]?=some (.loop .ready none f e p as u):=by rw[aaF (by omega)];exact hl
  have auP:AS.set ⟨W++R1,none⟩ (m+1) (.loop .busy none f e p as u) 0=⟨H++R1,none⟩:=by
   simp only[AS.set,abX,ajQ,E];rw[at5 _ _ (by omega)]
  have auQ:H[m+1]?=some (.loop .busy none f e p as u):=by rw[E];exact ah1 (by omega)
  have M: ∀i,i=m\/i=m+1-> ¬V.dW i/\V.row s≠some i:=λi d=>⟨λh=>by have:=(q i h).1;omega,λh=>by have:=hnp i (.inr h);omega⟩
  have K:l.heap[m+1]?=some (.loop .busy none f e p as u):=by
   rw[P.2 (m+1) (by omega) (M _ (.inr rfl)).1 (M _ (.inr rfl)).2];exact auQ
  have R:l.heap[m]?=some .bE:=by
   rw[P.2 m (by omega) (M _ (.inl rfl)).1 (M _ (.inl rfl)).2,E,ri (by omega)];exact hd
  have Y: ∀i,V.dW i\/V.row n=some i->i≠m/\i≠m+1:=by
   rintro i (d|d)
   ·have:=(q i d).1;omega
   ·obtain⟨_,_,_,_,h⟩:=O.lt n _ i F d;refine⟨?_,?_⟩
    ·rintro rfl;rw[R]at h;cases h
    ·rintro rfl;rw[K]at h;cases h
  have aGl:W.length<=l.heap.length:=by have:=P.1;omega
  have Ep: ∀ (t:Option PC),sE JI=some t->j7 X (D X) Lw (m+1) x ⟨W,lo⟩=some (.ret (.bool t.isNone)
    (finish W.length lo (.bool t.isNone) ⟨l.heap.set (m+1) (.loop (if t.isNone then .ready else .done) t f e p as u),l.lo⟩).2):=by
   intro t EN;unfold j7;simp only[hl];rw[aaR qU,EM];simp only[JJ,auP,RA];simp only[endRound,EN,K,AS.set,abX,ajQ]
  have key: ∀ (t:Option PC) (w:Option Ex),sE JI=some t->(match w with|none=>ae.loop .ready none f e p as u|some ex=>.loop .done (some ex.code) f e p as u)= .loop (if t.isNone then .ready else .done) t f e p as u->
    ∃k ak,D X (.fn (.yield (m+1)) [] []) x ⟨W,lo⟩=some (.ret (.bool t.isNone) ⟨k,ak⟩)/\A.P (n,w) k/\A.Fr (s,none) W k/\ (A.row (n,w)=A.row (s,none)\/ ∃r,A.row (n,w)=some r/\W.length<=r)/\nf A.c (m+2) lo ak (A.row (s,none)) (A.row (n,w)):=by
   intro t w EN U;obtain⟨o,ho⟩: ∃o,o=ae.loop (if t.isNone then .ready else .done) t f e p as u:=⟨_,rfl⟩;rw[<-ho]at U;have hD:=JF (Ep t EN);rw[<-ho]at hD;have Z: ∀k,(∀i,i<W.length->k[i]?=(l.heap.set (m+1) o)[i]?)->(∀i,V.row n=some i->k[i]?=(l.heap.set (m+1) o)[i]?)->W.length<=k.length->A.P (n,w) k/\A.Fr (s,none) W k:=by
    intro k B hrw y;refine⟨⟨O.st _ _ _ F λi d=>?_,?_,?_⟩,y,λi d hp hr=>?_⟩
    ·rcases d with d|d
     ·rw[B i (by have:=(q i d).1;omega),ri (Y i (.inl d)).2]
     ·rw[hrw i d,ri (Y i (.inr d)).2]
    ·rw[B m (by omega),ri (by omega)];exact R
    ·rw[B (m+1) (by omega),ah1 (by omega)];exact ajV some U.symm
    ·have hp1: ¬V.dW i:=λh=>hp (.inl h)
     have ER:i≠m/\i≠m+1:=⟨λh=>hp (.inr (.inl h)),λh=>hp (.inr (.inr h))⟩;rw[B i d,ri ER.2,P.2 i (by omega) hp1 hr,E,ri ER.2]
   rcases N with⟨hn,hr⟩| ⟨jj,hc,hj,hn,hr⟩
   ·have e1: (finish W.length lo (.bool t.isNone) ⟨l.heap.set (m+1) o,l.lo⟩).2=⟨(l.heap.set (m+1) o).take W.length,lo⟩:=by rw[RC rfl,hn]
    rw[e1]at hD;refine⟨_,_,hD,?_⟩;obtain⟨g1,g2⟩:=Z ((l.heap.set (m+1) o).take W.length) (λi d=>by rw[ajO d])
     (λi d=>by rw[ajO (rj s W i L (by rw[<-hr];exact d))]) (by rw[ajM,ajB];omega)
    exact⟨g1,g2,.inl hr,.inl ⟨rfl,hr⟩⟩
   ·have e1: (finish W.length lo (.bool t.isNone) ⟨l.heap.set (m+1) o,l.lo⟩).2=⟨l.heap.set (m+1) o,cI lo jj⟩:=by
      rw[RC rfl,hn];simp only;rw[aaH (by omega)]
    rw[e1]at hD;refine⟨_,_,hD,?_⟩;obtain⟨g1,g2⟩:=Z (l.heap.set (m+1) o) (λi _=>rfl) (λi _=>rfl) (by rw[ajB];omega);refine⟨g1,g2,?_,.inr ⟨jj,hc,by omega,rfl⟩⟩;rcases hr with hr| ⟨r,hr,aGm⟩
    ·exact .inl hr
    ·exact .inr ⟨r,hr,by omega⟩
  cases JI with
  |normal=>
   obtain⟨k,ak,g1,g2,g3,g4,g5⟩:=key none none rfl rfl;exact⟨true,(n,none),k,ak,g1,g2,g3,g4,g5,by simp only[ajQ];exact⟨rfl,hex⟩⟩
  |panic v=>exact hex.elim
  |ret=>
   obtain⟨k,ak,g1,g2,g3,g4,g5⟩:=key (some .ret) (some .ret) rfl rfl;exact⟨false,(n,some .ret),k,ak,g1,g2,g3,g4,g5,by simp only[ah2,ak8];exact⟨.ret,rfl,hex⟩⟩
  |exit id=>
   obtain⟨k,ak,g1,g2,g3,g4,g5⟩:=key (some (.exit id)) (some (.exit id)) rfl rfl;exact⟨false,(n,some (.exit id)),k,ak,g1,g2,g3,g4,g5,by simp only[ah2,ak8];exact⟨.exit id,rfl,hex⟩⟩
 have auT: ∀i,A.dW i->i<m+2/\ ¬(a<=i/\i<a+G.length):=by
  rintro i (d|rfl|rfl)
  ·have:=q i d;exact⟨by omega,this.2⟩
  ·exact⟨by omega,by omega⟩
  ·exact⟨by omega,by omega⟩
 have auU: ∀i,V.dW i\/V.row s0=some i->i<W0.length:=by
  rintro i (d|d)
  ·exact(q i d).1
  ·rw[T]at d;cases d
 have RF:A.P (s0,none) (W0++[.bE,.loop .ready none f e p as u]):=by
  refine⟨O.st _ _ _ hP λi d=>by rw[aaF (auU i d)],?_,?_⟩
  ·rw[hm,dn rfl];rfl
  ·rw[hm,bw rfl];rfl
 obtain⟨⟨n,w⟩,k,ak,hD,⟨F,Bb,C⟩,JG,y,pP,N⟩:=Rz _ A (.fn (.yield (m+1)) [] []) I' J' (m+2) hV' auT auN (W0++[.bE,.loop .ready none f e p as u]) (s0,none) RF ⟨rfl,h0⟩ (by simp[hm]) T
  (λi d=>by rw[aaF (by omega)];exact hG i d) none
 simp only at F C;have auV: ∀i,V.dW i\/V.row n=some i->i≠m/\i≠m+1:=by
  rintro i (d|d)
  ·have:=(q i d).1;omega
  ·obtain⟨_,_,_,_,h⟩:=O.lt n _ i F d;refine⟨?_,?_⟩
   ·rintro rfl;rw[Bb]at h;cases h
   ·rintro rfl;rw[C]at h;cases w<;>cases h
 have ah4: ∀o,V.P n (k.set (m+1) o)/\m+2<=(k.set (m+1) o).length/\ (k.set (m+1) o)[m]?=some .bE/\ (∀i,i<m-> ¬V.dW i-> ¬(a<=i/\i<a+G.length)->(k.set (m+1) o)[i]?=W0[i]?):=by
  intro o;refine⟨O.st _ _ _ F λi d=>by rw[ri (auV i d).2],by rw[ajB];exact y,by rw[ri (by omega)];exact Bb,λi d hp hg'=>?_⟩;rw[ri (by omega),pP i (by omega) (λh=>by rcases h with h|h|h;exact hp h;omega;omega) hg',aaF (by omega)]
 have auX: ((AS.push ⟨W0,none⟩ .bE).push (.loop .ready none f e p as u))=(⟨W0++[.bE,.loop .ready none f e p as u],none⟩:AS):=by simp[AS.push]
 have hrc: ∀r,endLoop (m+1) ⟨e,[m]⟩ ⟨k,ak⟩=some r->a0 X (D X) Lw f false (.ik g p as u) ⟨e,[]⟩ ⟨W0,none⟩=some r:=by
  intro r hr;simp only[a0,ah2,ak8];rw[aaR hg,<-hm,auX,hD];exact hr
 rcases JG with⟨z,hI⟩| ⟨ex,z,hJx⟩
 ·simp only at z;subst z;simp only at C;obtain⟨q1,q2,q3,q4⟩:=ah4 (.loop .exhausted none f e p as u);refine⟨.normal,⟨e,[m]⟩,⟨k.set (m+1) (.loop .exhausted none f e p as u),ak⟩,hrc _ ?_,?_⟩
  ·unfold endLoop;simp only[C,AS.set,abX,ajQ];rfl
  ·rw[hm]at q2 q3 q4⊢;exact h1 n _ ak hI (hm ▸ q1) q2 q3 q4 (hm ▸ N)
 ·simp only at z;subst z;simp only at C;obtain⟨t,j1,j2,j3⟩:=hJ ex n hJx;obtain⟨q1,q2,q3,q4⟩:=ah4 (.loop .exhausted (some ex.code) f e p as u);refine⟨ex,⟨e,[m]⟩,⟨k.set (m+1) (.loop .exhausted (some ex.code) f e p as u),ak⟩,hrc _ ?_,?_⟩
  ·unfold endLoop;simp only[C,j3,j2,AS.set,abX,ajQ];rfl
  ·rw[hm]at q2 q3 q4⊢;exact h2 ex n _ ak hJx (hm ▸ q1) q2 q3 q4 (hm ▸ N)
structure ka{S:Type}(V:YV S)(b:Nat)(W0:List ae)(own:Nat->Prop)(s:S)(W:List ae)(lo:oN):Prop where
 P:V.P s W
 len:b<=W.length
 fr: ∀i,i<b-> ¬V.dW i-> ¬own i->W[i]?=W0[i]?
 lo: (lo=none/\V.row s=none)\/ ∃j,V.c<=j/\j<b/\lo=some j
 row: ∀r,V.row s=some r->b<=r
section
variable{S:Type}{V:YV S}{b:Nat}{W0 W:List ae}{own:Nat->Prop}{s:S}{lo:oN}
def YV.Ok.JK(a:V.Ok)(d:V.P s W)(c:V.row s=some r):r<W.length:=by
 obtain⟨_,_,_,_,h⟩:=a.lt s W r d c
 grind
def ka.push(c:V.Ok)(d: ∀i,V.dW i->i<b)(h:ka V b W0 own s W lo)(L:List ae):ka V b W0 own s (W++L) lo where
 P:=c.st _ _ _ h.P λi a=>by
  have:i<W.length:=by
   rcases a with a|a
   ·have:=d i a;have:=h.len;omega
   ·exact c.JK h.P a
  grind
 len:=by have:=h.len;grind
 fr:=λi a f e=>by rw[aaF (by have:=h.len;omega)];exact h.fr i a f e
 lo:=h.lo
 row:=h.row
theorem ka.set(c:V.Ok)(h:ka V b W0 own s W lo){o:ae}(g: ¬V.dW k)(f:V.row s≠some k)(ho:own k\/b<=k):ka V b W0 own s (W.set k o) lo where
 P:=c.st _ _ _ h.P λi a=>by grind
 len:=by rw[ajB];exact h.len
 fr:=λi a e d=>by
  rw[ri]
  ·exact h.fr i a e d
  grind
 lo:=h.lo
 row:=h.row
def ka.step(h:ka V b W0 own s W lo){a:S}{d:List ae}(t:V.P a d)(k:V.Fr s W d)(p:V.row a=V.row s\/ ∃r,V.row a=some r/\W.length<=r)(o:nf V.c b lo ak (V.row s) (V.row a)):ka V b W0 own a d ak where
 P:=t
 len:=ajU h.len k.1
 fr:=λi g c f=>by
  have w:=h.len;rw[k.2 i (by omega) c (λe=>by have:=h.row i e;omega)];exact h.fr i g c f
 lo:=by
  rcases o with⟨rfl,e⟩| ⟨j,n,l,rfl⟩
  ·rcases h.lo with⟨c,f⟩|q
   ·grind
   grind
  ·rcases h.lo with⟨rfl,_⟩| ⟨i,m,g,rfl⟩
   ·exact .inr ⟨j,n,l,rfl⟩
   ·obtain⟨q,e,v⟩:=ahZ (i:=i) (j:=j)
    grind
 row:=λr e=>by
  rcases p with q| ⟨u,q,hr⟩
  ·exact h.row r (by grind)
  ·rw[q]at e;cases e;exact ajU h.len hr
def ka.fin(m:V.Ok)(p: ∀i,V.dW i->i<b)(h:ka V b W0 own s W lo){dI:oN}: ∃a ak,(finish b dI (.au []) ⟨W,lo⟩)=(.au [],⟨a,ak⟩)/\V.P s a/\b<=a.length/\
  (∀i,i<b-> ¬V.dW i-> ¬own i->a[i]?=W0[i]?)/\nf V.c b dI ak none (V.row s):=by
 have e: (finish b dI (.au []) ⟨W,lo⟩).1= .au []:=by
  have r:freeze ⟨W,lo⟩ b 12 (.au [])=some (.au []):=zb (abX _);have key: ∀c:Bool,(if c=true then(match freeze ⟨W,lo⟩ b 12 (.au [])with|some v'=>(v',(⟨W.take b,dI⟩:AS))|none=>(.au [],⟨W,ga dI lo⟩))else(.au [],⟨W,ga dI lo⟩)).1= .au []:=by grind
  cases lo with
  |none=>exact key true
  |some j=>exact key (decide (b<=j))
 have o:=RC (n:=b) (lo:=dI) (ak:=lo) (v:=.au []) (H:=W) rfl;rcases h.lo with⟨rfl,q⟩| ⟨j,l,k,rfl⟩
 ·refine⟨W.take b,dI,Prod.ext e o,?_,?_,?_,.inl ⟨rfl,q⟩⟩
  ·refine m.st _ _ _ h.P λi d=>?_
   grind
  ·rw[ajM];have:=h.len;omega
  ·intro i d g f;rw[ajO d];exact h.fr i d g f
 ·refine⟨W,cI dI j,Prod.ext e ?_,h.P,h.len,h.fr,.inr ⟨j,l,k,rfl⟩⟩
  grind
end
def SV(p sz:Nat)(ty:TypeId)(W:List ae)(r:oN)(af:List lA):Prop:=
 (r=none/\af=[]/\W[p]?=some (.box [.ai] none))\/ ∃id aj,r=some id/\af≠[]/\p<id/\W[p]?=some (.box [.ref id aj sz 0 af.length false] none)/\W[id]?=some (.row aj sz ty af)
def SV.st{ty:TypeId}{W f:List ae}{r:oN}(h:SV p sz ty W r af)(j:f[p]?=W[p]?)(g: ∀i,r=some i->f[i]?=W[i]?):SV p sz ty f r af:=by
 rcases h with⟨a,b,c⟩| ⟨id,aj,a,e,b,c,d⟩
 ·exact .inl ⟨a,b,by grind⟩
 ·exact .inr ⟨id,aj,a,e,b,by grind,by grind⟩
theorem SV.row{ty:TypeId}{W:List ae}{r:oN}(h:SV p sz ty W r af)(e:r=some i): ∃v z t es,W[i]?=some (.row v z t es):=by
 rcases h with⟨a,b,c⟩| ⟨id,aj,a,f,b,c,d⟩
 ·grind
 grind
def ah7{H:List ae}{v0:AV}(h:H[p]?=some (.box [v0] tg))(c:v.cn=false)(a:v.cells=[v])(d:p+1<v.refs):j4 ⟨H,lo⟩ 1 (.ptr p 0) v=some ⟨H.set p (.box [v] tg),cI lo p⟩:=by
 unfold j4;simp only[h,a];rw[aaR ⟨c,rfl,ahT _⟩];simp only[AS.set];rw[aaH (by omega)];rfl
def SV.append{bytes:Nat}{ty:TypeId}{W:List ae}{r:oN}{el:lA}(h:SV p sz ty W r af)(l:p<W.length)(t:0<sz)(w:el.length=sz)(u:aG el=0)(n: (af.length+1)*bytes<=room)(lo:oN):
  ∃v v' o a f,W[p]?=some (.box [v] none)/\dx ⟨W,lo⟩ ty sz bytes v [el]=some (v',⟨o,lo⟩)/\j4 ⟨o,lo⟩ 1 (.ptr p 0) v'=some ⟨a,cI lo p⟩/\SV p sz ty a f (af++[el])/\
   W.length<=a.length/\ (∀i,i<W.length->i≠p->r≠some i->a[i]?=W[i]?)/\ (f=r\/ ∃q,f=some q/\W.length<=q):=by
 have m:0<sz/\ [el].all (λx=>x.length==sz)=true:=⟨t,by grind⟩;rcases h with⟨rfl,rfl,c⟩| ⟨id,aj,rfl,_,g,c,d⟩
 ·have e1:dx ⟨W,lo⟩ ty sz bytes .ai [el]=some (.ref W.length 0 sz 0 1 false,⟨W++[.row 0 sz ty [el]],lo⟩):=by
    unfold dx;rw[aaR m];simp only[ajC,apY,alv,Nat.one_ne_zero,ak8];rw[aaR (by simpa using n)];rfl
  have k: (W++[ae.row 0 sz ty [el]])[p]?=some (.box [.ai] none):=by rw[aaF l];exact c
  refine⟨.ai,_,_,(W++[ae.row 0 sz ty [el]]).set p (.box [.ref W.length 0 sz 0 1 false] none),some W.length,c,e1,?_,.inr ⟨W.length,0,rfl,by simp,l,?_,?_⟩,?_,?_,.inr ⟨_,rfl,ahT _⟩⟩
  ·exact ah7 k rfl rfl (by simp only[AV.refs];omega)
  ·exact ah5 (by rw[ahU];omega)
  ·rw[aaD (by omega)];simp
  ·simp
  grind
 ·have j:=(aaG.1 d).1;have e1:dx ⟨W,lo⟩ ty sz bytes (.ref id aj sz 0 af.length false) [el]=some (.ref id (aj+1) sz 0 (af.length+1) false,⟨W.set id (.row (aj+1) sz ty (af++[el])),lo⟩):=by
   unfold dx;rw[aaR m];simp only[d];rw[aaR ⟨trivial,trivial,trivial,trivial,by omega,by simpa using n⟩];simp[AS.set,b9,u]
  have k: (W.set id (ae.row (aj+1) sz ty (af++[el])))[p]?=some (.box [.ref id aj sz 0 af.length false] none):=by rw[aaD (by omega)];exact c
  refine⟨_,_,_,(W.set id (.row (aj+1) sz ty (af++[el]))).set p (.box [.ref id (aj+1) sz 0 (af.length+1) false] none),some id,c,e1,?_,.inr ⟨id,aj+1,rfl,by simp,g,?_,?_⟩,?_,?_,.inl rfl⟩
  ·exact ah7 k rfl rfl (by simp only[AV.refs];omega)
  ·rw[ah5 (by rw[ajB];omega)];simp
  ·rw[aaD (by omega),ah5 j]
  ·simp
  ·intro i A z y;rw[aaD (λe=>z e.symm),aaD (λe=>y (by rw[e]))]
end
section
variable{X:Ctx}{f:FuncId}{rd:Bool}{E:AS}{Q:bU}{e:Env}{ms:lN}{bJ:List FP}{js:lN}{os:List (aP×lN)}{i:I}{d:oN}{dd t:Nat}{v:AV}
def Bt(bJ:List FP)(o:aP)(js:lN)(os:List (aP×lN))(e:Env)(ms:lN)(Q:bU):AV->AS->Prop:=λv E=>DW bJ (o,js) os=true/\Q (.panic v) ⟨e,ms⟩ E
def gD(X:Ctx)(t:Nat)(b:Bool)(d:oN)(i:I)(js:lN)(os:List (aP×lN))(bJ:List FP)(e:Env)(ms:lN)(E:AS)(Q:bU)(c:AV):Prop:=match c with
 |.bool x=>if x=b then aQ X i e E (kD X i E bJ js os d e ms Q) (Bt bJ ⟨some (t,b),d,i⟩ js os e ms Q)else gw X (bJ++[.no]) os (Fr.put ⟨e,ms⟩ d .undef) E Q
 |_=>gw X (bJ++[.no]) os (Fr.put ⟨e,ms⟩ d .undef) E Q
def ah8{b:Bool}:gw X bJ ((⟨some (t,b),d,i⟩,js)::os) ⟨e,ms⟩ E Q=gD X t b d i js os bJ e ms E Q (e t):=by
 unfold gD;split
 ·rename_i x a;by_cases h:x=b
  ·subst h;apply propext;simp only[gw,aQ,gh,fS,a,beq_self_eq_true,ajQ];cases a:exec X (D X) i e E with
   |none=>simp[qY]
   |some o=>
    cases o with
    |ok v g=>
     simp only[qY,Q8];by_cases c:q0 bJ (aW i e E g) js=true
     ·rw[aaR c];exact⟨λh=>⟨c,h⟩,λh=>h.2⟩
     ·simp[kD,c]
    |panic v g=>
     simp only[qY,Bt]
     grind
  ·rw[aaH h];have: (x==b)=false:=by grind
   simp only[gw,gh,fS,a,this,ah2,ak8]
 ·have:fS e (some (t,b))=false:=by
    unfold fS;simp only
  simp only[gw,gh,this,ah2,ak8]
def ah9:gw X bJ ((gt t d i,js)::os) ⟨e,ms⟩ E Q=gD X t true d i js os bJ e ms E Q (e t):=ah8
def aia:gw X bJ ((gf t d i,js)::os) ⟨e,ms⟩ E Q=gD X t false d i js os bJ e ms E Q (e t):=ah8
theorem aib:gD X t true (some dd) i js os bJ e ms E Q (.bool true)=aQ X i e E (kD X i E bJ js os (some dd) e ms Q) (Bt bJ ⟨some (t,true),(some dd),i⟩ js os e ms Q):=rfl
theorem aic:gD X t true none i js os bJ e ms E Q (.bool true)=aQ X i e E (kD X i E bJ js os none e ms Q) (Bt bJ ⟨some (t,true),none,i⟩ js os e ms Q):=rfl
theorem aid:gD X t false (some dd) i js os bJ e ms E Q (.bool false)=aQ X i e E (kD X i E bJ js os (some dd) e ms Q) (Bt bJ ⟨some (t,false),(some dd),i⟩ js os e ms Q):=rfl
theorem aie:gD X t false none i js os bJ e ms E Q (.bool false)=aQ X i e E (kD X i E bJ js os none e ms Q) (Bt bJ ⟨some (t,false),none,i⟩ js os e ms Q):=rfl
theorem aif:gD X t true (some dd) i js os bJ e ms E Q (.bool false)=gw X (bJ++[.no]) os ⟨e.set dd .undef,ms⟩ E Q:=rfl
theorem aih:gD X t true none i js os bJ e ms E Q (.bool false)=gw X (bJ++[.no]) os ⟨e,ms⟩ E Q:=rfl
theorem aii:gD X t false (some dd) i js os bJ e ms E Q (.bool true)=gw X (bJ++[.no]) os ⟨e.set dd .undef,ms⟩ E Q:=rfl
theorem aij:gD X t false none i js os bJ e ms E Q (.bool true)=gw X (bJ++[.no]) os ⟨e,ms⟩ E Q:=rfl
theorem aik{b:Bool}{c:lA}:gD X t b (some dd) i js os bJ e ms E Q (.au c)=gw X (bJ++[.no]) os ⟨e.set dd .undef,ms⟩ E Q:=rfl
theorem ail{b:Bool}{c:lA}:gD X t b none i js os bJ e ms E Q (.au c)=gw X (bJ++[.no]) os ⟨e,ms⟩ E Q:=rfl
def G1:=gG @ah9<|gG @aia<|gG @aib<|gG @aic<|gG @aid<|gG @aie<|gG @aif<|gG @aih<|gG @aii<|gG @aij<|gG @aik @ail
end
def Fz(E:AS)(N d:Nat)(v v':AV):Prop:= ∀k,freeze E N (k+d) v=some v'
def fC(E:AS)(N d:Nat)(cs sR:lA):Prop:= ∀k,il E N (k+d) cs=some sR
section
variable{E:AS}{N d:Nat}{a a' v v':AV}{cs sR:lA}
def Fz.low(h:v.refs<=N):Fz E N (d+1) v v:=λk=>zb h
def fC.nil:fC E N d [] []:=λk=>by cases h:k+d<;>rw[il]
def fC.cons(h:Fz E N d a a')(b:fC E N (d+1) cs sR):fC E N (d+1) (a::cs) (a'::sR):=λk=>by
 have e1:=h k;have c:=b k;rw[<-apd]at c⊢;rw[il,e1]
 grind
def fC.eq(h:fC E N d cs sR)(b:aG cs<=N):sR=cs:=by
 have e1:=h 2;rw[Nat.add_comm 2 d,Rp cs b]at e1
 grind
theorem Fz.agg(h:fC E N d cs sR):Fz E N (d+1) (.agg cs) (.agg sR):=λk=>by
 have e1:=h k;rw[<-apd,freeze];split
 ·rename_i b;rw[h.eq b]
 grind
theorem Fz.au(h:fC E N d cs sR):Fz E N (d+1) (.au cs) (.au sR):=λk=>by
 have e1:=h k;rw[<-apd,freeze];split
 ·rename_i b;rw[h.eq b]
 grind
def Fz.own{H:List ae}{ty:TypeId}(h:aN N H v sz ty af)(b:b9 af<=N):Fz ⟨H,lo⟩ N (d+4) v (bt v af):=λk=>by
 exact h.freeze b
def Fz.mono(h:Fz E N d v v')(b:d<=m):Fz E N m v v':=λk=>by
 have:=h (k+(m-d))
 grind
def sS{H:List ae}(b:ak=none\/ ∃j,N<=j/\ak=some j)(h:Fz ⟨H,ak⟩ N 12 v v'):finish N lo v ⟨H,ak⟩=(v',⟨H.take N,lo⟩):=by
 refine Jh ?_ (by simpa using h 0)
 grind
def SV.own{ty:TypeId}{W:List ae}{r:oN}(h:SV p sz ty W r af)(f:N<=p)(b: ∀el∈af,el.length=sz): ∃v,W[p]?=some (.box [v] none)/\aN N W v sz ty af/\v.cn=false/\v.cells=[v]/\ (v= .ai\/p+1<v.refs):=by
 rcases h with⟨_,rfl,c⟩| ⟨id,aj,_,_,q,c,e⟩
 ·exact⟨.ai,c,aN.ai,rfl,rfl,.inl rfl⟩
 ·exact⟨_,c,⟨b,.inr ⟨id,aj,by omega,rfl,e⟩⟩,rfl,rfl,.inr (by simp only[AV.refs];omega)⟩
end
def dQ(N:Nat)(lo:oN):Prop:=lo=none\/ ∃j,N<=j/\lo=some j
def dQ.min{N:Nat}(h:dQ N lo)(b:N<=p)(c:ak=lo\/ak=cI lo p):dQ N ak:=by
 rcases c with rfl|rfl
 ·exact h
 ·rcases h with rfl| ⟨j,g,rfl⟩
  ·exact .inr ⟨p,b,rfl⟩
  ·obtain⟨q,e,f⟩:=ahZ (i:=j) (j:=p);exact .inr ⟨q,by omega,e⟩
section
variable{P:Program}{X:Ctx}{B:Nat}{av:World}
noncomputable def Bu(X:Ctx)(dI:oN)(pf:PF):jk->Option aS
 |some (.normal,fr,E)=>(dJ E fr.marks).bind λa=>(fy X a fr.env pf.results).map λv=>.ret v {heap:=a.heap,lo:=ga dI a.lo}
 |some (.ret,fr,E)=>(dJ E fr.marks).bind λa=>(fy X a fr.env pf.results).map λv=>.ret v {heap:=a.heap,lo:=ga dI a.lo}
 |_=>none
noncomputable def oA(X:Ctx)(C:bA)(L:eu)(f:FuncId)(pf:PF)(args:lA)(E:AS):Option aS:=
 if args.length<=pf.ntmps then Bu X E.lo pf (a0 X C L f false pf.body {env:=dc args,marks:=[]} {heap:=E.heap,lo:=none})else none
def auY{cq:AS}{G:Gh}{E:AS}(c:fT.le G)(d:aV P B av G E w)(b:AS.Ext {heap:=cq.heap,lo:=none} E){v:AV}{v':Value}(f:an G v v'):
  ∃a,fT.le a/\aV P B av a {heap:=E.heap,lo:=ga cq.lo E.lo} w/\an a v v'/\cq.Ext {heap:=E.heap,lo:=ga cq.lo E.lo}:=by
 refine⟨G,c,d.lo _,f,b.len,λj h=>?_,λj o h=>?_⟩
 ·cases E.lo with
  |none=>exact h
  |some l=>exact AU (.inl h)
 ·obtain⟨o',k,i⟩:=b.obj j o h;refine⟨o',k,i.imp id λ ⟨l,e,g⟩=>?_⟩;simp only[ga,e];exact AU (.inr g)
section
variable{C:bA}(hC:fP P B av C)(hg:fz X B av)(hX:pG P X)(gv:A5 P X B av){L:eu}(hL:yH L)
include hC hg hX gv hL
theorem auZ(U:eP P f pf):gj P B av f (oA X C L f pf):=by
 intro args E t h G w b hw T;unfold oA at h;split at h
 ·rename_i V;obtain⟨rows,fn,o,n⟩:=U;obtain⟨c,y,l,m,S,q⟩:=IJ n;have k: (callFunc f b).run P w= .ok (.enter f b) w:=by
   have s: ¬fn.name= "runtime.NumGoroutine" :=by grind
   simp[callFunc,atV,o,s,y]
  rw[k];show CallsIn (W none) 0 P f b w (Ends P B av G E t);cases g:a0 X C L f false pf.body {env:=dc args,marks:=[]} {heap:=E.heap,lo:=none}with
  |none=>rw[g]at h;simp[Bu]at h
  |some res=>
   rw[g]at h;have he:cK G fn.ntmps (dc args) (b++Array.replicate (fn.ntmps-b.size) undef):=IN T (by omega);refine azd o y trivial (wJ hC hg hX gv hL (r:=none) rfl c pf.body l G {heap:=E.heap,lo:=none} w {env:=dc args,marks:=[]} _ res _ (hw.lo none) he rfl g (λe a w' hr=>?_)) rfl;obtain⟨Y,K,J,I,H,F,u⟩:=hr;obtain⟨ex,fr,z⟩:=res;have j: ((dJ z fr.marks).bind λd=>(fy X d fr.env pf.results).map λv=>aS.ret v {heap:=d.heap,lo:=ga E.lo d.lo})=some t->LeavesInM (W none) 0 P fn a.tmps (Ends P B av G E t) a.defers .returning w':=by
    intro h;rw[aqj]at h;obtain⟨d,x,h⟩:=h;rw[ah3]at h;obtain⟨v,R,rfl⟩:=h;refine yL (by simp) fr.marks a.defers z d w' H J x (λA i=>?_);obtain⟨v',e1,D⟩:=Ef hg i I m R;refine⟨v',e1,?_⟩;obtain⟨p,Q,O,N,M⟩:=auY K i (F.trans (yI _ _ _ x)) D;exact⟨p,Q,O,N,M⟩
   cases ex with
   |normal=>cases e<;>simp[fQ]at u;exact j h
   |ret=>cases e<;>simp[fQ]at u;exact j h
   |exit id=>simp[Bu]at h
   |panic v=>simp[Bu]at h
 grind
end
def wV(hg:fz X B av)(hX:pG P X)(b: ∀f p,X.bZ f=some p->gj P B av f p)(a:eP P f pf):gj P B av f (oA X (D X) Lw f pf):=
 auZ (QJ hg hX b) hg hX (Qt hg) ahd a
def Bv(X:Ctx)(lo:oN)(b:List RV)(R:aS->Prop):bU
 |.normal,fr,E=> ∃a v,dJ E fr.marks=some a/\fy X a fr.env b=some v/\R (.ret v {heap:=a.heap,lo:=ga lo a.lo})
 |.ret,fr,E=> ∃a v,dJ E fr.marks=some a/\fy X a fr.env b=some v/\R (.ret v {heap:=a.heap,lo:=ga lo a.lo})
 |_,_,_=>False
def wW(pf:PF){args:lA}{H:List ae}{R:aS->Prop}(i:Nat.ble args.length pf.ntmps=true)
  (h: ∀n,H.length=n->wp X f false pf.body ⟨dc args,[]⟩ ⟨H,none⟩ (Bv X lo pf.results R)): ∃g,oA X (D X) Lw f pf args ⟨H,lo⟩=some g/\R g:=by
 obtain⟨ex,fr,E,hr,e⟩:=h _ rfl;unfold oA;rw[aaR (ass i),hr];cases ex with
 |normal=>
  obtain⟨a,v,d,c,b⟩:=e;exact⟨_,by simp only[Bu,d,arL,c,ah6],b⟩
 |ret=>
  obtain⟨a,v,d,c,b⟩:=e;exact⟨_,by simp only[Bu,d,arL,c,ah6],b⟩
 |exit _=>trivial
 |panic _=>trivial
def sT{R:aS->Prop}{E:AS}:Bv X lo [.t a] R .ret ⟨e,[]⟩ E=R (.ret (e a) {heap:=E.heap,lo:=ga lo E.lo}):=by
 simp only[Bv,wO,abU]
 grind
end
def kb(W:List ae)(N:Nat):Nat->List ae->Prop
 |_,[]=>True
 |k,b::bs=>W[N+k]?=some b/\kb W N (k+1) bs
theorem gO{W:List ae}{N:Nat}:kb W N k []=True:=rfl
theorem gP{W:List ae}{N:Nat}{b:ae}{bs:List ae}:kb W N k (b::bs)=(W[N+k]?=some b/\kb W N (k+1) bs):=rfl
theorem aim{W:List ae}{N:Nat}: ∀ {k:Nat} {bs:List ae},kb W N k bs-> ∀i,i<bs.length->W[N+k+i]?=bs[i]?
 |_,[],_,i,h=>by grind
 |k,b::bs,⟨c,a⟩,i,h=>by
  cases i with
  |zero=>grind
  |succ i=>
   have:=aim a i (by grind)
   grind
theorem RG{W:List ae}{N:Nat}: ∀ {k:Nat} {bs:List ae},(∀i,i<bs.length->W[N+k+i]?=bs[i]?)->kb W N k bs
 |_,[],_=>trivial
 |k,b::bs,h=>by
  refine⟨by have:=h 0 (by simp);grind,RG λi a=>?_⟩;have:=h (i+1) (by grind)
  grind
def kc(N:Nat)(H W:List ae):Prop:= ∀i,i<N->W[i]?=H[i]?
theorem kc.take{N:Nat}{H W:List ae}(h:kc N H W)(b:H.length=N):W.take N=H:=by
 apply apn;intro i;by_cases a:i<N
 ·rw[ajO a];exact h i a
 grind
theorem kc.set{N:Nat}{H W:List ae}{o:ae}(h:kc N H W)(b:N<=p):kc N H (W.set p o):=λi a=>by
 rw[aaD (by omega)];exact h i a
def kc.app{N:Nat}{H L:List ae}(b:H.length=N):kc N H (H++L):=λi a=>aaF (by omega)
def bV{S:Type}(N nB c:Nat)(H:List ae)(B:S->List ae):YV S:=⟨λs W=>kc N H W/\kb W N 0 (B s),λ_=>none,λi=>i<N+nB,c⟩
def au0{S:Type}{N nB c:Nat}{H:List ae}{B:S->List ae}(f: ∀s,(B s).length=nB): (bV N nB c H B).Ok where
 st:=λs W g ⟨e,d⟩ h=>by
  refine⟨λi a=>?_,RG λi a=>?_⟩
  ·have:i<N+nB:=by omega
   rw[h i (.inl this)];exact e i a
  ·have b:N+0+i<N+nB:=by grind
   rw[h _ (.inl b)];exact aim d i a
 lt:=λs W r _ hr=>by cases hr
def ES{S:Type}(N nB:Nat)(B:S->List ae)(W:List ae)(I:S->Prop)(J:Ex->S->Prop):bU:=λex _ E=>
 E.lo=none/\ ∃a,kb E.heap N 0 (B a)/\W.length<=E.heap.length/\ (∀i,i<W.length-> ¬(N<=i/\i<N+nB)->E.heap[i]?=W[i]?)/\ (match ex with|.normal=>I a|.panic _=>False|ex=>J ex a)
section
variable{S:Type}{N nB:Nat}{B:S->List ae}{W H:List ae}{I:S->Prop}{J:Ex->S->Prop}{fr:Fr}{i:Nat}
def sU:ES N nB B W I J .normal fr ⟨H,none⟩= ∃a,kb H N 0 (B a)/\W.length<=H.length/\ (∀i,i<W.length-> ¬(N<=i/\i<N+nB)->H[i]?=W[i]?)/\I a:=by simp[ES]
def au1:ES N nB B W I J .ret fr ⟨H,none⟩= ∃a,kb H N 0 (B a)/\W.length<=H.length/\ (∀i,i<W.length-> ¬(N<=i/\i<N+nB)->H[i]?=W[i]?)/\J .ret a:=by simp[ES]
end
def zd{X:Ctx}{S:Type}{g:ao}{w:lN}{as Y:PC}{Q:bU}(K:Env->Prop)(L:K e)(xs:List lA){N nB:Nat}{H o:List ae}(F:H.length=N)(G:List ae)(B:S->List ae)(P: ∀s,(B s).length=nB)
  (v:S) (I:Nat->S->Prop) (J:Ex->S->Prop) (hg:sB X (g.get e)=true) (z:vg X (g.get e) (N+nB) G xs) (l:o=H++(B v++G)) (h0:I 0 v) (hJ: ∀ex s,J ex s-> ∃y,sE ex=some (some y)/\AO y=some ex/\ex.code=y)
  (hb: ∀e,K e-> ∀j x s,xs[j]?=some x->I j s->x.length=w.length/\ ∀W n,W.length=n->N+nB+G.length+2<=n->kb W N 0 (B s)->
    wp X f true as ⟨iJ e w x,[]⟩ ⟨W,none⟩ (λex fr r=>ex= .normal/\ ∃R1,r=⟨W++R1,none⟩/\
     ∀q,q.length=n->kb q N 0 (B s)->wp X f true Y fr ⟨q++R1,none⟩ (ES N nB B q (I (j+1)) J)))
  (h1: ∀e,K e-> ∀c a p,N+nB<=p->I xs.length c->kc N H a->kb a N 0 (B c)->a[p]?=some .bE->Q .normal ⟨e,[p]⟩ ⟨a,none⟩)
  (h2: ∀e,K e-> ∀ex c a p,N+nB<=p->J ex c->kc N H a->kb a N 0 (B c)->a[p]?=some .bE->Q ex ⟨e,[p]⟩ ⟨a,none⟩):
  wp X f false (.ik g w as Y) ⟨e,[]⟩ ⟨o,none⟩ Q:=by
 have wX:o.length=N+nB+G.length:=by grind
 have t: ∀ {ak} {b:Nat},b=o.length+2->nf (o.length+2) b none ak none none->ak=none:=by
  rintro ak b rfl (⟨h,_⟩| ⟨j,T,R,_⟩)
  ·exact h
  ·omega
 refine JH (bV N nB (o.length+2) H B) (au0 P) xs (N+nB) G o v hg z (λi d=>?_) (by omega) (λi d=>?_) ⟨?_,?_⟩ rfl I J h0 hJ ?_ ?_ ?_
 ·rw[l,<-aaS,ajE (by simp only[ahU,F,P];omega)]
  congr 1;simp only[ahU,F,P];omega
 ·have:i<N+nB:=d;exact⟨by omega,by omega⟩
 ·rw[l];exact kc.app F
 ·refine RG λi d=>?_
  rw[l,ajE (by omega),show N+0+i-H.length=i by omega,aaF d]
 ·intro j x s hx O;obtain⟨T,R⟩:=hb e L j x s hx O;refine⟨T,λW m U=>?_⟩;refine wp_mono (R W _ rfl (by omega) m.2) ?_;rintro ex fr r ⟨rfl,R1,rfl,D⟩;refine⟨rfl,R1,rfl,λq E u=>?_⟩;refine wp_mono (D q E u.2) ?_;rintro JI fr2 ⟨H2,Z⟩ ⟨rfl,c,c1,c2,V,c4⟩;refine⟨c,⟨λi d=>?_,c1⟩,⟨c2,λi d hp _=>?_⟩,.inl ⟨rfl,rfl⟩,c4⟩
  ·rw[V i (by omega) (by omega)];exact u.1 i d
  ·have ou: ¬i<N+nB:=hp;exact V i d (by omega)
 ·intro c a ak O m hl C A k;obtain rfl:=t rfl k;exact h1 e L c a _ (by omega) O m.1 m.2 C
 ·intro ex c a ak M m hl C A k;obtain rfl:=t rfl k;exact h2 e L ex c a _ (by omega) M m.1 m.2 C
section
variable{H:Type}{enc:TypeId×Value->H}{P:Program}{w:World}{sp:Nat->Bool}{held:Bool}
def Bw(P:Program):Nat->TypeId->Bool
 |0,_=>false
 |f+1,t=>match P.underlying t with
  |some .bool=>true
  |some (.int _)=>true
  |some .string=>true
  |some (.slice e)=>Bi P false f e
  |some (.struct fs)=>Bh P (Bw P f) fs.toList 0 (P.cellsOf t)
  |some (.array n e)=>Bw P f e&&P.cellsOf t==n*P.cellsOf e
  |_=>false
theorem RH: ∀ (f:Nat) (t:TypeId) (n:Nat) (cs:List Value) (d:DataW H) (ps:List MemPlace),Bw P f t=true->(∀v∈cs,Ja v)->
  DataW.trod enc P w 0 sp held n t cs=some (d,ps)-> ∃xs,gk P f t d xs/\aD (Gh.start w) xs cs/\Leaves cs/\xs.length=cs.length
 |0,_,_,_,_,_,hr,_,_=>by simp[Bw]at hr
 |f+1,t,n,cs,d,ps,hr,A,h=>by
  unfold Bw at hr;unfold gk;cases r:P.underlying t with
  |none=>rw[r]at hr;cases hr
  |some td=>
   rw[r]at hr;cases td with
   |bool=>
    obtain⟨b,rfl,l⟩:=DataW.trod_bool r h;cases l;exact⟨[.bool b],⟨b,rfl,rfl⟩,aD.single.2 rfl,λv g=>by simp at g;subst g;rfl,rfl⟩
   |int k=>
    obtain⟨b,rfl,l,M⟩:=DataW.trod_int r h;cases l;exact⟨[.int k b],⟨b,rfl,rfl,M⟩,aD.single.2 rfl,λv g=>by simp at g;subst g;rfl,rfl⟩
   |string=>
    obtain⟨s,rfl,l,hs⟩:=DataW.trod_string r h;cases l;exact⟨[.str s],⟨s,rfl,rfl,hs⟩,aD.single.2 rfl,λv g=>by simp at g;subst g;rfl,rfl⟩
   |slice e=>
    rcases DataW.trod_slice r h with⟨rfl,l⟩| ⟨a,len,cap,es,rest,m,rfl,rfl,l,_,hlc,hcm,Q,O,_,_⟩
    ·cases l;exact⟨[.ai],.inl ⟨rfl,rfl⟩,aD.single.2 rfl,λv g=>by simp at g;subst g;rfl,rfl⟩
    ·cases l;have hs:a.spot=none:=A _ (List.mem_singleton_self _);obtain⟨af,vs,K,J,I,G,W,h6⟩:=abt (R:=gk P f e) hs (λc E p B q=>Jb (nest:=false) (λe=>by cases e) f e m c E p hr (λe=>by cases e) q) len (by omega) O;refine⟨[.sl af false],.inr ⟨es.map (·.1),rest.map (·.1),af,rfl,rfl,by simp[Q,K],by omega,λi x b l T=>?_⟩,aD.single.2 ?_,λv g=>by simp at g;subst g;rfl,rfl⟩
     ·rw[ajP,ah3]at l;obtain⟨y,L,rfl⟩:=l;exact J i y b L T
     ·refine⟨a.block,a.off,cap,P.cellsOf e,vs,?_,by omega,(λB=>absurd B (by decide)),λel D=>?_,h6,G,br.iff.2 I⟩
      ·rw[K];obtain⟨b,o,s⟩:=a;simp at hs;subst hs;rfl
      ·obtain⟨j,U⟩:=auB.1 D;have hjl:=(aaG.1 U).1;exact(J j es[j] el (abe (by omega)) U).1
   |struct fs=>
    obtain⟨ys,m,rfl,l,F,z,u⟩:=DataW.trod_struct r h;cases l;obtain⟨xs,x1,Z,Y,X⟩:=QL (R:=gk P f) (cs:=cs) (λt' c E p hg B q=>RH f t' m c E p hg (λv g=>A v (B v g)) q) _ F fs.toList ys 0 hr (by simpa using z) (λi fl hi=>u i fl (by simpa using hi));exact⟨xs,⟨_,rfl,x1⟩,by simpa using Z,by simpa using Y,by simpa using X⟩
   |array k e=>
    simp only[ajI,aup]at hr;obtain⟨N,B⟩:=hr;obtain⟨ys,m,rfl,l,F,z,u⟩:=DataW.trod_array r h;cases l;obtain⟨af,K,J,I,G,W⟩:=abu (R:=gk P f e) (cs:=cs) (λc E p S q=>RH f e m c E p N (λv g=>A v (S v g)) q) k (by rw[F,B];exact ahT _) (by omega) u;have C:k*P.cellsOf e=cs.length:=by rw[F,B]
    rw[C,aiv]at I G;exact⟨af.flatten,⟨_,af,rfl,rfl,by simpa using z,K,λi a b V T=>by
     rw[ajP,ah3]at V;obtain⟨y,L,rfl⟩:=V;exact J i y b L T⟩,I,G,by rw[W,C]⟩
   |_=>cases hr
def au2{b:Nat}{u:TypeId}{v:Value}(h:Cell.okWide P w .any b u v):Ja v:=by
 cases v with
 |slice a len cap=>
  cases a with
  |none=>trivial
  |some a=>
   unfold Cell.okWide at h;cases hu:P.underlying u with
   |none=>simp[hu,Cell.ok]at h
   |some td=>cases td<;>simp[hu,Cell.ok]at h<;>exact h.2.2.2.1
 |_=>trivial
def ain{t:TypeId}{f:Nat}{v:Value}{d:DataW H}{g:List MemPlace}{b:Nat}{fs:Array Field}(k:P.underlying t=some (.struct fs))(l:Bw P f t=true)(a:Value.okWide P w .any b t v)
  (h:DataW.Trod enc P w 0 sp held t v d g): ∃xs,an (Gh.start w) (.agg xs) v/\gk P f t d xs/\xs.length=P.cellsOf t:=by
 unfold Value.okWide at a;rw[k]at a;obtain⟨cs,rfl,e,ts,_,_,c⟩:=a;obtain⟨n,h⟩:=h;obtain⟨xs,r,q,p,o⟩:=RH f t n cs.toList d g l (λv j=>by
  obtain⟨i,m⟩:=auB.1 j;obtain⟨u,_,hu⟩:=c i v (by simpa using m);exact au2 hu) h
 exact⟨xs,⟨cs,rfl,q,p⟩,r,by rw[o];simpa using e⟩
end
end Go.Den
