/- An evaluator, sound; no condition. -/
import Derived.Test.YteplichagkpciaaGreatDoorD1
import Derived.Orders
import Derived.Carry
import Derived.ChangeArms
import Derived.OpenShut
import Derived.RecoverIn
import Derived.LaidHandle
import Derived.LaidMore
import Derived.WideShapes
set_option linter.all false
set_option maxRecDepth 10000
set_option maxHeartbeats 1000000
namespace Go.Den
open Go Go.RowKit
abbrev lA:=List AV
variable{l t a i j m n k sz r aj a' p nB:Nat}{v:AV}{d lo ak:oN}{e:Env}{w:World}{b:PC}{z vs:lA}{tg:Option TypeId}{gx:Gh}{f:FuncId}{x y:aq}{c ag:Bool}{pf:PF}{k':IntKind}{af:List lA}
def afv:=@List.mem_cons_of_mem
def afw:=@List.length_set
def afD:=@List.getElem?_take_of_lt
def afE:=@List.getElem?_map
def afF:=@Array.getD_eq_getD_getElem?
def afH:=@Classical.byContradiction
def agT:=@List.append_nil
def aiF:=@List.mem_range
def akc:=@Option.getD_some
def akT:=@List.pairwise_cons
def alX:=@and_true
def al0:=@Bool.true_and
def al3:=@List.length_drop
def anc:=@List.mem_zipIdx_iff_getElem?
def anC:=@List.range_succ
def anD:=@List.length_nil
def anG:=@Option.bind_eq_some_iff
def anS:=@Nat.mod_lt
def anU:=@List.pairwise_append
def aoc:=@Nat.not_lt_zero
def aoU:=@List.getElem?_range
def apL:=@Prod.mk.injEq
def apN:=@Nat.le_of_ble_eq_true
def apS:=@Array.getElem?_toList
def apT:=@List.mem_of_find?_eq_some
def apV:=@Array.all_eq_true_iff_forall_mem
def ap6:=@List.getElem?_cons_zero
def aqc:=@List.prefix_append
def aqu:=@List.set_append_left
def aqy:=@Nat.le_max_right
def aqz:=@List.getElem_mem
def ar2:=@Bool.true_or
def ar3:=@List.append_of_mem
def ar5:=@Bool.false_or
def asR:=@List.mem_iff_getElem?
def atb:=@List.contains_iff_mem
def atc:=@Nat.lt_succ_self
def auM:=@List.getElem?_of_mem
def awD:=@Bool.and_true
def awO:=@List.find?_eq_none
def axk:=@not_false_eq_true
def axl:=@List.length_range
def axt:=@List.getElem?_cons_succ
def axv:=@Option.getD_none
def axx:=@List.range_succ_eq_map
def ayz:=@true_and
def azF:=@List.getElem?_zipIdx
def aAZ:=@Nat.lt_trichotomy
def aA3:=@List.pairwise_map
def aBS:=@Int.toNat_natCast
def aCi:=@List.isEmpty_iff
def gG{a b:Prop}(x:a)(y:b):a/\b:=⟨x,y⟩
section
variable{X:Ctx}
def jY(X:Ctx)(C:bA)(xs:Nat->aR)(F:Nat->FP):lN->Fr->AS->Fr->AS->Prop
 | [],fr,E,b,c=>b=fr/\c=E
 |i::l,fr,E,b,c=>
  (gw fr.env (xs i).g=true/\ ∃v a,exec X C (xs i).i fr.env E=some (.ok v a)/\a0 (xs i).i fr.env E a=F i/\jY X C xs F l (fr.put (xs i).dst v) a b c)\/
  (gw fr.env (xs i).g=false/\F i= .no/\jY X C xs F l (fr.put (xs i).dst .undef) E b c)
def aoF{l m:lN}:CQ l m=true↔ ∀x∈l,x∉m:=by
 simp[CQ,afy]
def De{a:Fr}{dst:oN}(h:t∉dst.toList): (a.put dst v).env t=a.env t:=by
 cases dst with
 |none=>rfl
 |some d=>
  simp only[Fr.put,Env.set]
  grind
def aoG{f:Fr}{c:oN}{w:AV}(h: ∀x∈d.toList,x∉c.toList): (f.put d v).put c w=(f.put c w).put d v:=by
 cases d with
 |none=>rfl
 |some a=>
  cases c with
  |none=>rfl
  |some b=>
   have g:a≠b:=λe=>h a (by simp) (by grind)
   simp only[Fr.put]
   congr 1
   funext t
   simp only[Env.set]
   grind
def Wz{g:Option (Nat×Bool)}{a:Env}(h: ∀t∈(match g with|some (t,_)=>[t]|none=>[]),e t=a t):gw e g=gw a g:=by
 cases g with
 |none=>rfl
 |some p=>simp only[gw];grind
def aoH{C:bA}{xs:Nat->aR}{F:Nat->FP}{l:lN}{a q:Fr}{E D:AS}(n:ku (xs i) (xs j)=true)(x: (F i).ok (F j)=true)(h:jY X C xs F (i::j::l) a E q D):jY X C xs F (j::i::l) a E q D:=by
 simp only[ku,afz,aoF]at n;obtain⟨⟨M,L⟩,K⟩:=n;have B: ∀v,∀t∈(xs j).reads,(a.put (xs i).dst v).env t=a.env t:=λv t d=>De λy=>M t y d
 have ex: ∀v,∀t∈(xs i).reads,(a.put (xs j).dst v).env t=a.env t:=λv t d=>De λy=>L t y d
 have e: ∀v,∀t∈(xs j).i.reads,(a.put (xs i).dst v).env t=a.env t:=λv t d=>B v t (by simp[aR.reads,d])
 have f: ∀v,∀t∈(xs i).i.reads,(a.put (xs j).dst v).env t=a.env t:=λv t d=>ex v t (by simp[aR.reads,d])
 have s: ∀v,gw (a.put (xs i).dst v).env (xs j).g=gw a.env (xs j).g:=λv=>Wz λt d=>B v t (by
  simp only[aR.reads,aeg];grind)
 have u: ∀v,gw (a.put (xs j).dst v).env (xs i).g=gw a.env (xs i).g:=λv=>Wz λt d=>ex v t (by
  simp only[aR.reads,aeg];grind)
 have comm: ∀v w,(a.put (xs i).dst v).put (xs j).dst w=(a.put (xs j).dst w).put (xs i).dst v:=λv w=>aoG K
 simp only[jY]at h⊢;rcases h with⟨o,v,c,A,m,h⟩| ⟨o,m,h⟩
 ·rcases h with⟨g1,w,b,g2,k,g⟩| ⟨g1,k,g⟩
  ·rw[s]at g1;have z:exec X C (xs j).i a.env c=some (.ok w b):=by rw[<-Hd (e v)];exact g2
   have p:a0 (xs j).i a.env c b=F j:=by rw[<-He (e v)];exact k
   obtain⟨r,J,I,H,G⟩:=aoE A z (by rw[m,p];exact x);refine .inl ⟨g1,w,r,J,by rw[H];exact p,.inl ⟨by rw[u];exact o,v,b,?_,?_,by rw[<-comm];exact g⟩⟩
   ·rw[Hd (f w)];exact I
   ·rw[He (f w),G];exact m
  ·rw[s]at g1;refine .inr ⟨g1,k,.inl ⟨by rw[u];exact o,v,c,?_,?_,by rw[<-comm];exact g⟩⟩
   ·rw[Hd (f _)];exact A
   ·rw[He (f _)];exact m
 ·rcases h with⟨g1,w,b,g2,k,g⟩| ⟨g1,k,g⟩
  ·rw[s]at g1;refine .inl ⟨g1,w,b,by rw[<-Hd (e _)];exact g2,by rw[<-He (e _)];exact k,.inr ⟨by rw[u];exact o,m,by rw[<-comm];exact g⟩⟩
  ·rw[s]at g1;exact .inr ⟨g1,k,.inr ⟨by rw[u];exact o,m,by rw[<-comm];exact g⟩⟩
theorem No{C:bA}{xs:Nat->aR}{F:Nat->FP}{j:Nat}{b:lN}: ∀ (a:lN) (fr c:Fr) (E e:AS),(∀i∈a,ku (xs i) (xs j)=true/\ (F i).ok (F j)=true)->jY X C xs F (a++j::b) fr E c e->jY X C xs F (j:: (a++b)) fr E c e
 | [],_,_,_,_,_,h=>h
 |i::a,fr,c,E,e,f,h=>by
  have g:=f i (by simp);refine aoH g.1 g.2 ?_;simp only[aii]at h;rw[jY]at h⊢;have n:=λfr E (h:jY X C xs F (a++j::b) fr E c e)=>No a fr c E e (λk p=>f k (by grind)) h
  rcases h with⟨m,v,d,o,l,h⟩| ⟨m,l,h⟩
  ·exact .inl ⟨m,v,d,o,l,n _ _ h⟩
  simp_all
theorem Np{C:bA}{xs:Nat->aR}: ∀ (ys:List (aR×lN)) (a:List FP) (fr:Fr) (E:AS) (res:Ex×Fr×AS),(∀q y,ys[q]?=some y->xs (a.length+q)=y.1)->gM X C a ys fr E=some res->res.1= .normal->
  ∃F:Nat->FP,(∀m,m<a.length->F m=a.getD m .all)/\res.1= .normal/\jY X C xs F ((List.range ys.length).map (a.length+ ·)) fr E res.2.1 res.2.2/\
   ∀q y,ys[q]?=some y-> ∀k∈y.2,k<a.length+q->(F k).ok (F (a.length+q))=true
 | [],a,fr,E,res,t,h,r=>by
   simp only[gM,adF]at h;subst h;exact⟨λm=>a.getD m .all,λ_ _=>rfl,rfl,⟨rfl,rfl⟩,by simp⟩
 |o::ys,a,fr,E,res,t,h,r=>by
  have b:xs a.length=o.1:=by simpa using t 0 o rfl
  have j: ∀ (f:FP) q y,ys[q]?=some y->xs ((a++[f]).length+q)=y.1:=by
   intro f q y l;have:=t (q+1) y (by simpa using l);rw[<-this];congr 1;simp;omega
  have d: ∀f:FP,(List.range (o::ys).length).map (a.length+ ·)=a.length:: (List.range ys.length).map ((a++[f]).length+ ·):=by
   intro f;simp only[afx,axx,aiQ,aqE,afs]
   congr 1
   apply akJ;intro k _;simp;omega
  have fin: ∀ (f:FP) (F:Nat->FP),(∀m,m< (a++[f]).length->F m=(a++[f]).getD m .all)->F a.length=f/\ ∀m,m<a.length->F m=a.getD m .all:=by
   intro f F s;refine⟨?_,λm hm=>?_⟩
   ·rw[s _ (by simp)];simp
   ·rw[s m (by simp;omega)];simp[afA,acV hm]
  have c: ∀ (f:FP) (F:Nat->FP),(∀m,m<a.length->F m=a.getD m .all)->(∀k∈o.2,k<a.length->(a.getD k .all).ok (F a.length)=true)->
    (∀q y,ys[q]?=some y-> ∀k∈y.2,k< (a++[f]).length+q->(F k).ok (F ((a++[f]).length+q))=true)->
    ∀q y,(o::ys)[q]?=some y-> ∀k∈y.2,k<a.length+q->(F k).ok (F (a.length+q))=true:=by
   intro f F s w u q y l k n i;cases q with
   |zero=>
    simp at l;subst l;rw[afs]at i⊢;rw[s k i];exact w k n i
   |succ q=>
    have:=u q y (by simpa using l) k n (by simp;omega);have e: (a++[f]).length+q=a.length+(q+1):=by simp;omega
    rw[e]at this;exact this
  simp only[gM]at h;split at h
  ·rename_i hw;split at h
   ·rename_i v g hex;split at h
    ·rename_i p;obtain⟨F,f1,f2,f3,f4⟩:=Np ys _ _ _ res (j _) h r;obtain⟨g1,g2⟩:=fin _ F f1;refine⟨F,g2,f2,?_,c _ F g2 (λk n _=>?_) f4⟩
     ·rw[d (a0 o.1.i fr.env E g)];refine .inl ⟨by rw[b];exact hw,v,g,by rw[b];exact hex,by rw[b,g1],by rw[b];exact f3⟩
     ·rw[g1];exact afy.1 p k n
    ·cases h
   ·split at h
    ·cases h;cases r
    ·cases h
   ·cases h
  ·rename_i hw;obtain⟨F,f1,f2,f3,f4⟩:=Np ys _ _ _ res (j _) h r;obtain⟨g1,g2⟩:=fin _ F f1;refine⟨F,g2,f2,?_,c _ F g2 (λk n _=>?_) f4⟩
   ·rw[d .no];exact .inr ⟨by rw[b];simpa using hw,g1,by rw[b];exact f3⟩
   ·rw[g1];cases a.getD k .all<;>rfl
theorem WA{C:bA}{xs:Nat->aR}: ∀ (ys:List (aR×lN)) (a:List FP) (fr:Fr) (E:AS) (res:Ex×Fr×AS),(∀q y,ys[q]?=some y->xs (a.length+q)=y.1)->gM X C a ys fr E=some res->res.1≠ .normal->
  ∃ (F:Nat->FP) (p:Nat) (v:AV) (b:AS) (y:aR×lN),(∀m,m<a.length->F m=a.getD m .all)/\ys[p]?=some y/\res.1= .panic v/\jY X C xs F ((List.range p).map (a.length+ ·)) fr E res.2.1 b/\
    gw res.2.1.env (xs (a.length+p)).g=true/\exec X C (xs (a.length+p)).i res.2.1.env b=some (.panic v res.2.2)/\
    (∀q y,q<p->ys[q]?=some y-> ∀k∈y.2,k<a.length+q->(F k).ok (F (a.length+q))=true)/\
    y.2=[]/\y.1.i.cls≠0/\ (y.1.i.cls=2\/ ∀m,m<a.length+p->F m≠ .no)/\ ∀q d,p<q->ys[q]?=some d->if d.1.i.cls=0 then ku y.1 d.1=false else a.length+p∉d.2
 | [],a,fr,E,res,G,h,L=>by
   simp only[gM,adF]at h
   grind
 |o::ys,a,fr,E,res,G,h,L=>by
  have c:xs a.length=o.1:=by simpa using G 0 o rfl
  have D: ∀ (f:FP) q y,ys[q]?=some y->xs ((a++[f]).length+q)=y.1:=by
   intro f q y u;have:=G (q+1) y (by simpa using u);rw[<-this];congr 1;simp;omega
  have w: ∀ (f:FP) (p:Nat),(List.range (p+1)).map (a.length+ ·)=a.length:: (List.range p).map ((a++[f]).length+ ·):=by
   intro f p;simp only[axx,aiQ,aqE,afs]
   congr 1
   apply akJ;intro k _;simp;omega
  have e1: ∀ (f:FP) (q:Nat),(a++[f]).length+q=a.length+(q+1):=λf q=>by simp;omega
  have fin: ∀ (f:FP) (F:Nat->FP),(∀m,m< (a++[f]).length->F m=(a++[f]).getD m .all)->F a.length=f/\ ∀m,m<a.length->F m=a.getD m .all:=by
   intro f F s;refine⟨?_,λm hm=>?_⟩
   ·rw[s _ (by simp)];simp
   ·rw[s m (by simp;omega)];simp[afA,acV hm]
  have next: ∀ (f:FP) (g:Fr) (i:AS),gM X C (a++[f]) ys g i=some res->(∀ (F:Nat->FP) l j A,F a.length=f->jY X C xs F l g i j A->jY X C xs F (a.length::l) fr E j A)->(∀k∈o.2,(a.getD k .all).ok f=true)->
    ∃ (F:Nat->FP) (p:Nat) (v:AV) (b:AS) (y:aR×lN),(∀m,m<a.length->F m=a.getD m .all)/\ (o::ys)[p]?=some y/\res.1= .panic v/\jY X C xs F ((List.range p).map (a.length+ ·)) fr E res.2.1 b/\
      gw res.2.1.env (xs (a.length+p)).g=true/\exec X C (xs (a.length+p)).i res.2.1.env b=some (.panic v res.2.2)/\
      (∀q y,q<p->(o::ys)[q]?=some y-> ∀k∈y.2,k<a.length+q->(F k).ok (F (a.length+q))=true)/\
      y.2=[]/\y.1.i.cls≠0/\ (y.1.i.cls=2\/ ∀m,m<a.length+p->F m≠ .no)/\ ∀q d,p<q->(o::ys)[q]?=some d->if d.1.i.cls=0 then ku y.1 d.1=false else a.length+p∉d.2:=by
   intro f g i h t I;obtain⟨F,p,v,b,y,f1,f2,f3,f4,f5,f6,f7,f8,f9,f10,f11⟩:=WA ys _ _ _ res (D f) h L;obtain⟨g1,g2⟩:=fin f F f1;refine⟨F,p+1,v,b,y,g2,by simpa using f2,f3,?_,by rw[<-e1 f];exact f5,by rw[<-e1 f];exact f6,?_,f8,f9,f10.imp id λf10 m hm=>f10 m (by rw[e1];exact hm),?_⟩
   ·rw[w f];exact t F _ _ _ g1 f4
   ·intro q d u n k x r;cases q with
    |zero=>
     simp at n;subst n;rw[afs]at r⊢;rw[g1,g2 k r];exact I k x
    |succ q=>
     have:=f7 q d (by omega) (by simpa using n) k x (by rw[e1];exact r);rw[e1]at this;exact this
   ·intro q d u n;cases q with
    |zero=>omega
    |succ q=>
     have:=f11 q d (by omega) (by simpa using n);rw[e1]at this;exact this
  simp only[gM]at h;split at h
  ·rename_i hw;split at h
   ·rename_i v b hex;split at h
    ·rename_i z;exact next _ _ _ h (λF l j A s H=>.inl ⟨by rw[c];exact hw,v,b,by rw[c];exact hex,by rw[c,s],by rw[c];exact H⟩) (λk x=>afy.1 z k x)
    ·cases h
   ·rename_i v A hex;split at h
    ·rename_i K;cases h;simp only[CR,afz,anV,asw,aCi,bne_iff_ne]at K;obtain⟨O,N,B,M⟩:=K;refine⟨λm=>a.getD m .all,0,v,E,o,λ_ _=>rfl,rfl,rfl,⟨rfl,rfl⟩,by rw[afs,c];exact hw,by rw[afs,c];exact hex,λq y u=>by omega,O,N,?_,?_⟩
     ·refine B.imp id λB m hm=>?_
      rw[afs]at hm;have:=afy.1 B a[m] (aqz hm);simp only[afA,adM hm,akc];intro e;rw[e]at this;cases this
     ·intro q d u n;cases q with
      |zero=>omega
      |succ q=>
       have:=afy.1 M d (alp (by simpa using n:ys[q]?=some d));split
       ·rename_i J;rw[adG J]at this;simpa using this
       ·rename_i J;rw[adE J]at this;rw[afs];simpa using this
    ·cases h
   ·cases h
  ·rename_i hw;exact next .no _ _ h (λF l j A s H=>.inr ⟨by rw[c];simpa using hw,s,by rw[c];exact H⟩) (λk x=>by cases a.getD k .all<;>rfl)
end
section
variable{P:Program}{X:Ctx}{B:Nat}{aw:World}{dh:List Deferred}
theorem WB(f:FP):FP.ok .no f=true:=by rfl
def WC(f:FP):FP.ok f .no=true:=by cases f<;>rfl
theorem yw{C:bA}{xs:Nat->aR}{F:Nat->FP}{i:Nat}(d: (xs i).i.cls=0): ∀ (l:lN) (fr b:Fr) (E e:AS),i∈l->jY X C xs F l fr E b e->F i= .no
 | [],_,_,_,_,a,_=>by grind
 |j::l,fr,b,E,e,a,h=>by
  rcases afJ.1 a with rfl|a
  ·rcases h with⟨_,v,c,_,f,_⟩| ⟨_,f,_⟩
   ·grind [Wu]
   omega
  ·rcases h with⟨_,v,c,_,_,h⟩| ⟨_,_,h⟩
   ·exact yw d l _ _ _ _ a h
   ·exact yw d l _ _ _ _ a h
theorem WD{rows:Bool}{ops:Array Oper}: ∀ {os:List Oper} {xs:List aR},k0 P rows ops os=some xs->xs.length=os.length/\ ∀ (i:Nat) (o:Oper),os[i]?=some o-> ∃x,xs[i]?=some x/\iY P rows ops o=some x
 | [],xs,h=>by
   simp only[k0,adF]at h;grind
 |o::os,xs,h=>by
  simp only[k0]at h;split at h
  ·rename_i x a c b;obtain⟨e1,d⟩:=WD b
   grind
  grind
theorem WE{ops:Array Oper}{e:Nat}: ∀n:Nat,e<n->(uF ops n).getD (n-1-e) 0=(uF ops (e+1)).headD 0
 |0,h=>absurd h (aoc _)
 |n+1,h=>by
  by_cases he:e=n
  ·subst he;simp[uF]
  ·have a:e<n:=by omega
   rw[show n+1-1-e=(n-1-e)+1 by omega,<-WE n a];simp[uF]
theorem WG{b:lN}{n a:Nat}{S:Nat->Prop}: ∀es:lN,(∀e∈es,S e)->(∀e∈es,e<n->Nat.testBit (b.getD (n-1-e) 0) a=true->S a)->Nat.testBit (Av b n es) a=true->S a
 | [],_,_,h=>by simp[Av]at h
 |e::es,f,d,h=>by
  have e1:Av b n (e::es)=(1<<<e||| (if e<n then b.getD (n-1-e) 0 else 0))|||Av b n es:=rfl;rw[e1,Nat.testBit_or,Nat.testBit_or,anV,anV]at h;rcases h with(h|h)|h
  ·simp_all[Nat.one_shiftLeft,Nat.testBit_two_pow,agQ]
  ·grind
  ·exact WG es (λx c=>f x (afv _ c)) (λx c=>d x (afv _ c)) h
def Nq{ops:Array Oper}{S:Nat->Prop}(g: ∀j,S j-> ∀o,ops[j]?=some o-> ∀a∈k5 o,S a)(k i:Nat)(o:Oper)(ho:ops[i]?=some o)(d: ∀a∈k5 o,S a): ∀a∈ir ops k i,S a:=by
 intro a h;unfold ir at h;have key: ∀n i:Nat,i<n-> ∀o,ops[i]?=some o->(∀a∈k5 o,S a)->Nat.testBit ((uF ops (i+1)).headD 0) a=true->S a:=by
  intro n
  induction n with
  |zero=>simp
  |succ n l=>
   intro i m o ho d f;simp only[uF,List.headD_cons,ho]at f;refine WG _ d (λe hm b c=>?_) f;rw[WE i b]at c
   grind
 grind
def WH{a:Region.Mode}{e:Edge}(h:Region.binds .any e=true):Region.binds a e=true:=by
 unfold Region.binds at h⊢
 grind
theorem Nr{a:Region.Mode}{ops:Array Oper}{l:lN}{S:Nat->Prop}(f: ∀x,x<ops.size->x∉l->S x): ∀ (ord pre:lN),GH a ops pre ord=true->(∀x∈pre,x<ops.size/\x∉l)->(∃x∈ord,x∈l)->
  ∃x∈l,∃o,ops[x]?=some o/\ ∀e∈o.after.toList,Region.binds a e=true->S e.on
 | [],_,_,_,⟨x,c,_⟩=>by grind
 |i::ord,pre,h,b,hex=>by
  simp only[GH,afz]at h;obtain⟨j,g⟩:=h;split at j
  ·by_cases d:i∈l
   ·grind
   ·refine Nr f ord (i::pre) g (λx c=>?_) ?_
    ·grind
    grind
  grind
def Gh.later(G:Gh)(os:List ae):Gh:={G with n:=G.n+os.length,pz:=λi=>if i<G.n then G.pz i else os[i-G.n]?}
def Gh.yx(G:Gh)(os:List ae):G.le (G.later os):=
 .mk' (λ_ _ _ h=>h) (by simp[Gh.later]) (λi a=>by simp[Gh.later,a]) (λ_ _=>aef _) (λ_ _ _=>⟨rfl,rfl,rfl,rfl⟩)
def Gh.Hg{G:Gh}{os:List ae}(h: (G.later os).on i):G.on i:=by
 obtain⟨c,a⟩:=h;simp only[Gh.later]at c a;by_cases b:i<G.n
 ·rw[adG b]at a;exact⟨b,a⟩
 grind
theorem aZ.later{G:Gh}{E:AS}(h:aZ P B aw G E w){os:List ae}(ho: ∀o∈os,∃z tg,o= .box z tg/\aL z=0):aZ P B aw (G.later os) (E.mm os) w where
 len:=by simp[Gh.later,AS.mm,h.len]
 bw:=h.bw
 obj id o e b:=by
  simp only[Gh.later]at b;simp only[AS.mm]at e;by_cases a:id<G.n
  ·rw[adG a]at b;rw[acV (by rw[<-h.len];exact a)]at e;exact iZ.mono (G.yx os) ⟨a,b⟩ rfl rfl (h.obj id o e b)
  ·rw[adE a]at b;rw[afu (by rw[<-h.len];omega),<-h.len,b]at e;cases e
 inj i j a d e:=h.inj i j (Gh.Hg a) (Gh.Hg d) e
 sep i a o:=h.sep i (Gh.Hg a) o
 low i a:=h.low i (Gh.Hg a)
 lV:=h.lV
 hB:=h.hB
 lW id o c b:=by
  simp only[Gh.later]at c b;simp only[AS.mm];by_cases a:id<G.n
  ·rw[adG a]at b;obtain⟨g,f⟩:=h.lW id o a b
   grind
  ·rw[adE a]at b;exact⟨by rw[afu (by rw[<-h.len];omega),<-h.len];exact b,ho o (alp b)⟩
 dU:=h.dU
theorem AS.Ext.mm(E:AS)(os:List ae):E.Ext (E.mm os)where
 len:=by simp[AS.mm]
 lo _ h:=h
 obj j x e:=⟨x,by
  have:j<E.heap.length:=(acW.1 e).1;simp[AS.mm,acV this,e],.inl λ_ k=>k.mono (by omega)⟩
def Gh.real(G:Gh)(id b:Nat):Gh:=
 {G with bb:=λi=>if i=id then b else G.bb i,aj:=λi=>if i=id then 0 else G.aj i,pz:=λi=>if i=id then none else G.pz i}
def Gh.Hh{G:Gh}{id b:Nat}{o:ae}(d:G.pz id=some o):G.sub (G.real id b):=by
 have c: ∀i,G.on i->i≠id:=λi a e=>by rw[e]at a;rw[a.2]at d;cases d
 exact{bw:=λ_ _ _ h=>h,n:=aef _,on:=λi a=>⟨a.1,by simp only[Gh.real];rw[adE (c i a)];exact a.2⟩,
       aj:=λi a=>by simp only[Gh.real];grind,same:=λi a _=>by simp[Gh.real,c i a]}
def Gh.Hi{G:Gh}{id b:Nat}(h: (G.real id b).on i):i=id\/ (i≠id/\G.on i):=by
 obtain⟨c,a⟩:=h;simp only[Gh.real]at c a;by_cases e:i=id
 ·omega
 ·rw[adE e]at a;exact .inr ⟨e,c,a⟩
def Hj{rows:Bool}{o:Oper}(h:kZ P rows o=some (.alloc z tg)): ∃t,o.op= .alloc t/\iq P t=some z/\tg=r9 z t:=by
 cases a:o.op with
 |alloc t=>
  simp only[kZ,a]at h;obtain⟨e,d,b⟩:=afn.1 h;cases b;exact⟨t,rfl,d,rfl⟩
 |call c=>
  exfalso;simp only[kZ,a,CT]at h
  repeat' split at h
  all_goals first| (cases h;done)| (simp only[afn]at h;obtain⟨_,_,h⟩:=h;cases h;done)|skip
 |_=>
  exfalso;simp only[kZ,a]at h
  (repeat' split at h)<;>first| (cases h;done)| (simp only[afn]at h;obtain⟨_,_,h⟩:=h;first| (cases h;done)| (split at h<;>cases h))| (simp_all;done)
theorem aZ.real{G:Gh}{E:AS}(h:aZ P B aw G E w){id:Nat}{t:TypeId}(s:id<G.n)(H:G.pz id=some (.box z (r9 z t)))(N:iq P t=some z):
  ∃w',(Instr.alloc t true (.tuple #[])).run P w= .ok (.pointer (some ⟨w.heap.size,0,none⟩)) w'/\aZ P B aw (G.real id w.heap.size) E w'/\an (G.real id w.heap.size) (.ptr id 0) (.pointer (some ⟨w.heap.size,0,none⟩)):=by
 have p:G.sub (G.real id w.heap.size):=Gh.Hh H;obtain⟨A,e,_,l,J,_⟩:=sc N (G.real id w.heap.size) w;obtain⟨I,_⟩:=h.lW id _ s H;have x: (G.real id w.heap.size).bb id=w.heap.size:=by simp[Gh.real]
 refine⟨w.alloc (.cells A.cells t),by simp[Instr.alloc,e,newVar,newRow],?_,⟨⟨s,by simp[Gh.real]⟩,_,rfl,λ_=>by rw[x]⟩⟩;refine{len:=h.len,bw:=λb o v K=>?_,obj:=λi o y a=>?_,inj:=λi j g L f=>?_,sep:=λi g o=>?_,low:=λi g=>?_,lV:=h.lV.alloc h.hB _,hB:=by have:=h.hB;simp;omega,lW:=λi o g a=>?_,dU:=h.dU}
 ·have m:G.bw b o=some v:=K;rw[cell?_alloc_old (h.ye P m)];exact h.bw b o v m
 ·by_cases c:i=id
  ·subst c;rw[I]at y;cases y;refine⟨by simp[Gh.real],A.cells,t,?_,l,J,λt' h=>M6 h⟩;rw[x];exact aoT _ _
  ·have q:i<G.n:=by rw[h.len];exact(acW.1 y).1
   simp only[Gh.real]at a;rw[adE c]at a;exact iZ.dN p ⟨q,a⟩ (by simp[Gh.real,c]) (Below.heap_alloc _ _ _ (h.low i ⟨q,a⟩).2) (h.obj i o y a)
 ·rcases Gh.Hi g with d| ⟨k,d⟩<;>rcases Gh.Hi L with u| ⟨D,u⟩
  ·rw[d,u]
  ·simp only[Gh.real,d,afK,adE D]at f;have:=(h.low j u).2;omega
  ·simp only[Gh.real,u,afK,adE k]at f;have:=(h.low i d).2;omega
  ·simp only[Gh.real,adE k,adE D]at f;exact h.inj i j d u f
 ·rcases Gh.Hi g with d| ⟨k,d⟩
  ·subst d;rw[x];show G.bw w.heap.size o=none;cases M:G.bw w.heap.size o with
   |none=>rfl
   |some v=>have:=h.ye P M;omega
  ·simp only[Gh.real,adE k];exact h.sep i d o
 ·rcases Gh.Hi g with d| ⟨k,d⟩
  ·subst d;rw[x];exact⟨h.hB,by simp⟩
  ·simp only[Gh.real,adE k];have:=h.low i d;exact⟨this.1,by simp;omega⟩
 ·simp only[Gh.real]at g a;by_cases c:i=id
  ·rw[adG c]at a;cases a
  ·rw[adE c]at a;exact h.lW i o g a
def Gh.WI{G:Gh}(h:gx.le G){id b:Nat}{o:ae}(a:G.pz id=some o)(c:gx.n<=id):gx.le (G.real id b):=
 {Gh.Vr h.toSub (Gh.Hh a)with pz:=λi d=>by simp only[Gh.real];rw[adE (by omega)];exact h.pz i d}
section
variable{C:bA}(hC:fS P B aw C)(hg:fQ X B aw){r:oN}{n nt:Nat}{rows:Bool}{ops:Array Oper}{xs:Nat->aR}{F:Nat->FP}
include hC hg
theorem go_sound(I:Region.Mode){ord:lN}(U:uG I ops ord=true)(sl:Nat->Nat)(al:Nat->Option ae)(AJ: ∀i o,ops[i]?=some o->(al i=none/\iY P rows ops o=some (xs i))\/ ∃z tg g d,al i=some (.box z tg)/\iY P rows ops o=some ⟨g,d,.alloc z tg⟩/\xs i=⟨g,d,.mov (.c (.ptr (sl i) 0))⟩)
  (Ns: ∀i j bi bj,al i=some bi->al j=some bj->sl i=sl j->i=j)  {cu:AS} (wu: ∀i b,al i=some b->gx.n<=sl i) (hd: ∀i,i<ops.size-> ∀d,(xs i).dst=some d->d<nt) (aoI: ∀i o,ops[i]?=some o-> ∀a∈k5 o,a<i)
  (Nt: ∀i j,i<j->j<ops.size->i∉ir ops 64 j->ku (xs i) (xs j)=true/\ (F i).ok (F j)=true):
  ∀ (fuel t:Nat) (listed:Array Bool) (l:lN) (G:Gh) (E E':AS) (w:World) (fr u:Fr) (a:Act) (Q:Exit->Act->World->Prop),
    (∀i,i∈l↔i<ops.size/\listed.getD i true=false)->listed.size=ops.size->l.Pairwise (· < ·)->(∀j o,ops[j]?=some o->listed.getD j true=true-> ∀a∈k5 o,listed.getD a true=true)->l.length<=fuel->
    jY X C xs F l fr E u E'->gx.le G->cu.Ext E->(∀i∈l,∀b,al i=some b->sl i<G.n/\G.pz (sl i)=some b)->aZ P B aw G E w->cK G nt fr.env a.tmps->gN dh G fr.marks a.defers->(∀e a w,mv P B aw dh gx cu nt (.normal,u,E') e a w->Q e a w)->
    wpOpsIn (W r) n P ops Q (Region.linearise.go I ops fuel t listed []) a w:=by
 intro fuel
 induction fuel with
 |zero=>
  intro t listed l G E E' w fr u a Q hl T hp mr hf hr hle s oW hw he hm hQ;have:l=[]:=aiR.1 (by omega);subst this;obtain⟨rfl,rfl⟩:=hr;exact hQ _ _ _ ⟨G,hle,hw,he,hm,s,trivial⟩
 |succ fuel ih=>
  intro t listed l G E E' w fr u a Q hl T hp mr hf hr hle s oW hw he hm hQ;simp only[Region.linearise.go]
  change wpOpsIn (W r) n P ops Q (match(Region.ready I ops listed)[t % (Region.ready I ops listed).length]? with
   |some i=>Region.linearise.go I ops fuel (t/ (Region.ready I ops listed).length) (listed.setIfInBounds i true) [i]
   |none=>[].reverse) a w
  have J: ∀i,i∈Region.ready I ops listed↔i∈l/\ ∀o,ops[i]?=some o-> ∀e∈o.after.toList,Region.binds I e=true->listed.getD e.on false=true:=by
   intro i;simp only[Region.ready,afI,aiF,afz,axm];rw[hl];constructor
   ·rintro⟨R,H,h3⟩;refine⟨⟨R,H⟩,λo ho e Z O=>?_⟩;rw[ho]at h3;simp only[afo,akc,apV]at h3;have:=h3 e (by simpa using Z);rw[O]at this;simpa using this
   ·rintro⟨⟨R,H⟩,h3⟩;refine⟨R,H,?_⟩;obtain⟨o,ho⟩: ∃o,ops[i]?=some o:=⟨ops[i],by simp[R]⟩;rw[ho];simp only[afo,akc,apV];intro e Z;by_cases O:Region.binds I e=true
    ·rw[h3 o ho e (by simpa using Z) O];simp
    ·simp at O;simp[O]
  have Nu: ∀a,listed.getD a false=true->listed.getD a true=true:=by
   intro a h;simp only[afF]at h⊢;cases h':listed[a]? with
   |none=>rw[h']at h;cases h
   |some b=>rw[h']at h;exact h
  cases hi: (Region.ready I ops listed)[t % (Region.ready I ops listed).length]? with
  |none=>
   have Df:Region.ready I ops listed=[]:=by
    cases mY:Region.ready I ops listed with
    |nil=>rfl
    |cons x ys=>
     rw[mY]at hi;have yk:t % (x::ys).length< (x::ys).length:=anS _ (by simp);rw[adM yk]at hi;cases hi
   cases l with
   |nil=>
    obtain⟨rfl,rfl⟩:=hr;exact hQ _ _ _ ⟨G,hle,hw,he,hm,s,trivial⟩
   |cons i l=>
    exfalso;simp only[uG,afz]at U;obtain⟨x,p,o,ho,uL⟩:=Nr (S:=λa=>listed.getD a false=true) (l:=i::l) (λx p qJ=>by
     cases sh:listed.getD x true with
     |true=>
      simp only[afF,axi (show x<listed.size by omega),akc]at sh⊢;exact sh
     |false=>exact absurd ((hl x).2 ⟨p,sh⟩) qJ) ord [] U.2 (by simp) ⟨i,by
      have:=afy.1 U.1 i (by simpa using((hl i).1 (by simp)).1);simpa using this,by simp⟩
    have:x∈Region.ready I ops listed:=(J x).2 ⟨p,λo' D e Z O=>by rw[ho]at D;cases D;exact uL e Z O⟩;rw[Df]at this;cases this
  |some i=>
   simp only;rw[linearise_go_acc,List.reverse_singleton,List.singleton_append];have Nv:=alp hi;obtain⟨si,Nw⟩:=(J i).1 Nv;have AK: ∀o,ops[i]?=some o-> ∀a∈k5 o,listed.getD a true=true:=by
    intro o ho a ha;simp only[k5,afq,afI]at ha;obtain⟨e,⟨e1,e2⟩,rfl⟩:=ha;exact Nu _ (Nw o ho e e1 (WH e2))
   have Y:=((hl i).1 si).1;obtain⟨o,ho⟩: ∃o,ops[i]?=some o:=⟨ops[i],by simp[Y]⟩;obtain⟨f,m,rfl⟩:=ar3 si;have A:=anU.1 hp;have q:=No f fr u E E' (λx p=>by
    have qJ:=(hl x).1 (by simp[p]);refine Nt x i (A.2.2 x p i (by simp)) Y (λaoJ=>?_);have:=Nq (S:=λa=>listed.getD a true=true) (λj hj o' D a ha=>mr j o' D hj a ha) 64 i o ho (AK o ho) x aoJ;rw[qJ.2]at this;cases this) hr
   rw[jY]at q;have L: ∀k,k∈f++m↔k<ops.size/\ (listed.setIfInBounds i true).getD k true=false:=by
    intro k;have V:=hl k;have Hk: ∀x∈f++m,x≠i:=by
     intro x p e;subst e;rcases aeg.1 p with h|h
     ·have:=A.2.2 x h x (by simp);omega
     ·have:=(akT.1 A.2.1).1 x h;omega
    simp only[afF,aln]at V⊢;constructor
    ·intro h;have sj:=Hk k h;have:=V.1 (by simp only[aeg,afJ]at h⊢;rcases h with h|h;exact .inl h;exact .inr (.inr h));rw[adE (λe=>sj e.symm)];exact this
    ·rintro⟨R,H⟩;by_cases yy:i=k
     ·subst yy;rw[adG rfl,adG (by omega)]at H;simp at H
     ·rw[adE yy]at H;have:=V.2 ⟨R,H⟩;simp only[aeg,afJ]at this⊢;rcases this with h|h|h
      ·exact .inl h
      ·exact absurd h.symm yy
      ·exact .inr h
   have oX: (f++m).Pairwise (· < ·):=anU.2 ⟨A.1,(akT.1 A.2.1).2,λx p y hy=>A.2.2 x p y (by simp[hy])⟩;have N: ∀j o,ops[j]?=some o->(listed.setIfInBounds i true).getD j true=true-> ∀a∈k5 o,(listed.setIfInBounds i true).getD a true=true:=by
    intro j o' D hj a ha;have key:listed.getD a true=true->(listed.setIfInBounds i true).getD a true=true:=by
     intro h;simp only[afF,aln]at h⊢;split
     ·split<;>rfl
     ·exact h
    apply key;by_cases Dg:i=j
    ·subst Dg;rw[ho]at D;cases D;exact AK _ ho a ha
    ·refine mr j o' D ?_ a ha;simp only[afF,aln]at hj⊢;rw[adE Dg]at hj;exact hj
   have qI: (f++m).length<=fuel:=by simp at hf⊢;omega
   have Nx:i∉f++m:=λhm=>by
    rcases aeg.1 hm with h|h
    ·have:=A.2.2 i h i (by simp);omega
    ·have:=(akT.1 A.2.1).1 i h;omega
   have K: ∀k∈f++m,∀b,al k=some b->sl k<G.n/\G.pz (sl k)=some b:=λk V b O=>oW k (by
    simp only[aeg,afJ]at V⊢;rcases V with h|h
    ·exact .inl h
    ·exact .inr (.inr h)) b O
   rcases AJ i o ho with⟨iH,p⟩| ⟨z,tg,g,d,iH,p,yz⟩
   ·have gO:guardOf ops o=some (xs i).g:=by
      unfold iY at p;split at p
      ·rename_i H;have:=aiP p;rw[<-this];exact H
      ·cases p
    have M: (xs i).dst=o.dst:=by
     unfold iY at p;split at p
     ·have:=aiP p;rw[<-this]
     ·cases p
    have uN:=yo he gO;simp only[wpOpsIn,ho];rw[uN];rcases q with⟨R,v,yA,H,_,h4⟩| ⟨R,_,h4⟩
    ·rw[adG R];refine yp hC hg p (hd i Y) hw he hm H (λDh nT e G' a' w' q1 q2 q3 q4 q5=>?_) (λDh nT e=>by cases e);cases e;exact ih _ _ (f++m) G' yA E' w' _ u a' Q L (by simpa using T) oX N qI h4 (Gh.le_trans hle q1) (s.trans q3) (λk V b O=>by
      obtain⟨p1,p2⟩:=K k V b O;exact⟨ahl p1 q1.n,by rw[q1.pz _ p1];exact p2⟩) q2 q4 q5 hQ
    ·rw[adE (by rw[R];simp)];refine⟨λ_ _=>trivial,?_⟩;obtain⟨p1,p2,p3⟩:=qH (a:=a) he (hd i Y) (v:=.undef) (v':=undef) yn;rw[<-M];exact ih _ _ (f++m) G E E' w _ u _ Q L (by simpa using T) oX N qI h4 hle s K hw p1 (by rw[p2,p3];exact hm) hQ
   ·rw[yz]at q;have yB: ∀d',d=some d'->d'<nt:=λd' AL=>hd i Y d' (by rw[yz];exact AL)
    have Di:kZ P rows o=some (.alloc z tg)/\guardOf ops o=some g/\o.dst=d:=by
     unfold iY at p;split at p
     ·rename_i i' g' H h3;simp only[adF,aR.mk.injEq]at p;obtain⟨rfl,rfl,rfl⟩:=p;exact⟨H,h3,rfl⟩
     ·cases p
    obtain⟨Ny,gO,M⟩:=Di;have uN:=yo he gO;simp only[wpOpsIn,ho];rw[uN];rcases q with⟨R,v,yA,H,_,h4⟩| ⟨R,_,h4⟩
    ·rw[adG R];simp only[exec,aq.get,adF,Out.ok.injEq]at H;obtain⟨rfl,rfl⟩:=H;obtain⟨p1,p2⟩:=oW i (by simp) _ iH;obtain⟨t,oY,Nz,rfl⟩: ∃t,o.op= .alloc t/\iq P t=some z/\tg=r9 z t:=Hj Ny;obtain⟨w',e1,e2,e3⟩:=hw.real p1 p2 Nz;refine⟨λ_ _=>trivial,?_⟩;have Dj:o.semAt (W r).round a.eval=execOp a.eval o:=by
      apply Oper.semAt_eq;intro c e;rw[oY]at e;cases e
     have Dk: (execOp a.eval o).run P w= .ok (.value (.pointer (some ⟨w.heap.size,0,none⟩))) w':=by
      unfold execOp;simp only[oY];rw[Sem.run_bind,e1];rfl
     rw[Dj,Dk];simp only[Oper.uponIn];have Dl:=Gh.Hh (b:=w.heap.size) p2;obtain⟨r1,r2,r3⟩:=qH (a:=a) (dst:=d) (he.dN Dl) yB e3;rw[M];exact ih _ _ (f++m) _ E E' w' _ u _ Q L (by simpa using T) oX N qI h4 (Gh.WI hle p2 (wu i _ iH)) s (λk V b O=>by
      obtain⟨p3,p4⟩:=K k V b O;refine⟨p3,?_⟩;have sj:sl k≠sl i:=λe=>Nx (by rw[Ns i k _ _ iH O e.symm];exact V)
      simp only[Gh.real];rw[adE sj];exact p4) e2 r1 (by rw[r2,r3];exact hm.dN Dl) hQ
    ·rw[adE (by rw[R];simp)];refine⟨λ_ _=>trivial,?_⟩;obtain⟨p1,p2,p3⟩:=qH (a:=a) (dst:=d) he yB (v:=.undef) (v':=undef) yn;rw[M];exact ih _ _ (f++m) G E E' w _ u _ Q L (by simpa using T) oX N qI h4 hle s K hw p1 (by rw[p2,p3];exact hm) hQ
theorem aoK(L:Region.Mode){ord:lN}(yE:uG L ops ord=true)(sl:Nat->Nat)(al:Nat->Option ae)(AJ: ∀i o,ops[i]?=some o->(al i=none/\iY P rows ops o=some (xs i))\/ ∃z tg g d,al i=some (.box z tg)/\iY P rows ops o=some ⟨g,d,.alloc z tg⟩/\xs i=⟨g,d,.mov (.c (.ptr (sl i) 0))⟩)
  (Ns: ∀i j bi bj,al i=some bi->al j=some bj->sl i=sl j->i=j)  {cu:AS} (wu: ∀i b,al i=some b->gx.n<=sl i) (hd: ∀i,i<ops.size-> ∀d,(xs i).dst=some d->d<nt) (aoI: ∀i o,ops[i]?=some o-> ∀a∈k5 o,a<i)
  {f:Nat} (Hl:f<ops.size) (Nt: ∀i j,i<j->j<f->i∉ir ops 64 j->ku (xs i) (xs j)=true/\ (F i).ok (F j)=true) (NA: ∀i,i<f->i∈ir ops 64 f) (NB: ∀j,f<j->j<ops.size->f∈ir ops 64 j) {GY:AV} {WJ:AS}:
  ∀ (fuel t:Nat) (listed:Array Bool) (l:lN) (G:Gh) (E E':AS) (w:World) (fr D:Fr) (a:Act) (Q:Exit->Act->World->Prop),
    (∀i,i∈l↔i<f/\listed.getD i true=false)->listed.size=ops.size->(∀j,f<=j->j<ops.size->listed.getD j true=false)->l.Pairwise (· < ·)->(∀j o,ops[j]?=some o->listed.getD j true=true-> ∀a∈k5 o,listed.getD a true=true)->l.length<fuel->
    jY X C xs F l fr E D E'->gw D.env (xs f).g=true->exec X C (xs f).i D.env E'=some (.panic GY WJ)->gx.le G->cu.Ext E->(∀i∈l,∀b,al i=some b->sl i<G.n/\G.pz (sl i)=some b)->aZ P B aw G E w->cK G nt fr.env a.tmps->gN dh G fr.marks a.defers->(∀e a w,mv P B aw dh gx cu nt (.panic GY,D,WJ) e a w->Q e a w)->
    wpOpsIn (W r) n P ops Q (Region.linearise.go L ops fuel t listed []) a w:=by
 intro fuel
 induction fuel with
 |zero=>simp
 |succ fuel ih=>
  intro t listed l G E E' w fr D a Q hl sd AF hp mr hf hr Dm K hle I oW hw he hm hQ;simp only[Region.linearise.go]
  change wpOpsIn (W r) n P ops Q (match(Region.ready L ops listed)[t % (Region.ready L ops listed).length]? with
   |some i=>Region.linearise.go L ops fuel (t/ (Region.ready L ops listed).length) (listed.setIfInBounds i true) [i]
   |none=>[].reverse) a w
  have M: ∀i,i∈Region.ready L ops listed↔(i<ops.size/\listed.getD i true=false)/\ ∀o,ops[i]?=some o-> ∀e∈o.after.toList,Region.binds L e=true->listed.getD e.on false=true:=by
   intro i;simp only[Region.ready,afI,aiF,afz,axm];constructor
   ·rintro⟨J,A,h3⟩;refine⟨⟨J,A⟩,λo ho e Dn V=>?_⟩;rw[ho]at h3;simp only[afo,akc,apV]at h3;have:=h3 e (by simpa using Dn);rw[V]at this;simpa using this
   ·rintro⟨⟨J,A⟩,h3⟩;refine⟨J,A,?_⟩;obtain⟨o,ho⟩: ∃o,ops[i]?=some o:=⟨ops[i],by simp[J]⟩;rw[ho];simp only[afo,akc,apV];intro e Dn;by_cases V:Region.binds L e=true
    ·rw[h3 o ho e (by simpa using Dn) V];simp
    ·simp at V;simp[V]
  have Nu: ∀a,listed.getD a false=true->listed.getD a true=true:=by
   intro a h;simp only[afF]at h⊢;cases h':listed[a]? with
   |none=>rw[h']at h;cases h
   |some b=>rw[h']at h;exact h
  cases hi: (Region.ready L ops listed)[t % (Region.ready L ops listed).length]? with
  |none=>
   have Df:Region.ready L ops listed=[]:=by
    cases mY:Region.ready L ops listed with
    |nil=>rfl
    |cons x ys=>
     rw[mY]at hi;have yk:t % (x::ys).length< (x::ys).length:=anS _ (by simp);rw[adM yk]at hi;cases hi
   exfalso;simp only[uG,afz]at yE;obtain⟨x,p,o,ho,uL⟩:=Nr (S:=λa=>listed.getD a false=true) (l:=(List.range ops.size).filter λi=>listed.getD i true==false) (λx p qJ=>by
    cases sh:listed.getD x true with
    |true=>
     simp only[afF,axi (show x<listed.size by omega),akc]at sh⊢;exact sh
    |false=>exact absurd (afI.2 ⟨aiF.2 p,by simpa using sh⟩) qJ) ord [] yE.2 (by simp) ⟨f,by
     have:=afy.1 yE.1 f (by simpa using Hl);simpa using this,afI.2 ⟨aiF.2 Hl,by simpa using AF f (aef _) Hl⟩⟩
   have Di:x<ops.size/\listed.getD x true=false:=by simpa using afI.1 p
   have:x∈Region.ready L ops listed:=(M x).2 ⟨Di,λo' u e Dn V=>by rw[ho]at u;cases u;exact uL e Dn V⟩;rw[Df]at this;cases this
  |some i=>
   simp only;rw[linearise_go_acc,List.reverse_singleton,List.singleton_append];have Nv:=alp hi;obtain⟨si,Nw⟩:=(M i).1 Nv;have AK: ∀o,ops[i]?=some o-> ∀a∈k5 o,listed.getD a true=true:=by
    intro o ho a ha;simp only[k5,afq,afI]at ha;obtain⟨e,⟨e1,e2⟩,rfl⟩:=ha;exact Nu _ (Nw o ho e e1 (WH e2))
   have Z:=si.1;obtain⟨o,ho⟩: ∃o,ops[i]?=some o:=⟨ops[i],by simp[Z]⟩;have Y: ∀x∈ir ops 64 i,listed.getD x true=true:=Nq (S:=λa=>listed.getD a true=true) (λj hj o' u a ha=>mr j o' u hj a ha) 64 i o ho (AK o ho);by_cases Hm: ¬i<f
   ·have aoL:i=f:=by
      refine afH λsj=>?_
      have:=Y _ (NB i (by omega) Z);rw[AF f (aef _) Hl]at this;cases this
    subst aoL;have Df:l=[]:=by
     cases l with
     |nil=>rfl
     |cons x l=>
      obtain⟨q1,q2⟩:=(hl x).1 (by simp);have:=Y _ (NA x q1);rw[q2]at this;cases this
    subst Df;obtain⟨rfl,rfl⟩:=hr;rcases AJ i o ho with⟨iH,p⟩| ⟨z,tg,g,d,iH,p,yz⟩
    ·have gO:guardOf ops o=some (xs i).g:=by
       unfold iY at p;split at p
       ·rename_i A;have:=aiP p;rw[<-this];exact A
       ·cases p
     have uN:=yo he gO;simp only[wpOpsIn,ho];rw[uN,adG Dm];exact yp hC hg p (hd i Z) hw he hm K (λDh nT e=>by cases e) (λDh nT e e' a' w' h=>by cases e;exact hQ _ _ _ (h.trans hle I))
    ·rw[yz]at K;simp[exec]at K
   have Hm:i<f:=Decidable.byContradiction Hm;have si:i∈l:=(hl i).2 ⟨Hm,si.2⟩;obtain⟨m,q,rfl⟩:=ar3 si;have H:=anU.1 hp;have s:=No m fr D E E' (λx p=>by
    have qJ:=(hl x).1 (by simp[p]);refine Nt x i (H.2.2 x p i (by simp)) Hm (λY=>?_);have:=Nq (S:=λa=>listed.getD a true=true) (λj hj o' u a ha=>mr j o' u hj a ha) 64 i o ho (AK o ho) x Y;rw[qJ.2]at this;cases this) hr
   rw[jY]at s;have O: ∀k,k∈m++q↔k<f/\ (listed.setIfInBounds i true).getD k true=false:=by
    intro k;have hk:=hl k;have Hk: ∀x∈m++q,x≠i:=by
     intro x p e;subst e;rcases aeg.1 p with h|h
     ·have:=H.2.2 x h x (by simp);omega
     ·have:=(akT.1 H.2.1).1 x h;omega
    simp only[afF,aln]at hk⊢;constructor
    ·intro h;have sj:=Hk k h;have:=hk.1 (by simp only[aeg,afJ]at h⊢;rcases h with h|h;exact .inl h;exact .inr (.inr h));rw[adE (λe=>sj e.symm)];exact this
    ·rintro⟨J,A⟩;by_cases yy:i=k
     ·subst yy;rw[adG rfl,adG (by omega)]at A;simp at A
     ·rw[adE yy]at A;have:=hk.2 ⟨J,A⟩;simp only[aeg,afJ]at this⊢;rcases this with h|h|h
      ·exact .inl h
      ·exact absurd h.symm yy
      ·exact .inr h
   have oX: (m++q).Pairwise (· < ·):=anU.2 ⟨H.1,(akT.1 H.2.1).2,λx p y hy=>H.2.2 x p y (by simp[hy])⟩;have U: ∀j o,ops[j]?=some o->(listed.setIfInBounds i true).getD j true=true-> ∀a∈k5 o,(listed.setIfInBounds i true).getD a true=true:=by
    intro j o' u hj a ha;have key:listed.getD a true=true->(listed.setIfInBounds i true).getD a true=true:=by
     intro h;simp only[afF,aln]at h⊢;split
     ·split<;>rfl
     ·exact h
    apply key;by_cases Dg:i=j
    ·subst Dg;rw[ho]at u;cases u;exact AK _ ho a ha
    ·refine mr j o' u ?_ a ha;simp only[afF,aln]at hj⊢;rw[adE Dg]at hj;exact hj
   have qI: (m++q).length<fuel:=by simp at hf⊢;omega
   have R: ∀j,f<=j->j<ops.size->(listed.setIfInBounds i true).getD j true=false:=by
    intro j J A;have:=AF j J A;simp only[afF,aln]at this⊢;rw[adE (by omega)];exact this
   have Nx:i∉m++q:=λhm=>by
    rcases aeg.1 hm with h|h
    ·have:=H.2.2 i h i (by simp);omega
    ·have:=(akT.1 H.2.1).1 i h;omega
   have N: ∀k∈m++q,∀b,al k=some b->sl k<G.n/\G.pz (sl k)=some b:=λk hk b V=>oW k (by
    simp only[aeg,afJ]at hk⊢;rcases hk with h|h
    ·exact .inl h
    ·exact .inr (.inr h)) b V
   rcases AJ i o ho with⟨iH,p⟩| ⟨z,tg,g,d,iH,p,yz⟩
   ·have gO:guardOf ops o=some (xs i).g:=by
      unfold iY at p;split at p
      ·rename_i A;have:=aiP p;rw[<-this];exact A
      ·cases p
    have T: (xs i).dst=o.dst:=by
     unfold iY at p;split at p
     ·have:=aiP p;rw[<-this]
     ·cases p
    have uN:=yo he gO;simp only[wpOpsIn,ho];rw[uN];rcases s with⟨J,v,yA,A,_,h4⟩| ⟨J,_,h4⟩
    ·rw[adG J];refine yp hC hg p (hd i Z) hw he hm A (λDh nT e G' a' w' q1 q2 q3 q4 q5=>?_) (λDh nT e=>by cases e);cases e;exact ih _ _ (m++q) G' yA E' w' _ D a' Q O (by simpa using sd) R oX U qI h4 Dm K (Gh.le_trans hle q1) (I.trans q3) (λk hk b V=>by
      obtain⟨p1,p2⟩:=N k hk b V;exact⟨ahl p1 q1.n,by rw[q1.pz _ p1];exact p2⟩) q2 q4 q5 hQ
    ·rw[adE (by rw[J];simp)];refine⟨λ_ _=>trivial,?_⟩;obtain⟨p1,p2,p3⟩:=qH (a:=a) he (hd i Z) (v:=.undef) (v':=undef) yn;rw[<-T];exact ih _ _ (m++q) G E E' w _ D _ Q O (by simpa using sd) R oX U qI h4 Dm K hle I N hw p1 (by rw[p2,p3];exact hm) hQ
   ·rw[yz]at s;have yB: ∀d',d=some d'->d'<nt:=λd' AL=>hd i Z d' (by rw[yz];exact AL)
    have Di:kZ P rows o=some (.alloc z tg)/\guardOf ops o=some g/\o.dst=d:=by
     unfold iY at p;split at p
     ·rename_i i' g' A h3;simp only[adF,aR.mk.injEq]at p;obtain⟨rfl,rfl,rfl⟩:=p;exact⟨A,h3,rfl⟩
     ·cases p
    obtain⟨Ny,gO,T⟩:=Di;have uN:=yo he gO;simp only[wpOpsIn,ho];rw[uN];rcases s with⟨J,v,yA,A,_,h4⟩| ⟨J,_,h4⟩
    ·rw[adG J];simp only[exec,aq.get,adF,Out.ok.injEq]at A;obtain⟨rfl,rfl⟩:=A;obtain⟨p1,p2⟩:=oW i (by simp) _ iH;obtain⟨t,oY,Nz,rfl⟩: ∃t,o.op= .alloc t/\iq P t=some z/\tg=r9 z t:=Hj Ny;obtain⟨w',e1,e2,e3⟩:=hw.real p1 p2 Nz;refine⟨λ_ _=>trivial,?_⟩;have Dj:o.semAt (W r).round a.eval=execOp a.eval o:=by
      apply Oper.semAt_eq;intro c e;rw[oY]at e;cases e
     have Dk: (execOp a.eval o).run P w= .ok (.value (.pointer (some ⟨w.heap.size,0,none⟩))) w':=by
      unfold execOp;simp only[oY];rw[Sem.run_bind,e1];rfl
     rw[Dj,Dk];simp only[Oper.uponIn];have Dl:=Gh.Hh (b:=w.heap.size) p2;obtain⟨r1,r2,r3⟩:=qH (a:=a) (dst:=d) (he.dN Dl) yB e3;rw[T];exact ih _ _ (m++q) _ E E' w' _ D _ Q O (by simpa using sd) R oX U qI h4 Dm K (Gh.WI hle p2 (wu i _ iH)) I (λk hk b V=>by
      obtain⟨p3,p4⟩:=N k hk b V;refine⟨p3,?_⟩;have sj:sl k≠sl i:=λe=>Nx (by rw[Ns i k _ _ iH V e.symm];exact hk)
      simp only[Gh.real];rw[adE sj];exact p4) e2 r1 (by rw[r2,r3];exact hm.dN Dl) hQ
    ·rw[adE (by rw[J];simp)];refine⟨λ_ _=>trivial,?_⟩;obtain⟨p1,p2,p3⟩:=qH (a:=a) (dst:=d) he yB (v:=.undef) (v':=undef) yn;rw[T];exact ih _ _ (m++q) G E E' w _ D _ Q O (by simpa using sd) R oX U qI h4 Dm K hle I N hw p1 (by rw[p2,p3];exact hm) hQ
end
end
section
variable{P:Program}{X:Ctx}{B:Nat}{aw:World}{dh:List Deferred}
def Dp{x:aR}{b:ae}(h:x.gd=some b): ∃z tg,x.i= .alloc z tg/\b= .box z tg:=by
 unfold aR.gd at h
 grind
def AM{x:aR}(h:x.gd=none):lT m x=x:=by unfold lT;rw[h]
def AN{x:aR}{b:ae}(h:x.gd=some b):lT m x={x with i:=.mov (.c (.ptr m 0))}:=by unfold lT;rw[h]
def Hn{x:aR}: (lT m x).dst=x.dst:=by
 cases h:x.gd with
 |none=>rw[AM h]
 |some b=>rw[AN h]
def WK{x:aR}: (lT m x).reads=x.reads:=by
 cases h:x.gd with
 |none=>rw[AM h]
 |some b=>
  rw[AN h];obtain⟨z,tg,a,_⟩:=Dp h;unfold aR.reads;rw[a];rfl
theorem Dq: ∀ (ys:List (aR×lN)) (n q:Nat),(iF n ys)[q]?=(ys[q]?).map λy=>(lT (n+(dM (ys.take q)).length) y.1,y.2)
 | [],n,q=>by rfl
 |o::os,n,0=>by rfl
 |o::os,n,q+1=>by
  simp only[iF,axt,apY];rw[Dq os];cases h:o.1.gd with
  |none=>simp[dM,h]
  |some b=>
   simp only[dM,h,afx]
   grind
theorem NC: ∀ (ys:List (aR×lN)) (n:Nat),(iF n ys).length=ys.length
 | [],_=>rfl
 |o::os,n=>by simp[iF,NC os]
theorem ND: ∀ (ys:List (aR×lN)) (q:Nat) (y:aR×lN) (b:ae),ys[q]?=some y->y.1.gd=some b->(dM ys)[(dM (ys.take q)).length]?=some b
 | [],q,y,b,h,_=>by grind
 |o::os,0,y,b,h,a=>by
  simp at h;subst h;simp[dM,a]
 |o::os,q+1,y,b,h,a=>by
  have c:=ND os q y b (by grind) a;simp only[apY,dM]
  grind
theorem Dr: ∀ (ys:List (aR×lN)) (i j:Nat) (y:aR×lN) (b:ae),ys[i]?=some y->y.1.gd=some b->i<j->(dM (ys.take i)).length< (dM (ys.take j)).length
 | [],i,j,y,b,h,_,_=>by grind
 |o::os,0,j+1,y,b,h,a,_=>by
  simp at h;subst h;simp[dM,a]
 |o::os,i+1,j+1,y,b,h,a,c=>by
  have d:=Dr os i j y b (by grind) a (by omega);simp only[apY,dM]
  grind
 |o::os,_,0,y,b,h,a,c=>by omega
theorem Ho: ∀ (ys:List (aR×lN)) (b:ae),b∈dM ys-> ∃y∈ys,y.1.gd=some b
 | [],b,h=>by trivial
 |o::os,b,h=>by
  simp only[dM]at h;cases ho:o.1.gd with
  |none=>
   rw[ho]at h;obtain⟨y,c,a⟩:=Ho os b h
   grind
  |some d=>
   rw[ho]at h;rcases afJ.1 h with rfl|h
   ·grind
   ·obtain⟨y,c,a⟩:=Ho os b h
    grind
def NF(hg:fQ X B aw):AG P X B aw:=by
 intro dh C hC rows r n nt id ops u ys AJ hd O G E w fr a res Q hw he hm hr hQ;obtain⟨NG,Z⟩:=WD AJ;have WL:u.length=ops.size:=by omega
 unfold MM at O;simp only at O;split at O
 ·rename_i WM;simp only[afz]at WM;obtain⟨⟨⟨⟨WN,WO⟩,WQ⟩,WR⟩,Y⟩:=WM;simp only[adF]at O
  let g:Nat->aR:=λi=>u.getD i default
  have s: ∀i,i<u.length->u[i]?=some (g i):=λi H=>by
   simp only[g,afA,adM H,akc]
  have Ds: ∀i,¬i<u.length->(g i).gd=none:=λi H=>by
   simp only[g,afA,akW (Nat.le_of_not_lt H),axv];rfl
  let sl:Nat->Nat:=λi=>E.heap.length+(dM (ys.take i)).length
  let xs:Nat->aR:=λi=>lT (sl i) (g i)
  have Dt:ys.length=u.length:=by rw[<-O];simp
  have I: ∀q y,ys[q]?=some y->y.1=g q:=by
   intro q y S;rw[<-O]at S;simp only[afE,azF,afn]at S;obtain⟨p,⟨z,hz,rfl⟩,rfl⟩:=S;have K:q<u.length:=(acW.1 hz).1;have:=s q K;rw[hz]at this;simpa using this
  have AO: ∀q,q<u.length-> ∃L,ys[q]?=some (g q,L):=λq S=>by
   have:q<ys.length:=by omega
   refine⟨(ys[q]).2,?_⟩;have e:=adM this;rw[e];have:=I q _ e;rw[<-this]
  by_cases hn:res.1= .normal
  ·obtain⟨F,f1,f2,f3,f4⟩:=Np (xs:=xs) (iF E.heap.length ys) [] fr _ res (λq y S=>by
     rw[Dq]at S;obtain⟨y',R,rfl⟩:=afn.1 S;have:=I q y' R;simp only[anD,akO,xs,sl,<-this]) hr hn
   have NH: (List.range (iF E.heap.length ys).length).map (([]:List FP).length+ ·)=List.range ops.size:=by
    rw[NC,Dt,WL];simp
   rw[NH]at f3;obtain⟨ex,Hb,E'⟩:=res;simp only at f2 f3;subst f2;have V: ∀i o,ops[i]?=some o-> ∀a∈k5 o,a<i:=by
    intro i o ho a ha;have H:i<ops.size:=(alY.1 ho).1;have:=afy.1 WR i (by simp;omega);rw[ho]at this;simpa using afy.1 this a ha
   have T: ∀i j,i<j->j<ops.size->i∉ir ops 64 j->ku (xs i) (xs j)=true/\ (F i).ok (F j)=true:=by
    intro i j A D c;have H:i<ops.size:=by omega
    have hb: (((List.range u.length).map λi=>(ir ops 64 i).eraseDups).getD j []).contains i=false:=by
     simp only[afA,afE,aoU (show j<u.length by omega),afo,akc];cases h: (ir ops 64 j).eraseDups.contains i with
     |false=>rfl
     |true=>
      rw[atb,List.mem_eraseDups]at h;exact absurd h c
    have R:=afy.1 Y (g i,i) (by rw[anc];exact s i (by omega));have W:=afy.1 R (g j,j) (by rw[anc];exact s j (by omega));simp only[ge_iff_le,anV,agQ]at W;refine⟨?_,?_⟩
    ·have sq:ku (xs i) (xs j)=ku (g i) (g j):=by
       unfold ku;simp only[xs,Hn,WK]
     rw[sq];rcases W with(h|h)|h
     ·omega
     ·rw[hb]at h;cases h
     ·exact h
    ·by_cases ci: (xs i).i.cls=0
     ·rw[yw ci _ _ _ _ _ (by simp;omega) f3];exact WB _
     ·by_cases cj: (xs j).i.cls=0
      ·rw[yw cj _ _ _ _ _ (by simp;omega) f3];exact WC _
      ·have same: ∀k,(xs k).i.cls≠0->xs k=g k:=by
         intro k hk;cases v: (g k).gd with
         |none=>exact AM v
         |some b=>exact absurd (by show(lT (sl k) (g k)).i.cls=0;rw[AN v];rfl) hk
       have ei:=same i ci;have ej:=same j cj;have NI:ys[j]?=some (g j,sa u.zipIdx ((List.range u.length).map λi=>(ir ops 64 i).eraseDups) (g j) j):=by
        rw[<-O];simp only[afE,azF,s j (by omega),afo,akO]
       have N: (iF E.heap.length ys)[j]?=some (xs j,sa u.zipIdx ((List.range u.length).map λi=>(ir ops 64 i).eraseDups) (g j) j):=by
        rw[Dq,NI];rfl
       have:=f4 j _ N i (by
        rw[ej]at cj;rw[ei]at ci;exact MK (x:=g i) (by rw[anc];exact s i (by omega)) A ci cj hb) (by simpa using A)
       simpa using this
   refine wpIn_region_draw (λt=>?_);have J: ∃md ord t',Region.schedule (P.follows .mixedOrders) ops t=Region.linearise md ops t'/\uG md ops ord=true:=by
    unfold Region.schedule;split
    ·exact⟨.any,_,t,rfl,WN⟩
    ·split
     ·exact⟨.text,_,_,rfl,WO⟩
     ·exact⟨.gc,_,_,rfl,WQ⟩
   obtain⟨md,ord,t',J,yE⟩:=J;rw[J];unfold Region.linearise;have NJ: ∀o∈dM ys,∃z tg,o= .box z tg/\aL z=0:=by
    intro o ho;obtain⟨y,R,W⟩:=Ho ys o ho;obtain⟨z,tg,M,rfl⟩:=Dp W;refine⟨z,tg,rfl,?_⟩;obtain⟨q,S⟩:=auM R;have K:q<ops.size:=by
     have:=(acW.1 S).1;omega
    obtain⟨x,e1,e2⟩:=Z q ops[q] (by simp[K]);have e3:=s q (by omega);rw[e1]at e3;rw[I q y S]at M;rw[aiP e3]at e2;have:kZ P rows ops[q]=some (.alloc z tg):=by
     unfold iY at e2;split at e2
     ·rename_i i' g' h4 h5;rw[<-aiP e2]at M;simp only at M;rw[h4,M]
     ·cases e2
    obtain⟨t,_,hc,_⟩:=Hj this;obtain⟨z',_,_,l,_⟩:=sc hc (Gh.mk (λ_ _=>none) 0 (λi=>i) (λi=>i) (λi=>i) (λi=>i) (λi=>i) (λ_=>none)) w;have:=aF.refs _ _ l;simpa using this
   refine go_sound hC hg (xs:=xs) (F:=F) (rows:=rows) (nt:=nt) md yE sl (λi=>(g i).gd) (λi o ho=>?_) (λi j bi bj H D A=>?_) (gx:=G) (cu:=E) (λi b H=>?_) (λi H d yF=>hd (g i) (alp (s i (by omega))) d (by rw[<-Hn (m:=sl i)];exact yF)) V T ops.size t' _ (List.range ops.size) (G.later (dM ys)) (E.mm (dM ys)) E' _ fr Hb a Q
    (λi=>?_) (by simp) List.pairwise_lt_range (λj o ho D=>?_) (by simp) f3 (G.yx _) (.mm E _) (λi H b hb=>?_) (hw.later NJ).drew (he.mono (G.yx _)) (hm.mono (G.yx _)) hQ
   ·obtain⟨x,R,W⟩:=Z i o (by simpa using ho);have M:=s i (acW.1 R).1;rw[R]at M;have M:=aiP M;subst M;cases v: (g i).gd with
    |none=>exact .inl ⟨rfl,by rw[W];show _=some (lT (sl i) (g i));rw[AM v]⟩
    |some b=>
     obtain⟨z,tg,h4,rfl⟩:=Dp v;refine .inr ⟨z,tg,(g i).g,(g i).dst,rfl,?_,?_⟩
     ·rw[W,<-h4]
     ·show lT (sl i) (g i)=_;rw[AN v]
   ·have NK:i<u.length:=by
      by_cases h:i<u.length
      ·exact h
      ·have:=Ds i h;rw[this]at H;cases H
    have NL:j<u.length:=by
     by_cases h:j<u.length
     ·exact h
     ·have:=Ds j h;rw[this]at D;cases D
    obtain⟨Li,ei⟩:=AO i NK;obtain⟨Lj,ej⟩:=AO j NL;have aoM: (dM (ys.take i)).length=(dM (ys.take j)).length:=by
     have:E.heap.length+(dM (ys.take i)).length=E.heap.length+(dM (ys.take j)).length:=A;omega
    rcases aAZ i j with h|h|h
    ·have:=Dr ys i j _ bi ei H h;omega
    ·exact h
    ·have:=Dr ys j i _ bj ej D h;omega
   ·show G.n<=E.heap.length+_;rw[hw.len];omega
   ·simp only[aiF,afF,axs];constructor
    ·intro h;exact⟨h,by simp[h]⟩
    ·exactλh=>h.1
   ·exfalso;have K:j<ops.size:=(alY.1 ho).1;simp[afF,K]at D
   ·have K:i<ops.size:=by simpa using H
    obtain⟨L,e⟩:=AO i (by omega);have Du:=ND ys i _ b e hb;have AP:=(acW.1 Du).1;have hn:=hw.len;refine⟨by show E.heap.length+_<G.n+_;omega,?_⟩;show(if E.heap.length+_<G.n then _ else _)=some b;rw[adE (by omega),hn,ag6];exact Du
  ·obtain⟨F,f,GY,yA,aB8,f1,q1,f2,f3,f5,f6,f4,f8,f9,f10,f11⟩:=WA (xs:=xs) (iF E.heap.length ys) [] fr _ res (λq y S=>by
     rw[Dq]at S;obtain⟨y',R,rfl⟩:=afn.1 S;have:=I q y' R;simp only[anD,akO,xs,sl,<-this]) hr hn
   have NH: (List.range f).map (([]:List FP).length+ ·)=List.range f:=by simp
   rw[NH]at f3;obtain⟨ex,Hb,E'⟩:=res;simp only[anD,akO]at f2 f3 f5 f6 f10 f11;subst f2;have U:f<ops.size:=by
    have:=(acW.1 q1).1;rw[NC,Dt,WL]at this;exact this
   have V: ∀i o,ops[i]?=some o-> ∀a∈k5 o,a<i:=by
    intro i o ho a ha;have H:i<ops.size:=(alY.1 ho).1;have:=afy.1 WR i (by simp;omega);rw[ho]at this;simpa using afy.1 this a ha
   have NN: ∀i j,j<ops.size->i∉ir ops 64 j->(((List.range u.length).map λi=>(ir ops 64 i).eraseDups).getD j []).contains i=false:=by
    intro i j D c;simp only[afA,afE,aoU (show j<u.length by omega),afo,akc];cases h: (ir ops 64 j).eraseDups.contains i with
    |false=>rfl
    |true=>
     rw[atb,List.mem_eraseDups]at h;exact absurd h c
   have sq: ∀i j,i<j->j<ops.size->i∉ir ops 64 j->ku (xs i) (xs j)=true:=by
    intro i j A D c;have hb:=NN i j D c;have R:=afy.1 Y (g i,i) (by rw[anc];exact s i (by omega));have W:=afy.1 R (g j,j) (by rw[anc];exact s j (by omega));simp only[ge_iff_le,anV,agQ]at W;have sq:ku (xs i) (xs j)=ku (g i) (g j):=by
     unfold ku;simp only[xs,Hn,WK]
    rw[sq];rcases W with(h|h)|h
    ·omega
    ·rw[hb]at h;cases h
    ·exact h
   have same: ∀k,(xs k).i.cls≠0->xs k=g k:=by
    intro k hk;cases v: (g k).gd with
    |none=>exact AM v
    |some b=>exact absurd (by show(lT (sl k) (g k)).i.cls=0;rw[AN v];rfl) hk
   have N: ∀j,j<ops.size->(iF E.heap.length ys)[j]?=some (xs j,sa u.zipIdx ((List.range u.length).map λi=>(ir ops 64 i).eraseDups) (g j) j):=by
    intro j D;have NI:ys[j]?=some (g j,sa u.zipIdx ((List.range u.length).map λi=>(ir ops 64 i).eraseDups) (g j) j):=by
     rw[<-O];simp only[afE,azF,s j (by omega),afo,akO]
    rw[Dq,NI];rfl
   have NO: ∀i j,i<j->j<ops.size->i∉ir ops 64 j->(xs i).i.cls≠0->(xs j).i.cls≠0->i∈sa u.zipIdx ((List.range u.length).map λi=>(ir ops 64 i).eraseDups) (g j) j:=by
    intro i j A D c ci cj;have hb:=NN i j D c;rw[same i ci]at ci;rw[same j cj]at cj;exact MK (x:=g i) (by rw[anc];exact s i (by omega)) A ci cj hb
   have wv:=N f U;rw[q1]at wv;have wv:=aiP wv;subst wv;have T: ∀i j,i<j->j<f->i∉ir ops 64 j->ku (xs i) (xs j)=true/\ (F i).ok (F j)=true:=by
    intro i j A D c;refine⟨sq i j A (by omega) c,?_⟩;by_cases ci: (xs i).i.cls=0
    ·rw[yw ci _ _ _ _ _ (by simp;omega) f3];exact WB _
    ·by_cases cj: (xs j).i.cls=0
     ·rw[yw cj _ _ _ _ _ (by simp;omega) f3];exact WC _
     ·have:=f4 j _ D (N j (by omega)) i (NO i j A (by omega) c ci cj) (by simpa using A);simpa using this
   have NA: ∀i,i<f->i∈ir ops 64 f:=by
    intro i H;refine afH λc=>?_
    simp only at f8 f9 f10;rcases f10 with f10|f10
    ·rw[same f f9]at f10;exact amC (x:=g i) (by rw[anc];exact s i (by omega)) H f10 (NN i f U c) f8
    ·have ci: (xs i).i.cls≠0:=λci=>f10 i H (yw ci _ _ _ _ _ (by simp;omega) f3)
     have:=NO i f H U c ci f9;rw[f8]at this;cases this
   have NB: ∀j,f<j->j<ops.size->f∈ir ops 64 j:=by
    intro j D NP;refine afH λc=>?_
    have yG:=f11 j _ D (N j NP);simp only at yG;split at yG
    ·rw[sq f j D NP c]at yG;cases yG
    ·rename_i cj;exact yG (NO f j D NP c f9 cj)
   refine wpIn_region_draw (λt=>?_);have J: ∃md ord t',Region.schedule (P.follows .mixedOrders) ops t=Region.linearise md ops t'/\uG md ops ord=true:=by
    unfold Region.schedule;split
    ·exact⟨.any,_,t,rfl,WN⟩
    ·split
     ·exact⟨.text,_,_,rfl,WO⟩
     ·exact⟨.gc,_,_,rfl,WQ⟩
   obtain⟨md,ord,t',J,yE⟩:=J;rw[J];unfold Region.linearise;have NJ: ∀o∈dM ys,∃z tg,o= .box z tg/\aL z=0:=by
    intro o ho;obtain⟨y,R,W⟩:=Ho ys o ho;obtain⟨z,tg,M,rfl⟩:=Dp W;refine⟨z,tg,rfl,?_⟩;obtain⟨q,S⟩:=auM R;have K:q<ops.size:=by
     have:=(acW.1 S).1;omega
    obtain⟨x,e1,e2⟩:=Z q ops[q] (by simp[K]);have e3:=s q (by omega);rw[e1]at e3;rw[I q y S]at M;rw[aiP e3]at e2;have:kZ P rows ops[q]=some (.alloc z tg):=by
     unfold iY at e2;split at e2
     ·rename_i i' g' h4 h5;rw[<-aiP e2]at M;simp only at M;rw[h4,M]
     ·cases e2
    obtain⟨t,_,hc,_⟩:=Hj this;obtain⟨z',_,_,l,_⟩:=sc hc (Gh.mk (λ_ _=>none) 0 (λi=>i) (λi=>i) (λi=>i) (λi=>i) (λi=>i) (λ_=>none)) w;have:=aF.refs _ _ l;simpa using this
   refine aoK hC hg (xs:=xs) (F:=F) (rows:=rows) (nt:=nt) md yE sl (λi=>(g i).gd) (λi o ho=>?_) (λi j bi bj H D A=>?_) (gx:=G) (cu:=E) (λi b H=>?_) (λi H d yF=>hd (g i) (alp (s i (by omega))) d (by rw[<-Hn (m:=sl i)];exact yF)) V U T NA NB ops.size t' _ (List.range f) (G.later (dM ys)) (E.mm (dM ys)) yA _ fr Hb a Q
    (λi=>?_) (by simp) (λj _ D=>by simp[D]) List.pairwise_lt_range (λj o ho D=>?_) (by simpa using U) f3 f5 f6 (G.yx _) (.mm E _) (λi H b hb=>?_) (hw.later NJ).drew (he.mono (G.yx _)) (hm.mono (G.yx _)) hQ
   ·obtain⟨x,R,W⟩:=Z i o (by simpa using ho);have M:=s i (acW.1 R).1;rw[R]at M;have M:=aiP M;subst M;cases v: (g i).gd with
    |none=>exact .inl ⟨rfl,by rw[W];show _=some (lT (sl i) (g i));rw[AM v]⟩
    |some b=>
     obtain⟨z,tg,h4,rfl⟩:=Dp v;refine .inr ⟨z,tg,(g i).g,(g i).dst,rfl,?_,?_⟩
     ·rw[W,<-h4]
     ·show lT (sl i) (g i)=_;rw[AN v]
   ·have NK:i<u.length:=by
      by_cases h:i<u.length
      ·exact h
      ·have:=Ds i h;rw[this]at H;cases H
    have NL:j<u.length:=by
     by_cases h:j<u.length
     ·exact h
     ·have:=Ds j h;rw[this]at D;cases D
    obtain⟨Li,ei⟩:=AO i NK;obtain⟨Lj,ej⟩:=AO j NL;have aoM: (dM (ys.take i)).length=(dM (ys.take j)).length:=by
     have:E.heap.length+(dM (ys.take i)).length=E.heap.length+(dM (ys.take j)).length:=A;omega
    rcases aAZ i j with h|h|h
    ·have:=Dr ys i j _ bi ei H h;omega
    ·exact h
    ·have:=Dr ys j i _ bj ej D h;omega
   ·show G.n<=E.heap.length+_;rw[hw.len];omega
   ·simp only[aiF,afF,axs];constructor
    ·intro h;exact⟨h,by simp[Nat.lt_trans h U]⟩
    ·exactλh=>h.1
   ·exfalso;have K:j<ops.size:=(alY.1 ho).1;simp[afF,K]at D
   ·have K:i<ops.size:=Nat.lt_trans (by simpa using H) U;obtain⟨L,e⟩:=AO i (by omega);have Du:=ND ys i _ b e hb;have AP:=(acW.1 Du).1;have hn:=hw.len;refine⟨by show E.heap.length+_<G.n+_;omega,?_⟩;show(if E.heap.length+_<G.n then _ else _)=some b;rw[adE (by omega),hn,ag6];exact Du
 grind
def aoN(n:Nat):yq (iter n):=λ_ _ _ _ h=>⟨n,h⟩
theorem WS(a:fQ X B aw)(b:oV P X)(c: ∀f p,X.bW f=some p->gP P B aw f p): ∀n,fS P B aw (iX X n)
 |0=>by intro fv args E d h;simp[iX]at h
 |n+1=>aox (WS a b c n) a b (NF a) (aoN n) c
end
section
variable{P:Program}{X:Ctx}{B:Nat}{aw:World}
def Gh.start(w:World):Gh where
 bw b o:=if b<w.heap.size then w.cell? ⟨b,o,none⟩else none
 n:=0
 bb:=id
 base:=id
 aj:=id
 eC:=id
 sz:=id
theorem aZ.start(w:World):aZ P w.heap.size w (Gh.start w) {heap:=[],lo:=none} w where
 len:=rfl
 bw b o v h:=by
  simp only[Gh.start]at h
  grind
 obj id o h:=by grind
 inj i j a:=absurd a.1 (aoc _)
 sep i a:=absurd a.1 (aoc _)
 low i a:=absurd a.1 (aoc _)
 lW i o a:=absurd a (aoc _)
 lV:=⟨rfl,rfl,rfl,aef _,λ_ _=>rfl⟩
 hB:=aef _
 dU b o v c h:=by simp only[Gh.start];grind
end
section
variable{P:Program}{X:Ctx}{B:Nat}{aw:World}
def bA.le(C a:bA):Prop:= ∀f args E r,C f args E=some r->a f args E=some r
def qK(b a:Fr->AS->jK):Prop:= ∀fr E r,b fr E=some r->a fr E=some r
def eK.le(L c:eK):Prop:= ∀b a,qK b a->qK (L b) (c a)
theorem AQ{C c:bA}(b:bA.le C c)(i:I)(e:Env)(E:AS)(r:Out)(h:exec X C i e E=some r):exec X c i e E=some r:=by
 cases i with
 |call f args=>
  simp only[exec]at h⊢;split at h
  ·rename_i a;rw[b _ _ _ _ a];exact h
  ·rename_i a;rw[b _ _ _ _ a];exact h
  grind
 |_=>simpa only[exec]using h
theorem Hp{C b:bA}(a:bA.le C b): ∀ (os:List aR),qK (fo X C os) (fo X b os)
 | [],_,_,_,h=>by trivial
 |o::os,fr,E,r,h=>by
  simp only[fo]at h⊢;split at h
  ·rename_i hw;rw[adG hw];split at h
   ·rename_i c;rw[AQ a _ _ _ _ c];exact Hp a os _ _ _ h
   ·grind [AQ]
   grind
  ·rename_i hw;rw[adE hw];exact Hp a os _ _ _ h
theorem Hq{C c:bA}(b:bA.le C c): ∀ (os:List (aR×lN)) (a:List FP),qK (gM X C a os) (gM X c a os)
 | [],_,_,_,_,h=>by trivial
 |o::os,a,fr,E,r,h=>by
  simp only[gM]at h⊢;split at h
  ·rename_i hw;rw[adG hw];split at h
   ·rename_i d;rw[AQ b _ _ _ _ d];simp only;split at h
    ·rename_i e;rw[adG e];exact Hq b os _ _ _ _ h
    grind
   ·grind [AQ]
   grind
  ·rename_i hw;rw[adE hw];exact Hq b os _ _ _ _ h
theorem qL{C m:bA}{L l:eK}(d:bA.le C m)(e:eK.le L l)(bO:FuncId)(rd:Bool): ∀pc,qK (bh X C L bO rd pc) (bh X m l bO rd pc)
 |.skip,_,_,_,h=>by trivial
 |.seq a b,fr,E,r,h=>by
  simp only[bh]at h⊢;split at h
  ·rename_i f;rw[qL d e bO rd a _ _ _ f];exact qL d e bO rd b _ _ _ h
  ·cases i:bh X C L bO rd a fr E with
   |none=>grind
   |some q=>
    rw[qL d e bO rd a _ _ _ i]
    grind
 |.cond c a b,fr,E,r,h=>by
  simp only[bh]at h⊢;split at h
  ·rename_i t o;split at h
   ·rename_i j;rw[adG j];exact qL d e bO rd a _ _ _ h
   ·rename_i j;rw[adE j];exact qL d e bO rd b _ _ _ h
  omega
 |.block id body,fr,E,r,h=>by
  simp only[bh]at h⊢;cases i:bh X C L bO rd body fr E with
  |none=>rw[i]at h;cases h
  |some q=>rw[qL d e bO rd body _ _ _ i];rw[i]at h;exact h
 |.loop body,fr,E,r,h=>by
  simp only[bh]at h⊢;exact e _ _ (qL d e bO rd body) _ _ _ h
 |.exit id,_,_,_,h=>by simpa only[bh]using h
 |.ret,_,_,_,h=>by simpa only[bh]using h
 |.aJ ops,fr,E,r,h=>by
  simp only[bh]at h⊢;exact Hp d ops _ _ _ h
 |.uA ops,fr,E,r,h=>by
  simp only[bh]at h⊢;exact Hq d _ _ _ _ _ h
 |.iE g ps as bd,fr,E,r,h=>by
  simp only[bh]at h⊢;split at h
  ·cases h
  ·rename_i k;rw[adE k];split at h
   ·rename_i n;rw[adG n];split at h
    ·rename_i f;rw[d _ _ _ _ f];exact h
    ·rename_i f;rw[d _ _ _ _ f];exact h
    ·cases h
   ·cases h
theorem aoO{C o:bA}{L n:eK}(m:bA.le C o)(k:eK.le L n)(l:Nat)(args:lA)(E:AS)(r:aV)(h:lU X C L l args E=some r):lU X o n l args E=some r:=by
 simp only[lU]at h⊢;split at h
 ·rename_i st i f env ps as bd u;split at h
  ·rename_i a;simp only[a,afK];split at h
   ·rename_i fr d p;rw[qL m k _ _ _ _ _ _ p];simp only;split at h
    ·rename_i b t c e g ju s;cases j:bh X C L f true bd fr (d.set l (.loop .busy b t c e g ju) 0)with
     |none=>rw[j]at h;cases h
     |some q=>rw[qL m k _ _ _ _ _ _ j];grind
    omega
   grind
  grind
 omega
def WT{C c:bA}{L b:eK}(e:bA.le C c)(d:eK.le L b):bA.le (step X C L) (step X c b):=by
 intro v args E r h;unfold step at h⊢;split at h
 ·rename_i f first cap
  split at h
  ·omega
  ·split at h
   ·rename_i pf g;split at h
    ·cases a:bh X C L f false pf.body {env:=ds (first++args++cap),marks:=[]} {E with lo:=none}with
     |none=>rw[a]at h;cases h
     |some q=>rw[qL e d _ _ _ _ _ _ a];grind
    grind
   omega
 ·grind [aoO]
 omega
theorem NQ: ∀n,eK.le (iter n) (iter (n+1))
 |0,b,c,a,fr,E,r,h=>by trivial
 |n+1,b,c,a,fr,E,r,h=>by
  rw[iter]at h⊢;split at h
  ·rename_i d;rw[a _ _ _ d];exact NQ n b c a _ _ _ h
  ·rw[a _ _ _ h]
   grind
theorem WU: ∀n,bA.le (iX X n) (iX X (n+1))
 |0=>λf args E r h=>by trivial
 |n+1=>by
  exact WT (WU n) (NQ n)
def bA.le_trans{A B C:bA}(h:bA.le A B)(k:bA.le B C):bA.le A C:=λf a s r e=>k f a s r (h f a s r e)
def yH(h:n<=m):bA.le (iX X n) (iX X m):=by
 induction h with
 |refl=>exactλf a s r e=>e
 |step _ b=>exact bA.le_trans b (WU _)
def NR(h:n<=m)(b:Fr->AS->jK):qK (iter n b) (iter m b):=by
 induction h with
 |refl=>exactλfr s r e=>e
 |step _ a=>exactλfr s r e=>NQ _ b b (λ_ _ _ h=>h) _ _ _ (a fr s r e)
theorem Hr: ∀n (b a:Fr->AS->jK),qK b a->qK (iter n b) (iter n a)
 |0,_,_,_=>λfr E r h=>by trivial
 |n+1,b,a,c=>λfr E r h=>by
  rw[iter]at h⊢;split at h
  ·rename_i d;rw[c _ _ _ d];exact Hr n b a c _ _ _ h
  ·rw[c _ _ _ h]
   grind
def WV(h:n<=m):eK.le (iter n) (iter m):=by
 intro b a c fr s r e;exact NR h a _ _ _ (Hr n b a c _ _ _ e)
noncomputable def D(X:Ctx):bA:=λf args E=>
 open Classical in if h: ∃r,∃n,iX X n f args E=some r then some h.choose else none
noncomputable def Lw:eK:=λb fr E=>
 open Classical in if h: ∃r,∃n,iter n b fr E=some r then some h.choose else none
def NS:bA.le (iX X n) (D X):=by
 intro f args E r h;have a: ∃r,∃n,iX X n f args E=some r:=⟨r,n,h⟩;unfold D;obtain⟨m,hm⟩:=a.choose_spec;have c:=yH (aqd n m) _ _ _ _ h;have b:=yH (aqy n m) _ _ _ _ hm
 grind
theorem yI{f:AV}{args:lA}{E:AS}{r:aV}(h:D X f args E=some r): ∃n,iX X n f args E=some r:=by
 unfold D at h;split at h
 ·grind
 grind
def NT{b:Fr->AS->jK}:qK (iter n b) (Lw b):=by
 intro fr E r h;have a: ∃r,∃n,iter n b fr E=some r:=⟨r,n,h⟩;unfold Lw;obtain⟨m,hm⟩:=a.choose_spec;have d:=NR (aqd n m) b _ _ _ h;have c:=NR (aqy n m) b _ _ _ hm
 grind
def Dv{b:Fr->AS->jK}{a:Fr}{E:AS}{r:Ex×Fr×AS}(h:Lw b a E=some r): ∃n,iter n b a E=some r:=by
 unfold Lw at h;split at h
 ·grind
 grind
theorem aoP(b:Fr->AS->jK)(e:Fr)(E:AS):Lw b e E=match b e E with
  |some (.normal,c,h)=>Lw b c h
  |r=>r:=by
 split
 ·rename_i c h d;cases g:Lw b c h with
  |none=>
   cases f:Lw b e E with
   |none=>rfl
   |some r=>
    obtain⟨n,a⟩:=Dv f;cases n with
    |zero=>trivial
    |succ n=>rw[iter,d]at a;rw[NT _ _ _ a]at g;cases g
  |some r=>
   obtain⟨n,a⟩:=Dv g;exact NT (n:=n+1) _ _ _ (by rw[iter,d];exact a)
 ·cases d:b e E with
  |none=>
   cases f:Lw b e E with
   |none=>rfl
   |some r=>
    obtain⟨n,a⟩:=Dv f;cases n with
    |zero=>trivial
    |succ n=>rw[iter,d]at a;cases a
  |some q=>
   refine NT (n:=1) _ _ _ ?_;rw[iter,d]
   grind
theorem Hs{i:I}{E:AS}{r:Out}(h:exec X (D X) i e E=some r): ∃n,exec X (iX X n) i e E=some r:=by
 cases i with
 |call f args=>
  simp only[exec]at h⊢;split at h
  ·grind [yI]
  ·rename_i b;obtain⟨n,a⟩:=yI b;exact⟨n,by rw[a];exact h⟩
  grind
 |_=>exact⟨0,by simpa only[exec]using h⟩
theorem NU: ∀ (os:List aR) (fr:Fr) (E:AS) (r:Ex×Fr×AS),fo X (D X) os fr E=some r-> ∃n,fo X (iX X n) os fr E=some r
 | [],_,_,_,h=>⟨0,by trivial⟩
 |o::os,fr,E,r,h=>by
  simp only[fo]at h⊢;split at h
  ·rename_i hw;simp only[hw,afK];split at h
   ·rename_i a;obtain⟨n,b⟩:=Hs a;obtain⟨m,hm⟩:=NU os _ _ _ h;refine⟨max n m,?_⟩;rw[AQ (yH (aqd n m)) _ _ _ _ b];exact Hp (yH (aqy n m)) _ _ _ _ hm
   ·grind [Hs]
   grind
  ·obtain⟨m,hm⟩:=NU os _ _ _ h
   grind
theorem NV: ∀ (os:List (aR×lN)) (a:List FP) (fr:Fr) (E:AS) (r:Ex×Fr×AS),gM X (D X) a os fr E=some r-> ∃n,gM X (iX X n) a os fr E=some r
 | [],_,_,_,_,h=>⟨0,by trivial⟩
 |o::os,a,fr,E,r,h=>by
  simp only[gM]at h⊢;split at h
  ·rename_i hw;simp only[hw,afK];split at h
   ·rename_i b;obtain⟨n,c⟩:=Hs b;split at h
    ·rename_i d;obtain⟨m,hm⟩:=NV os _ _ _ _ h;refine⟨max n m,?_⟩;rw[AQ (yH (aqd n m)) _ _ _ _ c];simp only;rw[adG d];exact Hq (yH (aqy n m)) _ _ _ _ _ hm
    grind
   ·rename_i b;obtain⟨n,c⟩:=Hs b
    grind
   grind
  ·obtain⟨m,hm⟩:=NV os _ _ _ _ h
   grind
def yL(h:n<=m)(bO:FuncId)(rd:Bool)(a:PC):qK (bh X (iX X n) (iter n) bO rd a) (bh X (iX X m) (iter m) bO rd a):=
 qL (yH h) (WV h) bO rd a
theorem qM(bO:FuncId)(rd:Bool): ∀ (pc:PC) (fr:Fr) (E:AS) (r:Ex×Fr×AS),bh X (D X) Lw bO rd pc fr E=some r-> ∃n,bh X (iX X n) (iter n) bO rd pc fr E=some r
 |.skip,_,_,_,h=>⟨0,by trivial⟩
 |.seq a b,fr,E,r,h=>by
  simp only[bh]at h;split at h
  ·rename_i e;obtain⟨n,d⟩:=qM bO rd a _ _ _ e;obtain⟨m,hm⟩:=qM bO rd b _ _ _ h;refine⟨max n m,?_⟩;simp only[bh];rw[yL (aqd n m) _ _ _ _ _ _ d];exact yL (aqy n m) _ _ _ _ _ _ hm
  ·rename_i e;obtain⟨n,d⟩:=qM bO rd a _ _ _ h;refine⟨n,?_⟩;simp only[bh];rw[d];obtain⟨ex,l,v⟩:=r;cases ex with
   |normal=>exact absurd h (e _ _)
   |_=>rfl
 |.cond c a b,fr,E,r,h=>by
  simp only[bh]at h;split at h
  ·rename_i t p;split at h
   ·rename_i i;obtain⟨n,d⟩:=qM bO rd a _ _ _ h;exact⟨n,by simp only[bh,p,i,afK];exact d⟩
   ·rename_i i;obtain⟨n,d⟩:=qM bO rd b _ _ _ h;exact⟨n,by simp only[bh,p,adE i];exact d⟩
  ·cases h
 |.block id body,fr,E,r,h=>by
  simp only[bh]at h;cases j:bh X (D X) Lw bO rd body fr E with
  |none=>rw[j]at h;cases h
  |some q=>
   obtain⟨n,d⟩:=qM bO rd body _ _ _ j;refine⟨n,?_⟩;simp only[bh];rw[d];rw[j]at h;exact h
 |.loop body,fr,E,r,h=>by
  simp only[bh]at h;obtain⟨k,u⟩:=Dv h;have key: ∀k fr,∀E,iter k (bh X (D X) Lw bO rd body) fr E=some r-> ∃n,iter n (bh X (iX X n) (iter n) bO rd body) fr E=some r:=by
   intro k
   induction k with
   |zero=>intro fr E h;simp[iter]at h
   |succ k s=>
    intro fr E h;rw[iter]at h;split at h
    ·rename_i e;obtain⟨n,d⟩:=qM bO rd body _ _ _ e;obtain⟨m,hm⟩:=s _ _ h;refine⟨max n m+1,?_⟩;rw[iter];rw[yL (show n<=max n m+1 by omega) _ _ _ _ _ _ d];exact WV (show m<=max n m by omega) _ _ (yL (show m<=max n m+1 by omega) _ _ _) _ _ _ hm
    ·rename_i e;obtain⟨n,d⟩:=qM bO rd body _ _ _ h;refine⟨n+1,?_⟩;rw[iter,yL (Nat.le_succ n) _ _ _ _ _ _ d];obtain⟨ex,l,v⟩:=r;cases ex with
     |normal=>exact absurd h (e _ _)
     |_=>rfl
  obtain⟨n,d⟩:=key k fr E u;exact⟨n,by simp only[bh];exact d⟩
 |.exit id,_,_,_,h=>⟨0,by simpa only[bh]using h⟩
 |.ret,_,_,_,h=>⟨0,by simpa only[bh]using h⟩
 |.aJ ops,fr,E,r,h=>by
  simp only[bh]at h;obtain⟨n,d⟩:=NU _ _ _ _ h;exact⟨n,by simp only[bh];exact d⟩
 |.uA ops,fr,E,r,h=>by
  simp only[bh]at h;obtain⟨n,d⟩:=NV _ _ _ _ _ h;exact⟨n,by simp only[bh];exact d⟩
 |.iE g ps as bd,fr,E,r,h=>by
  simp only[bh]at h;split at h
  ·cases h
  ·rename_i f;split at h
   ·rename_i o;split at h
    ·rename_i e;obtain⟨n,d⟩:=yI e;exact⟨n,by simp only[bh];rw[adE f,adG o,d];exact h⟩
    ·rename_i e;obtain⟨n,d⟩:=yI e;exact⟨n,by simp only[bh];rw[adE f,adG o,d];exact h⟩
    ·cases h
   ·cases h
def aoQ{args:lA}{E:AS}{r:aV}(h:lU X (D X) Lw l args E=some r): ∃n,lU X (iX X n) (iter n) l args E=some r:=by
 simp only[lU]at h⊢;split at h
 ·rename_i st i f env ps as bd t;split at h
  ·rename_i d;split at h
   ·rename_i fr c k;obtain⟨n,o⟩:=qM _ _ _ _ _ _ k;split at h
    ·rename_i a s b e g ju p;cases j:bh X (D X) Lw f true bd fr (c.set l (.loop .busy a s b e g ju) 0)with
     |none=>rw[j]at h;cases h
     |some q=>
      obtain⟨m,hm⟩:=qM _ _ _ _ _ _ j;have e1:=yL (aqd n m) _ _ _ _ _ _ o;have u:=yL (aqy n m) _ _ _ _ _ _ hm
      grind
    grind
   grind
  grind
 grind
def Ht{args:lA}{E:AS}{r:aV}(h:step X (D X) Lw v args E=some r):D X v args E=some r:=by
 have key: ∃n,step X (iX X n) (iter n) v args E=some r:=by
  unfold step at h⊢;split at h
  ·rename_i f first cap
   split at h
   ·simp_all
   ·split at h
    ·rename_i pf c;split at h
     ·cases a:bh X (D X) Lw f false pf.body {env:=ds (first++args++cap),marks:=[]} {E with lo:=none}with
      |none=>rw[a]at h;cases h
      |some q=>grind [qM]
     grind
    grind
  ·exact aoQ h
  grind
 obtain⟨n,b⟩:=key;exact NS (n:=n+1) _ _ _ _ (by trivial)
def NW(b:fQ X B aw)(c:oV P X)(d: ∀f p,X.bW f=some p->gP P B aw f p):fS P B aw (D X):=by
 intro fv args E e h;obtain⟨n,a⟩:=yI h;exact WS b c d n fv args E e a
end
def Hu:Value->Prop
 |.slice (some a) _ _=>a.spot=none
 |_=>True
section
variable{H:Type}{enc:TypeId×Value->H}{P:Program}{w:World}{sp:Nat->Bool}{held:Bool}
def NX(R:TypeId->DataW H->lA->Prop):List Field->List (DataW H)->lA->Prop
 | [],e,xs=>e=[]/\xs=[]
 |x::r,e,xs=> ∃d c a b,e=d::c/\xs=a++b/\R x.type d a/\NX R r c b
def iI(P:Program):Nat->TypeId->DataW H->lA->Prop
 |0,_,_,_=>False
 |f+1,t,d,xs=>match P.underlying t with
  |some .bool=> ∃b,d= .lit (.bool b)/\xs=[.bool b]
  |some (.int k)=> ∃n,d= .lit (.int k n)/\xs=[.int k n]/\ (Lit.int k n).wf=true
  |some .string=> ∃s:ByteArray,d= .lit (.string s.data.toList)/\xs=[.str s]/\s.size<=maxLen
  |some (.slice e)=>(d= .nil/\xs=[.av])\/ ∃ (es rest:List (DataW H)) (af:List lA),d= .slice es rest/\xs=[.sl af false]/\es.length=af.length/\af.length<=maxLen/\
    ∀ (i:Nat) (a:DataW H) (b:lA),es[i]?=some a->af[i]?=some b->b.length=P.cellsOf e/\iI P f e a b
  |some (.struct fs)=> ∃c,d= .agg c/\NX (iI P f) fs.toList c xs
  |some (.array n e)=> ∃ (c:List (DataW H)) (af:List lA),d= .agg c/\xs=af.flatten/\c.length=n/\af.length=n/\ ∀ (i:Nat) (a:DataW H) (b:lA),c[i]?=some a->af[i]?=some b->iI P f e a b
  |_=>False
def AR(P:Program)(g:TypeId->Bool):List Field->Nat->Nat->Bool
 | [],off,n=>off==n
 |x::r,off,n=>x.offset==off&&g x.type&&AR P g r (off+P.cellsOf x.type) n
def AT(P:Program)(nest:Bool):Nat->TypeId->Bool
 |0,_=>false
 |f+1,t=>match P.underlying t with
  |some .bool=>true
  |some (.int _)=>true
  |some .string=>true
  |some (.slice e)=>nest&&AT P nest f e
  |some (.struct fs)=>AR P (AT P nest f) fs.toList 0 (P.cellsOf t)
  |some (.array n e)=>AT P nest f e&&P.cellsOf t==n*P.cellsOf e
  |_=>false
def WW(w:World)(b o:Nat):Option Value:=if b<w.heap.size then w.cell? ⟨b,o,none⟩else none
def aoR{b o:Nat}{v:Value}(h:w.cell? ⟨b,o,none⟩=some v):WW w b o=some v:=by
 unfold WW;rw[adG,h];unfold World.cell? at h
 grind
def WX{a:Addr}(h:a.spot=none)(n:Nat):a.add n=⟨a.block,a.off+n,none⟩:=by
 unfold Addr.add;split
 ·obtain⟨b,o,s⟩:=a;grind
 ·rfl
def aoS{a:Addr}(e:a.spot=none){c:Nat}{cs:List Value}(h:w.cells? 0 (a.add k) c=some cs):cs.length=c/\ ∀ (j:Nat) (v:Value),cs[j]?=some v->w.cell? ⟨a.block,a.off+k+j,none⟩=some v:=by
 have b:=mapM_some_length h;rw[axl]at b;refine⟨b,λj v d=>?_⟩;have:=mapM_some_get h j j (by grind);rw[d]at this;rw[WX e,WX rfl]at this;omega
def WY{e:TypeId}{R:DataW H->lA->Prop}{a:Addr}(A:a.spot=none)
  (D: ∀ (cs:List Value) d ps,(∀ (j:Nat) (v:Value),cs[j]?=some v-> ∃o,w.cell? ⟨a.block,o,none⟩=some v)->DataW.trod enc P w 0 sp held n e cs=some (d,ps)-> ∃xs,R d xs/\aF (Gh.start w) xs cs/\Leaves cs/\xs.length=cs.length)
  {es:List (DataW H×List MemPlace)} (len:Nat) (M:len<=es.length)
  (h: ∀i,i<len->(w.cells? 0 (a.add (i*P.cellsOf e)) (P.cellsOf e)).bind (DataW.trod enc P w 0 sp held n e)=es[i]?):
  ∃ (af:List lA) (vs:List Value),af.length=len/\ (∀ (i:Nat) (x:DataW H×List MemPlace) (b:lA),es[i]?=some x->af[i]?=some b->b.length=P.cellsOf e/\R x.1 b)/\aF (Gh.start w) af.flatten vs/\Leaves vs/\vs.length=len*P.cellsOf e/\qF (Gh.start w) a.block a.off vs:=by
 induction len with
 |zero=>exact⟨[],[],rfl,λi x b _ f=>by grind,rfl,λv c=>by grind,by simp,λj v c=>by grind⟩
 |succ m y=>
  obtain⟨af,vs,q,J,I,G,F,E⟩:=y (by omega) (λi p=>h i (by omega));have hm:=h m (atc m);have g:es[m]?=some es[m]:=adM (by omega);rw[g,anG]at hm;obtain⟨cs,C,z⟩:=hm;obtain⟨K,r⟩:=aoS A C;obtain⟨xs,u,t,s,L⟩:=D cs es[m].1 es[m].2 (λj v c=>⟨_,r j v c⟩) z;refine⟨af++[xs],vs++cs,by simp[q],λi x b k f=>?_,by rw[anE];simpa using I.append t,G.append s,by simp[F,K,apM],λj v c=>?_⟩
  ·by_cases p:i<af.length
   ·rw[acV p]at f;exact J i x b k f
   ·have l:=(acW.1 f).1;rw[aeb,aqs]at l;have:i=m:=by omega
    subst this;rw[afu (by omega),q,Nat.sub_self]at f;simp only[ap6,adF]at f;rw[g]at k;cases k;cases f;exact⟨by omega,u⟩
  ·by_cases B:j<vs.length
   ·rw[acV B]at c;exact E j v c
   ·rw[afu (by omega)]at c;have:=r _ _ c;have e1:a.off+m*P.cellsOf e+(j-vs.length)=a.off+j:=by omega
    rw[e1]at this;exact aoR this
theorem NY{n:Nat}{R:TypeId->DataW H->lA->Prop}{g:TypeId->Bool}{cs:List Value}
  (m: ∀t c d ps,g t=true->(∀v∈c,v∈cs)->DataW.trod enc P w 0 sp held n t c=some (d,ps)-> ∃xs,R t d xs/\aF (Gh.start w) xs c/\Leaves c/\xs.length=c.length)
  (N:Nat) (u:cs.length=N):
  ∀ (fs:List Field) (ys:List (DataW H×List MemPlace)) (off:Nat),AR P g fs off N=true->ys.length=fs.length->(∀ (i:Nat) (f:Field),fs[i]?=some f->DataW.trod enc P w 0 sp held n f.type ((cs.drop f.offset).take (P.cellsOf f.type))=ys[i]?)->
    ∃xs,NX R fs (ys.map (·.1)) xs/\aF (Gh.start w) xs (cs.drop off)/\Leaves (cs.drop off)/\xs.length=(cs.drop off).length
 | [],ys,off,j,k,_=>by
   simp only[AR,asw]at j;have:cs.drop off=[]:=ag5 (by omega);rw[this];cases ys with
   |nil=>exact⟨[],⟨rfl,rfl⟩,rfl,λv l=>by grind,rfl⟩
   |cons _ _=>grind
 |x::r,ys,off,j,k,h=>by
  simp only[AR,afz,asw]at j;obtain⟨⟨rfl,s⟩,p⟩:=j;cases ys with
  |nil=>grind
  |cons y ys=>
   have o:=h 0 x rfl;simp only[ap6]at o;obtain⟨a,G,F,E,D⟩:=m x.type _ y.1 y.2 s (λv l=>an4 (ag9 l)) o;obtain⟨b,C,B,A,z⟩:=NY m N u r ys (x.offset+P.cellsOf x.type) p (by simpa using k) (λi f q=>by have:=h (i+1) f q;simpa using this);have e:cs.drop x.offset=(cs.drop x.offset).take (P.cellsOf x.type)++cs.drop (x.offset+P.cellsOf x.type):=by
    rw[<-aor];exact(akP _ _).symm
   refine⟨a++b,⟨y.1,ys.map (·.1),a,b,rfl,rfl,G,C⟩,?_,?_,?_⟩
   ·rw[e];exact F.append B
   ·rw[e];exact E.append A
   ·rw[e,aeb,aeb,D,z]
def WZ{e:TypeId}{R:DataW H->lA->Prop}{cs:List Value}
  (A: ∀ (c:List Value) d ps,(∀v∈c,v∈cs)->DataW.trod enc P w 0 sp held n e c=some (d,ps)-> ∃xs,R d xs/\aF (Gh.start w) xs c/\Leaves c/\xs.length=c.length)
  {ys:List (DataW H×List MemPlace)} (k:Nat) (z:k*P.cellsOf e<=cs.length) (F:k<=ys.length) (h: ∀i,i<k->DataW.trod enc P w 0 sp held n e ((cs.drop (i*P.cellsOf e)).take (P.cellsOf e))=ys[i]?):
  ∃af:List lA,af.length=k/\ (∀ (i:Nat) (x:DataW H×List MemPlace) (b:lA),ys[i]?=some x->af[i]?=some b->R x.1 b)/\aF (Gh.start w) af.flatten (cs.take (k*P.cellsOf e))/\Leaves (cs.take (k*P.cellsOf e))/\af.flatten.length=k*P.cellsOf e:=by
 induction k with
 |zero=>exact⟨[],rfl,λi x b _ a=>by grind,by simp[aF],λv l=>by grind,by simp⟩
 |succ m y=>
  rw[apM]at z;obtain⟨af,p,E,D,C,B⟩:=y (by omega) (by omega) (λi o=>h i (by omega));have hm:=h m (atc m);have g:ys[m]?=some ys[m]:=adM (by omega);rw[g]at hm;obtain⟨xs,u,t,s,r⟩:=A _ ys[m].1 ys[m].2 (λv l=>an4 (ag9 l)) hm;have f:xs.length=P.cellsOf e:=by rw[r,afC,al3];omega
  have q:cs.take ((m+1)*P.cellsOf e)=cs.take (m*P.cellsOf e)++(cs.drop (m*P.cellsOf e)).take (P.cellsOf e):=by rw[apM,List.take_add]
  refine⟨af++[xs],by simp[p],λi x b f a=>?_,by rw[q,anE];simpa using D.append t,by rw[q];exact C.append s,by rw[anE,aeb,B,apM];simp[f]⟩;by_cases o:i<af.length
  ·rw[acV o]at a;exact E i x b f a
  ·have j:=(acW.1 a).1;rw[aeb,aqs]at j;have:i=m:=by omega
   subst this;rw[afu (by omega),p,Nat.sub_self]at a;simp only[ap6,adF]at a;rw[g]at f;cases f;cases a;exact u
theorem Hv{nest:Bool}(J:nest=true-> ∀b o v,w.cell? ⟨b,o,none⟩=some v->Hu v): ∀ (f:Nat) (t:TypeId) (n:Nat) (cs:List Value) (d:DataW H) (ps:List MemPlace),AT P nest f t=true->(nest=true-> ∀v∈cs,Hu v)->
  DataW.trod enc P w 0 sp held n t cs=some (d,ps)-> ∃xs,iI P f t d xs/\aF (Gh.start w) xs cs/\Leaves cs/\xs.length=cs.length
 |0,_,_,_,_,_,r,_,_=>by trivial
 |f+1,t,n,cs,d,ps,r,C,h=>by
  unfold AT at r;unfold iI;cases B:P.underlying t with
  |none=>grind
  |some td=>
   rw[B]at r;cases td with
   |bool=>
    obtain⟨b,rfl,l⟩:=DataW.trod_bool B h;cases l;exact⟨[.bool b],⟨b,rfl,rfl⟩,aF.single.2 rfl,λv g=>by simp at g;subst g;rfl,rfl⟩
   |int k=>
    obtain⟨b,rfl,l,T⟩:=DataW.trod_int B h;cases l;exact⟨[.int k b],⟨b,rfl,rfl,T⟩,aF.single.2 rfl,λv g=>by simp at g;subst g;rfl,rfl⟩
   |string=>
    obtain⟨s,rfl,l,F⟩:=DataW.trod_string B h;cases l;exact⟨[.str s],⟨s,rfl,rfl,F⟩,aF.single.2 rfl,λv g=>by simp at g;subst g;rfl,rfl⟩
   |slice e=>
    simp only[afz]at r;obtain⟨D,r⟩:=r;rcases DataW.trod_slice B h with⟨rfl,l⟩| ⟨a,len,cap,es,rest,m,rfl,rfl,l,_,hlc,V6,W,V,_,_⟩
    ·cases l;exact⟨[.av],.inl ⟨rfl,rfl⟩,aF.single.2 rfl,λv g=>by simp at g;subst g;rfl,rfl⟩
    ·cases l;have F:a.spot=none:=C D _ (List.mem_singleton_self _);obtain⟨af,vs,Q,O,N,M,h5,h6⟩:=WY (R:=iI P f e) F (λc I p u q=>Hv J f e m c I p r (λ_ v g=>by
      obtain⟨j,L⟩:=asR.1 g;obtain⟨o,ho⟩:=u j v L;exact J D _ _ _ ho) q) len (by omega) V
     refine⟨[.sl af false],.inr ⟨es.map (·.1),rest.map (·.1),af,rfl,rfl,by simp[W,Q],by omega,λi x b l Y=>?_⟩,aF.single.2 ?_,λv g=>by simp at g;subst g;rfl,rfl⟩
     ·rw[afE,afn]at l;obtain⟨y,S,rfl⟩:=l;exact O i y b S Y
     ·refine⟨a.block,a.off,cap,P.cellsOf e,vs,?_,by omega,(λu=>absurd u (by decide)),λel G=>?_,h6,M,br.iff.2 N⟩
      ·rw[Q];obtain⟨b,o,s⟩:=a;simp at F;subst F;rfl
      ·obtain⟨j,L⟩:=asR.1 G;have hjl:=(acW.1 L).1;exact(O j es[j] el (adM (by omega)) L).1
   |struct fs=>
    obtain⟨ys,m,rfl,l,K,A,z⟩:=DataW.trod_struct B h;cases l;obtain⟨xs,x1,x2,x3,x4⟩:=NY (R:=iI P f) (cs:=cs) (λt' c I p hg u q=>Hv J f t' m c I p hg (λD v g=>C D v (u v g)) q) _ K fs.toList ys 0 r (by simpa using A) (λi fl hi=>z i fl (by simpa using hi));exact⟨xs,⟨_,rfl,x1⟩,by simpa using x2,by simpa using x3,by simpa using x4⟩
   |array k e=>
    simp only[afz,asw]at r;obtain⟨U,u⟩:=r;obtain⟨ys,m,rfl,l,K,A,z⟩:=DataW.trod_array B h;cases l;obtain⟨af,Q,O,N,M,h5⟩:=WZ (R:=iI P f e) (cs:=cs) (λc I p X q=>Hv J f e m c I p U (λD v g=>C D v (X v g)) q) k (by rw[K,u];exact aef _) (by omega) z;have E:k*P.cellsOf e=cs.length:=by rw[K,u]
    rw[E,aft]at N M;exact⟨af.flatten,⟨_,af,rfl,rfl,by simpa using A,Q,λi a b Z Y=>by
     rw[afE,afn]at Z;obtain⟨y,S,rfl⟩:=Z;exact O i y b S Y⟩,N,M,by rw[h5,E]⟩
   |_=>cases r
theorem W4{W j:World}(g:laidOutB P=true)(i:Below W.heap.size W j): ∀ {ts:List TypeId} {vs:List Value} {e:List (DataW H)} {ps:List MemPlace},(ts.all λt=>P.readableRec t&&decide (t<P.types.size))=true->
  DataW.TrodAll enc P W 0 (λ_=>true) true ts vs e ps->(∀x∈ps,x.block<W.heap.size)->DataW.TrodAll enc P j 0 (λb=>decide (b<W.heap.size)) true ts vs e ps
 | [],[],[],_,_,h,_=>h
 |t::ts,v::vs,d::e,ps,c,h,f=>by
  simp only[avX,afz,agQ]at c;obtain⟨p,q,l,k,rfl⟩:=h;exact⟨p,q,Below.trod g c.1.1 c.1.2 l i (λx a=>f x (List.mem_append_left _ a)),W4 g i (by grind) k (λx a=>f x (List.mem_append_right _ a)),rfl⟩
 | [],[],_::_,_,_,h,_=>h.elim
 | [],_::_,_,_,_,h,_=>h.elim
 |_::_,[],_,_,_,h,_=>h.elim
 |_::_,_::_,[],_,_,h,_=>h.elim
end
def aoV{P:Program}{X:Ctx}(n:fQ X w.heap.size w)(r:oV P X)(s: ∀f p,X.bW f=some p->gP P w.heap.size w f p){fn:Func}(j:P.funcs[f]?=some fn)(q:fn.body.isSome=true)
  (d: (fn.name== "runtime.NumGoroutine")=false) {args:lA} {a:Array Value} (m:aF (Gh.start w) args a.toList)  {l:AS} (h:D X (.fn (.func f) [] []) args ⟨[],none⟩=some (.ret v l)):
  Calls P f a w λe w'=> ∃G v',e= .returned v'/\an G v v'/\Below w.heap.size w w':=by
 have k:=NW n r s _ _ _ _ h (Gh.start w) w (.func (.func f) #[] #[]) a (.start w) ⟨_,_,_,rfl,rfl,rfl,rfl⟩ m;have b: (wk (.func (.func f) #[] #[]) a).run P w= .ok (.enter f a) w:=by
  have g: ¬fn.name= "runtime.NumGoroutine" :=by grind
  obtain⟨c,o⟩:=aqD.1 q;simp[wk,Deferred.ofValue,invoke,callFunc,aqa,j,g,o]
 rw[b]at k;have i:CallsIn Fence.wide 0 P f a w (Ends P w.heap.size w (Gh.start w) {heap:=[],lo:=none} (.ret v l)):=k;refine callsIn_wide.1 (i.mono λe w' he=>?_);cases e with
 |returned v'=>
  obtain⟨x,y,u,t,_⟩:=he;exact⟨x,v',rfl,t,u.lV⟩
 |panicked _=>trivial
 |outgrown=>trivial
section
abbrev bR:=Ex->Fr->AS->Prop
variable(X:Ctx)
def wp(f:FuncId)(rd:Bool)(c:PC)(fr:Fr)(E:AS)(Q:bR):Prop:=
 ∃ex a b,bh X (D X) Lw f rd c fr E=some (ex,a,b)/\Q ex a b
def dH(os:List aR)(fr:Fr)(E:AS)(Q:bR):Prop:=
 ∃ex a b,fo X (D X) os fr E=some (ex,a,b)/\Q ex a b
def hH(b:List FP)(os:List (aR×lN))(fr:Fr)(E:AS)(Q:bR):Prop:=
 ∃ex a c,gM X (D X) b os fr E=some (ex,a,c)/\Q ex a c
def qN(K Kp:AV->AS->Prop):Option Out->Prop
 |some (.ok v E)=>K v E
 |some (.panic v E)=>Kp v E
 |none=>False
def aS(i:I)(e:Env)(E:AS)(K Kp:AV->AS->Prop):Prop:=qN K Kp (exec X (D X) i e E)
def Dw(f:FuncId)(rd:Bool)(b:PC)(Q:bR):bR
 |.normal,fr,E=>wp X f rd b fr E Q
 |ex,fr,E=>Q ex fr E
def yM(id:Nat)(Q:bR):bR
 |.exit i,fr,E=>if i=id then Q .normal fr E else Q (.exit i) fr E
 |ex,fr,E=>Q ex fr E
def Hw(K Kp:AV->AS->Prop):Option aV->Prop
 |some (.ret v E)=>K v E
 |some (.panic v E)=>Kp v E
 |none=>False
def ee(n:Nat)(lo:oN)(b:List RV)(R:aV->Prop):bR
 |.normal,fr,E|.ret,fr,E=> ∃a v,dZ E fr.marks=some a/\gp X a fr.env b=some v/\R (.ret (finish n lo v a).1 (finish n lo v a).2)
 |.panic v,fr,E=> ∃a,dZ E fr.marks=some a/\R (.panic (finish n lo v a).1 (finish n lo v a).2)
 |.exit _,_,_=>False
def Hx(c:AV)(b:Bool)(A B:Prop):Prop:=
 match c with
 |.bool t=>(t=b->A)/\ (t=(!b)->B)
 |_=>False
variable{X}{f:FuncId}{rd:Bool}{fr:Fr}{E:AS}{Q:bR}{e:Env}{ms:lN}{K Kp:AV->AS->Prop}
def aB9{a:Ex}{b:Fr}{c:AS}: (∃ex d g,(some (a,b,c):jK)=some (ex,d,g)/\Q ex d g)↔Q a b c:=
 by grind
def yN(c:AV)(b:Bool)(A B C:Prop):Prop:=
 match c with
 |.bool t=>(t=b->A)/\ (t=(!b)->B)
 |_=>C
def wp_skip:wp X f rd .skip fr E Q=Q .normal fr E:=propext (by simp only[wp,bh];grind)
def wp_exit{id:Nat}:wp X f rd (.exit id) fr E Q=Q (.exit id) fr E:=propext (by simp only[wp,bh];grind)
def wp_ret:wp X f rd .ret fr E Q=Q .ret fr E:=propext (by simp only[wp,bh];grind)
def wp_seq{a:PC}:wp X f rd (.seq a b) fr E Q=wp X f rd a fr E (Dw X f rd b Q):=by
 apply propext;simp only[wp,bh];constructor
 ·rintro⟨ex,d,j,h,c⟩;split at h
  ·rename_i g i k;exact⟨_,_,_,k,ex,d,j,h,c⟩
  ·refine⟨_,_,_,h,?_⟩;cases ex with
   |normal=>grind
   |_=>exact c
 ·rintro⟨ex,d,j,h,c⟩;rw[h];cases ex with
  |normal=>exact c
  |exit _=>exact⟨_,_,_,rfl,c⟩
  |ret=>exact⟨_,_,_,rfl,c⟩
  |panic _=>exact⟨_,_,_,rfl,c⟩
def wp_block{id:Nat}:wp X f rd (.block id b) fr E Q=wp X f rd b fr E (yM id Q):=by
 apply propext;simp only[wp,bh];constructor
 ·rintro⟨ex,c,d,h,a⟩;split at h
  ·simp only[yM]
   grind
  ·refine⟨_,_,_,h,?_⟩;cases ex with
   |exit i=>grind
   |_=>exact a
 ·rintro⟨ex,c,d,h,a⟩;rw[h];cases ex with
  |normal=>exact⟨_,_,_,rfl,a⟩
  |exit i=>
   simp only[yM]at a
   grind
  |ret=>exact⟨_,_,_,rfl,a⟩
  |panic _=>exact⟨_,_,_,rfl,a⟩
def wp_cond{c:aq}{a:PC}:wp X f rd (.cond c a b) fr E Q=Hx (c.get fr.env) true (wp X f rd a fr E Q) (wp X f rd b fr E Q):=by
 apply propext;simp only[wp,bh,Hx];constructor
 ·grind
 ·intro h;cases d:c.get fr.env<;>rw[d]at h<;>simp only at h<;>try rfl
  rename_i t;cases t
  ·grind
  grind
theorem NZ{os:List aR}:wp X f rd (.aJ os) fr E Q=dH X os fr E Q:=by rfl
theorem aoW{os:List (aR×lN)}:wp X f rd (.uA os) fr E Q=hH X [] (iF E.heap.length os) fr (E.mm (dM os)) Q:=by rfl
def wp_loop{S:Type}(I:S->Fr->AS->Prop)(μ:S->Nat)(s:S)(j:I s fr E)
  (i: ∀s fr E,I s fr E->wp X f rd b fr E (λex a c=>match ex with|.normal=> ∃s',μ s'<μ s/\I s' a c|ex=>Q ex a c)):wp X f rd (.loop b) fr E Q:=by
 have key: ∀n s fr E,μ s<n->I s fr E-> ∃ex a c,Lw (bh X (D X) Lw f rd b) fr E=some (ex,a,c)/\Q ex a c:=by
  intro n
  induction n with
  |zero=>simp
  |succ n k=>
   intro s fr E l h;obtain⟨ex,a,c,d,g⟩:=i s fr E h;rw[aoP,d]
   grind
 obtain⟨ex,a,c,d,g⟩:=key _ s fr E (atc _) j;exact⟨ex,a,c,by trivial,g⟩
def wp_mono{c:PC}{d:bR}(h:wp X f rd c fr E Q)(i: ∀ex fr E,Q ex fr E->d ex fr E):wp X f rd c fr E d:=by
 obtain⟨ex,b,j,g,a⟩:=h;exact⟨ex,b,j,g,i _ _ _ a⟩
theorem W5:Dw X f rd b Q .normal fr E=wp X f rd b fr E Q:=rfl
theorem W7:Dw X f rd b Q (.exit i) fr E=Q (.exit i) fr E:=rfl
theorem W8:Dw X f rd b Q .ret fr E=Q .ret fr E:=rfl
theorem W9:Dw X f rd b Q (.panic v) fr E=Q (.panic v) fr E:=rfl
theorem Xa{id:Nat}:yM id Q .normal fr E=Q .normal fr E:=rfl
theorem Xb{id:Nat}:yM id Q (.exit i) fr E=if i=id then Q .normal fr E else Q (.exit i) fr E:=rfl
theorem Xc{id:Nat}:yM id Q .ret fr E=Q .ret fr E:=rfl
theorem Xd{id:Nat}:yM id Q (.panic v) fr E=Q (.panic v) fr E:=rfl
theorem yO{b:List RV}{R:aV->Prop}:ee X n lo b R .ret fr E= ∃a v,dZ E fr.marks=some a/\gp X a fr.env b=some v/\R (.ret (finish n lo v a).1 (finish n lo v a).2):=rfl
theorem Hy{t b:Bool}{A B:Prop}:Hx (.bool t) b A B=((t=b->A)/\ (t=(!b)->B)):=rfl
theorem Xe:Hw K Kp (some (.ret v E))=K v E:=rfl
theorem Xf:Hw K Kp (some (.panic v E))=Kp v E:=rfl
def Xg:dH X [] fr E Q=Q .normal fr E:=propext (by simp only[dH,fo];grind)
theorem Fr.Xh{d:Nat}:Fr.put ⟨e,ms⟩ (some d) v=⟨e.set d v,ms⟩:=rfl
theorem Fr.Xi:Fr.put ⟨e,ms⟩ none v=⟨e,ms⟩:=rfl
def N0{i:I}{os:List aR}:dH X (⟨none,d,i⟩::os) fr E Q=aS X i fr.env E (λv a=>dH X os (fr.put d v) a Q) (λv a=>Q (.panic v) fr a):=by
 simp only[dH,aS,fo,gw,afK];cases b:exec X (D X) i fr.env E with
 |none=>simp[qN]
 |some o=>
  cases o with
  |ok v a=>rfl
  |panic v a=>simp only[qN];grind
def Env.N2{e:Env}:e.set t (e t)=e:=by
 unfold Env.set;grind
def Xj{b:Bool}{i:I}{os:List aR}:dH X (⟨some (t,b),d,i⟩::os) ⟨e,ms⟩ E Q=
  yN (e t) b (aS X i (e.set t (.bool b)) E (λv l=>dH X os (Fr.put ⟨e.set t (.bool b),ms⟩ d v) l Q) (λv l=>Q (.panic v) ⟨e.set t (.bool b),ms⟩ l))
   (dH X os (Fr.put ⟨e.set t (.bool (!b)),ms⟩ d .undef) E Q) (dH X os (Fr.put ⟨e,ms⟩ d .undef) E Q):=by
 cases g:e t with
 |bool c=>
  have p:c=b->dH X (⟨some (t,b),d,i⟩::os) ⟨e,ms⟩ E Q=dH X (⟨none,d,i⟩::os) ⟨e,ms⟩ E Q:=by
   intro h;subst h;simp only[dH,fo,gw,g,beq_self_eq_true,afK]
  have o:c=(!b)->dH X (⟨some (t,b),d,i⟩::os) ⟨e,ms⟩ E Q=dH X os (Fr.put ⟨e,ms⟩ d .undef) E Q:=by
   intro h;subst h;have: ((!b)==b)=false:=by simp
   simp only[dH,fo,gw,g,this,afp,aha]
  have m:e.set t (.bool c)=e:=by rw[<-g];exact Env.N2
  apply propext;simp only[yN];by_cases j:c=b
  ·have n: ¬c=(!b):=by subst j;cases c<;>simp
   rw[p j,N0];subst j;rw[m];exact⟨λh=>⟨λ_=>h,λk=>absurd k n⟩,λh=>h.1 rfl⟩
  ·have a:c=(!b):=by cases c<;>cases b<;>simp_all
   rw[o a,<-a,m];exact⟨λh=>⟨λk=>absurd k j,λ_=>h⟩,λh=>h.2 rfl⟩
 |_=>simp only[dH,fo,gw,g,yN,afp,aha]
theorem N3{f:FuncId}{first cap args:lA}{H:List ae}{R:aV->Prop}(j:X.bW f=none)(l:X.code f=some pf)(n: (first++args++cap).length<=pf.ntmps)
  (h:wp X f false pf.body ⟨ds (first++args++cap),[]⟩ ⟨H,none⟩ (ee X H.length lo pf.results R)): ∃b,D X (.fn (.func f) first cap) args ⟨H,lo⟩=some b/\R b:=by
 obtain⟨ex,fr,E,m,g⟩:=h;have key: ∀b,leave X H.length lo pf (some (ex,fr,E))=some b->D X (.fn (.func f) first cap) args ⟨H,lo⟩=some b:=by
  intro b k;refine Ht ?_;simp only[step,j,l]
  grind
 cases ex with
 |normal=>obtain⟨a,v,d,i,c⟩:=g;exact⟨_,key _ (by simp only[leave,qD,d,i]),c⟩
 |ret=>obtain⟨a,v,d,i,c⟩:=g;exact⟨_,key _ (by simp only[leave,qD,d,i]),c⟩
 |panic v=>obtain⟨a,d,c⟩:=g;exact⟨_,key _ (by simp only[leave,d]),c⟩
 |exit _=>trivial
theorem Xk{f:FuncId}{first cap args:lA}{H:List ae}{a:aV}(b:X.bW f=none)(d:X.code f=some pf)(c: (first++args++cap).length<=pf.ntmps)
 (h:wp X f false pf.body ⟨ds (first++args++cap),[]⟩ ⟨H,none⟩ (ee X H.length lo pf.results (· =a))):D X (.fn (.func f) first cap) args ⟨H,lo⟩=some a:=by grind [N3]
end
section
variable{X:Ctx}{f:FuncId}{rd:Bool}{fr:Fr}{E:AS}{Q:bR}{e:Env}{ms:lN}{K Kp:AV->AS->Prop}
def df{α:Type}(r:Option α)(K:α->Prop):Prop:=
 match r with
 |some a=>K a
 |none=>False
def Xl{g:aq}{as:List aq}:aS X (.call g as) e E K Kp=Hw K Kp (D X (g.get e) (as.map (·.get e)) E):=by
 simp only[aS,exec];cases D X (g.get e) (as.map (·.get e)) E with
 |none=>rfl
 |some r=>cases r<;>rfl
def jN{r:Option AV}:qN K Kp (gn E r)=df r (λv=>K v E):=by cases r<;>rfl
def k9(c:BinOp)(x y:AV):Option AV:=match x,y with
 |.int k a,.int _ b=>wa c k a b
 |_,_=>none
theorem aCa:aS X (.mov x) e E K Kp=(K (x.get e) E):=by
 rfl
def aoX{c:aq}{a:aq}{b:aq}:aS X (.pick c a b) e E K Kp=(df (match c.get e with|.bool t=>some t|_=>none) λt=>K (if t then a.get e else b.get e) E):=by
 simp only[aS,exec];cases c.get e<;>rfl
theorem aCb:aS X (.alloc z tg) e E K Kp=(K (.ptr E.heap.length 0) (E.push (.box z tg))):=by
 rfl
def aoY:aS X (.box x tg) e E K Kp=(((x.get e).cp=false/\K (.ptr E.heap.length 0) (E.push (.box (x.get e).cells tg)))):=by
 simp only[aS,exec];cases h: (x.get e).cp<;>simp[qN]
def aoZ{a:List (Nat×Nat×aq)}:aS X (.build z a) e E K Kp=(df (eJ z (a.map λp=>(p.1,p.2.1,p.2.2.get e))) λcs=>K (.agg cs) E):=by
 simp only[aS,exec];cases eJ z (a.map λp=>(p.1,p.2.1,p.2.2.get e))<;>rfl
def ao0{len:Nat}{a:List (Nat×Nat×aq)}:aS X (.bslice z len a) e E K Kp=(df (eJ (List.replicate len z).flatten (a.map λp=>(p.1,p.2.1,p.2.2.get e))) λcs=>K (.sl (chunks z.length len cs) true) E):=by
 simp only[aS,exec];cases eJ (List.replicate len z).flatten (a.map λp=>(p.1,p.2.1,p.2.2.get e))<;>rfl
def ao1{ty:TypeId}{len:Nat}{a:List (Nat×Nat×aq)}:aS X (.rX ty z len a) e E K Kp=(df (eJ (List.replicate len z).flatten (a.map λp=>(p.1,p.2.1,p.2.2.get e))) λcs=>K (.ref E.heap.length 0 z.length 0 len false) (E.push (.row 0 z.length ty (chunks z.length len cs)))):=by
 simp only[aS,exec];cases eJ (List.replicate len z).flatten (a.map λp=>(p.1,p.2.1,p.2.2.get e))<;>rfl
theorem ao2{agg:Bool}{a:aq}:aS X (.load agg n a) e E K Kp=(df (cq X E agg n (a.get e)) λv=>K v E):=by
 simp only[aS,exec,jN]
theorem ao3{a:aq}{v:aq}:aS X (.store n a v) e E K Kp=(df (kq E n (a.get e) (v.get e)) λb=>K .undef b):=by
 simp only[aS,exec];cases kq E n (a.get e) (v.get e)<;>rfl
theorem ao4:aS X (.nilck x) e E K Kp=(df (wi (x.get e)) λv=>K v E):=by
 simp only[aS,exec,jN]
theorem ao5{a:BinOp}:aS X (.bin a x y) e E K Kp=(df (dB a (x.get e) (y.get e)) λv=>K v E):=by
 simp only[aS,exec,jN]
theorem ao6{a:BinOp}:aS X (.shf a x y) e E K Kp=(df (k9 a (x.get e) (y.get e)) λv=>K v E):=by
 simp only[aS,exec,k9];cases x.get e<;>first|rfl| (cases y.get e<;>first|rfl|exact jN)
def ao7{k:EK}:aS X (.eq k x y) e E K Kp=(df (dJ k (x.get e) (y.get e)) λb=>K (.bool b) E):=by
 simp only[aS,exec];cases dJ k (x.get e) (y.get e)<;>rfl
def ao8{k:EK}:aS X (.ne k x y) e E K Kp=(df (dJ k (x.get e) (y.get e)) λb=>K (.bool !b) E):=by
 simp only[aS,exec];cases dJ k (x.get e) (y.get e)<;>rfl
theorem ao9{a:UnOp}:aS X (.un a x) e E K Kp=(df (x6 a (x.get e)) λv=>K v E):=by
 simp only[aS,exec,jN]
def apa{k:IntKind}:aS X (.conv k x) e E K Kp=(df (rY (x.get e)) λn=>K (.int k (k.wrap n)) E):=by
 simp only[aS,exec];cases x.get e<;>rfl
def apb:aS X (.s2b x) e E K Kp=(df (match x.get e with|.str s=>if s.size<=room then some s else none|_=>none) λs=>K (.sl (rZ s) false) E):=by
 simp only[aS,exec];cases x.get e<;>first|rfl| (simp only[];split<;>rfl)
theorem aCc{t:TypeId}:aS X (.mki t x) e E K Kp=(K (.dq t (x.get e)) E):=by
 rfl
theorem aCd{f:Fn}{first:List aq}{cap:List aq}:aS X (.mkf f first cap) e E K Kp=(K (.fn f (first.map (·.get e)) (cap.map (·.get e))) E):=by
 rfl
theorem aCe:aS X (.nO) e E K Kp=(K (.mp E.heap.length) (E.push (.map []))):=by
 rfl
theorem apc{lo:Option aq}{a:Option aq}:aS X (.slstr x lo a) e E K Kp=(df (uB (x.get e) (lo.map (·.get e)) (a.map (·.get e))) λv=>K v E):=by
 simp only[aS,exec,jN]
theorem apd{lo:Option aq}{b:Option aq}{a:Option aq}:aS X (.slsl n x lo b a) e E K Kp=(df (gJ n (x.get e) (lo.map (·.get e)) (b.map (·.get e)) (a.map (·.get e))) λv=>K v E):=by
 simp only[aS,exec,jN]
theorem ape{lo:Option aq}{a:Option aq}:aS X (.slarr n sz x lo a) e E K Kp=(df (qz X n sz (x.get e) (lo.map (·.get e)) (a.map (·.get e))) λv=>K v E):=by
 simp only[aS,exec,jN]
theorem apf:aS X (.faddr n x) e E K Kp=(df (wg X n (x.get e)) λv=>K v E):=by
 simp only[aS,exec,jN]
def apg{agg:Bool}{off:Nat}:aS X (.fld agg n off x) e E K Kp=(df (match x.get e with|.agg cs=>part agg n cs off|_=>none) λv=>K v E):=by
 simp only[aS,exec];cases x.get e<;>first|rfl|exact jN
theorem aph{i:aq}:aS X (.iaddra n sz x i) e E K Kp=(df (uD X n sz (x.get e) (i.get e)) λv=>K v E):=by
 simp only[aS,exec,jN]
theorem api{i:aq}:aS X (.iaddrs sz x i) e E K Kp=(df (kr sz (x.get e) (i.get e)) λv=>K v E):=by
 simp only[aS,exec,jN]
theorem apj{agg:Bool}{i:aq}:aS X (.idxa agg n sz x i) e E K Kp=(df (qB agg n sz (x.get e) (i.get e)) λv=>K v E):=by
 simp only[aS,exec,jN]
theorem apk{i:aq}:aS X (.idxs x i) e E K Kp=(df (x7 (x.get e) (i.get e)) λv=>K v E):=by
 simp only[aS,exec,jN]
theorem apl{b:EK}{z:AV}{m:aq}{k:aq}{a:Bool}:aS X (.lookup b z m k a) e E K Kp=(df (jJ X.gl E b z (m.get e) (k.get e) a) λv=>K v E):=by
 simp only[aS,exec,jN]
theorem apm{a:EK}{m:aq}{k:aq}{v:aq}:aS X (.oQ a m k v) e E K Kp=(df (ml E a (m.get e) (k.get e) (v.get e)) λb=>K .undef b):=by
 simp only[aS,exec];cases ml E a (m.get e) (k.get e) (v.get e)<;>rfl
theorem apn{z:AV}{t:TypeId}{a:Bool}:aS X (.ta z x t a) e E K Kp=(df (Ar z (x.get e) t a) λv=>K v E):=by
 simp only[aS,exec,jN]
def apo:aS X (.ext x i) e E K Kp=(df (match x.get e with|.az vs=>vs[i]?|_=>none) λv=>K v E):=by
 simp only[aS,exec];cases x.get e<;>first|rfl|exact jN
theorem apq{k:EK}:aS X (.len k x) e E K Kp=(df (gv E k (x.get e)) λv=>K v E):=by
 simp only[aS,exec,jN]
def apr{ty:TypeId}{bytes:Nat}{s:aq}:aS X (.append ty sz bytes s x) e E K Kp=(df (elems E sz (x.get e)) λys=>df (dL E ty sz bytes (s.get e) ys) λp=>K p.1 p.2):=by
 simp only[aS,exec];cases elems E sz (x.get e)with
 |none=>rfl
 |some ys=>simp only[df];cases dL E ty sz bytes (s.get e) ys<;>rfl
theorem aps{d:aq}{s:aq}:aS X (.copy sz d s) e E K Kp=(df (r6 E sz (d.get e) (s.get e)) λp=>K p.1 p.2):=by
 simp only[aS,exec];cases r6 E sz (d.get e) (s.get e)<;>rfl
theorem apt:aS X (.clear z x) e E K Kp=(df (r7 E z (x.get e)) λa=>K .undef a):=by
 simp only[aS,exec];cases r7 E z (x.get e)<;>rfl
theorem apu{xs:List aq}:aS X (.max xs) e E K Kp=(df (gL qA (xs.map (·.get e))) λv=>K v E):=by
 simp only[aS,exec,jN]
theorem apv{xs:List aq}:aS X (.min xs) e E K Kp=(df (gL wc (xs.map (·.get e))) λv=>K v E):=by
 simp only[aS,exec,jN]
def apw:aS X (.panic x) e E K Kp=(df (match x.get e with|.dq t v=>some (AV.dq t v)|_=>none) λv=>Kp v E):=by
 simp only[aS,exec];cases x.get e<;>rfl
def Hz(b:Bool)(v:AV)(e:Env)(t:Nat):AV:=match b with|true=>v|false=>e t
theorem Xm:Hz true v e t=v:=rfl
theorem Xn:Hz false v e t=e t:=rfl
def Xo{d:Nat}: (e.set d v) t=Hz (d==t) v e t:=by
 unfold Env.set Hz
 grind
theorem HA{t b:Bool}{A B C:Prop}:yN (.bool t) b A B C=((t=b->A)/\ (t=(!b)->B)):=rfl
theorem push_mk{H:List ae}{o:ae}:AS.push ⟨H,lo⟩ o=⟨H++[o],lo⟩:=rfl
theorem set_mk{H:List ae}{id:Nat}{o:ae}:AS.set ⟨H,lo⟩ id o r=⟨H.set id o,if r<=id+1 then lo else cJ lo id⟩:=rfl
end
section
variable{H L:List ae}{n k:Nat}
def dI(h:H.length=n): (H++L)[n]?=L[0]?:=by grind
def bF(h:H.length=n): (H++L)[n+k]?=L[k]?:=by grind
theorem HB{o:ae}(h:H.length=n): (H++L).set n o=H++L.set 0 o:=by grind
theorem mZ{o:ae}(h:H.length=n): (H++L).set (n+k) o=H++L.set k o:=by grind
def mw(h:H.length=n): (H++L).take n=H:=by grind
end
def HC{v':AV}{H:List ae}(a: (match ak with|none=>true|some j=>decide (n<=j))=true)(b:freeze ⟨H,ak⟩ n 12 v=some v'):finish n lo v ⟨H,ak⟩=(v',⟨H.take n,lo⟩):=by
 cases ak with
 |none=>simp[finish,b]
 |some j=>simp[finish,a,b]
def yP{E:AS}(h:v.refs<=n):freeze E n (k+1) v=some v:=by
 unfold freeze;grind
def Xp{H:List ae}(a: (match ak with|none=>true|some j=>decide (n<=j))=true)(b:v.refs<=n):finish n lo v ⟨H,ak⟩=(v,⟨H.take n,lo⟩):=
 HC a (yP b)
def wrap_i64{n:Int}(h: -9223372036854775808<=n)(a:n<=9223372036854775807):IntKind.wrap .i64 n=n:=by
 unfold IntKind.wrap IntKind.bits IntKind.signed;grind
def wrap_u64{n:Int}(h:0<=n)(a:n<=18446744073709551615):IntKind.wrap .u64 n=n:=by
 unfold IntKind.wrap IntKind.bits IntKind.signed;grind
def wrap_u32{n:Int}(h:0<=n)(a:n<=4294967295):IntKind.wrap .u32 n=n:=by
 unfold IntKind.wrap IntKind.bits IntKind.signed;grind
def wrap_i32{n:Int}(h: -2147483648<=n)(a:n<=2147483647):IntKind.wrap .i32 n=n:=by
 unfold IntKind.wrap IntKind.bits IntKind.signed;grind
def wrap_u16{n:Int}(h:0<=n)(a:n<=65535):IntKind.wrap .u16 n=n:=by
 unfold IntKind.wrap IntKind.bits IntKind.signed;grind
def wrap_u8{n:Int}(h:0<=n)(a:n<=255):IntKind.wrap .u8 n=n:=by
 unfold IntKind.wrap IntKind.bits IntKind.signed;grind
def S(l:lB):AV:=.str ⟨l.toArray⟩
theorem apx(l:lB): (⟨l.toArray⟩:ByteArray).size=l.length:=by rfl
def o(d:Nat)(i:I):aR:=⟨none,some d,i⟩
def u(i:I):aR:=⟨none,none,i⟩
def gt(t:Nat)(d:oN)(i:I):aR:=⟨some (t,true),d,i⟩
def gf(t:Nat)(d:oN)(i:I):aR:=⟨some (t,false),d,i⟩
def ci(n:Int):aq:=.c (.int .i64 n)
def cf(f:Nat):aq:=.c (.fn (.func f) [] [])
def lZ(P:Program)(f:Nat)(pf:PF):Prop:= ∃rows fn,P.funcs[f]?=some fn/\CU P rows fn=some pf
section
variable{X:Ctx}{f:FuncId}{rd:Bool}{fr:Fr}{E:AS}{Q:bR}{e:Env}{ms:lN}{K Kp:AV->AS->Prop}
def apy{i:I}{os:List aR}:dH X (gt t d i::os) ⟨e,ms⟩ E Q=
 yN (e t) true (aS X i (e.set t (.bool true)) E (λv a=>dH X os (Fr.put ⟨e.set t (.bool true),ms⟩ d v) a Q) (λv a=>Q (.panic v) ⟨e.set t (.bool true),ms⟩ a))
  (dH X os (Fr.put ⟨e.set t (.bool false),ms⟩ d .undef) E Q) (dH X os (Fr.put ⟨e,ms⟩ d .undef) E Q):=Xj
def apz{i:I}{os:List aR}:dH X (gf t d i::os) ⟨e,ms⟩ E Q=
 yN (e t) false (aS X i (e.set t (.bool false)) E (λv a=>dH X os (Fr.put ⟨e.set t (.bool false),ms⟩ d v) a Q) (λv a=>Q (.panic v) ⟨e.set t (.bool false),ms⟩ a))
  (dH X os (Fr.put ⟨e.set t (.bool true),ms⟩ d .undef) E Q) (dH X os (Fr.put ⟨e,ms⟩ d .undef) E Q):=Xj
end
theorem Xq:aq.get e (.t i)=e i:=rfl
theorem Xr:aq.get e (.c v)=v:=rfl
theorem Xs{n:Int}:aq.get e (ci n)= .int .i64 n:=rfl
theorem Xt{f:Nat}:aq.get e (cf f)= .fn (.func f) [] []:=rfl
def N4{X:Ctx}(pf:PF){args:lA}{H:List ae}{a:aV}(b:X.bW f=none)(g:X.code f=some pf)(c:Nat.ble args.length pf.ntmps=true)
 (h: ∀n,H.length=n->wp X f false pf.body ⟨ds args,[]⟩ ⟨H,none⟩ (ee X n lo pf.results (· =a))):D X (.fn (.func f) [] []) args ⟨H,lo⟩=some a:=by grind [Nat.le_of_ble_eq_true,Xk]
def apA{X:Ctx}(pf:PF){args:lA}{H:List ae}{R:aV->Prop}(b:X.bW f=none)(g:X.code f=some pf)(c:Nat.ble args.length pf.ntmps=true)
 (h: ∀n,H.length=n->wp X f false pf.body ⟨ds args,[]⟩ ⟨H,none⟩ (ee X n lo pf.results R)): ∃a,D X (.fn (.func f) [] []) args ⟨H,lo⟩=some a/\R a:=by simp_all[apN,N3]
theorem Xu{X:Ctx}{E:AS}:gp X E e [.t t]=some (e t):=rfl
theorem apB{X:Ctx}{E:AS}{u:Nat}:gp X E e [.t t,.t u]=some (.az [e t,e u]):=rfl
theorem yS{E:AS}:dZ E []=some E:=rfl
def Dx(x:AV)(i:Nat):Option AV:=match x with|.az vs=>vs[i]?|_=>none
def Xv(agg:Bool)(n off:Nat)(x:AV):Option AV:=match x with|.agg cs=>part agg n cs off|_=>none
def nU(E:AS)(x:AV)(tg:Option TypeId):Option (AV×AS):=if x.cp=false then some (.ptr E.heap.length 0,E.push (.box x.cells tg))else none
def N5(z:lA)(a:List (Nat×Nat×AV)):Option AV:=(eJ z a).map .agg
def N6(z:lA)(len:Nat)(a:List (Nat×Nat×AV)):Option AV:=(eJ (List.replicate len z).flatten a).map λcs=>.sl (chunks z.length len cs) true
def N7(E:AS)(ty:TypeId)(z:lA)(len:Nat)(a:List (Nat×Nat×AV)):Option (AV×AS):=
 (eJ (List.replicate len z).flatten a).map λcs=>(.ref E.heap.length 0 z.length 0 len false,E.push (.row 0 z.length ty (chunks z.length len cs)))
def Xw(x:AV):Option AV:=match x with|.dq t v=>some (.dq t v)|_=>none
def HD(x:AV):Option AV:=match x with|.str s=>if s.size<=room then some (.sl (rZ s) false)else none|_=>none
section
variable(X:Ctx)
def kV(os:List aR)(d:Nat)(e:Env)(ms:lN)(Q:bR):AV->AS->Prop:=λv E=>dH X os ⟨e.set d v,ms⟩ E Q
def kU(os:List aR)(e:Env)(ms:lN)(Q:bR):AV->AS->Prop:=λ_ E=>dH X os ⟨e,ms⟩ E Q
def kP(e:Env)(ms:lN)(Q:bR):AV->AS->Prop:=λv E=>Q (.panic v) ⟨e,ms⟩ E
def okV(r:Option AV)(K:AV->AS->Prop)(E:AS):Prop:=match r with|some v=>K v E|none=>False
def wx(r:Option AS)(K:AV->AS->Prop):Prop:=match r with|some E=>K .undef E|none=>False
def uO(r:Option (AV×AS))(K:AV->AS->Prop):Prop:=match r with|some p=>K p.1 p.2|none=>False
def okB(r:Option Bool)(a:Bool)(K:AV->AS->Prop)(E:AS):Prop:=match r with|some b=>K (.bool (if a then !b else b)) E|none=>False
def Xx(k:IntKind)(x:AV)(K:AV->AS->Prop)(E:AS):Prop:=match x with|.int _ n=>K (.int k (k.wrap n)) E|_=>False
def N8(c a b:AV)(K:AV->AS->Prop)(E:AS):Prop:=match c with|.bool t=>K (if t then a else b) E|_=>False
def Xy(r:Option (List lA))(ty:TypeId)(sz bytes:Nat)(s:AV)(K:AV->AS->Prop)(E:AS):Prop:=match r with|some ys=>uO (dL E ty sz bytes s ys) K|none=>False
def nV(f:FuncId)(rd:Bool)(a b:PC)(fr:Fr)(E:AS)(Q:bR)(c:AV):Prop:=Hx c true (wp X f rd a fr E Q) (wp X f rd b fr E Q)
def gK(t:Nat)(b:Bool)(d:oN)(i:I)(os:List aR)(e:Env)(ms:lN)(E:AS)(Q:bR)(c:AV):Prop:=
 yN c b (aS X i (e.set t (.bool b)) E (match d with|some d=>kV X os d (e.set t (.bool b)) ms Q|none=>kU X os (e.set t (.bool b)) ms Q) (kP (e.set t (.bool b)) ms Q))
  (dH X os (Fr.put ⟨e.set t (.bool (!b)),ms⟩ d .undef) E Q) (dH X os (Fr.put ⟨e,ms⟩ d .undef) E Q)
end
section
variable{X:Ctx}{f:FuncId}{rd:Bool}{fr:Fr}{E:AS}{Q:bR}{e:Env}{ms:lN}{K Kp:AV->AS->Prop}{t:Nat}{d:oN}{i:I}{os:List aR}{dd:Nat}
theorem jO{r:Option AV}:df r (λv=>K v E)=okV r K E:=by cases r<;>rfl
theorem N9{r:Option AS}:df r (λa=>K .undef a)=wx r K:=by cases r<;>rfl
theorem Xz{r:Option (AV×AS)}:df r (λp=>K p.1 p.2)=uO r K:=by cases r<;>rfl
def XD:dH X (o dd i::os) ⟨e,ms⟩ E Q=aS X i e E (kV X os dd e ms Q) (kP e ms Q):=N0
def XE:dH X (u i::os) ⟨e,ms⟩ E Q=aS X i e E (kU X os e ms Q) (kP e ms Q):=N0
def Oa:dH X (gt t d i::os) ⟨e,ms⟩ E Q=gK X t true d i os e ms E Q (e t):=by
 rw[apy];cases d<;>rfl
def Ob:dH X (gf t d i::os) ⟨e,ms⟩ E Q=gK X t false d i os e ms E Q (e t):=by
 rw[apz];cases d<;>rfl
theorem XF:kV X os dd e ms Q v E=dH X os ⟨e.set dd v,ms⟩ E Q:=rfl
theorem XG:kU X os e ms Q v E=dH X os ⟨e,ms⟩ E Q:=rfl
theorem XH:kP e ms Q v E=Q (.panic v) ⟨e,ms⟩ E:=rfl
theorem XI:okV (some v) K E=K v E:=rfl
def XJ{c:Prop}[Decidable c]{v:Option AV}:okV (if c then v else none) K E=(c/\okV v K E):=by split<;>simp[*,okV]
theorem XK:wx (some E) K=K .undef E:=rfl
def XL{c:Prop}[Decidable c]{v:Option AS}:wx (if c then v else none) K=(c/\wx v K):=by split<;>simp[*,wx]
theorem XM:uO (some (v,E)) K=K v E:=rfl
theorem XN{b:Bool}:okB (some b) false K E=K (.bool b) E:=rfl
theorem XO{b:Bool}:okB (some b) true K E=K (.bool (!b)) E:=rfl
theorem XP{k:IntKind}{n:Int}:Xx k (.int k' n) K E=K (.int k (k.wrap n)) E:=rfl
theorem XQ{a b:AV}:N8 (.bool true) a b K E=K a E:=rfl
theorem XR{a b:AV}:N8 (.bool false) a b K E=K b E:=rfl
theorem XS{ys:List lA}{ty:TypeId}{bytes:Nat}{s:AV}:Xy (some ys) ty sz bytes s K E=uO (dL E ty sz bytes s ys) K:=rfl
def Oc{c:aq}{a:PC}:wp X f rd (.cond c a b) fr E Q=nV X f rd a b fr E Q (c.get fr.env):=wp_cond
def XT{a:PC}:nV X f rd a b fr E Q (.bool true)=wp X f rd a fr E Q:=by simp[nV,Hy]
def XU{a:PC}:nV X f rd a b fr E Q (.bool false)=wp X f rd b fr E Q:=by simp[nV,Hy]
def cb{a:PC}{p:Prop}[Decidable p]:nV X f rd a b fr E Q (.bool (decide p))=((p->wp X f rd a fr E Q)/\ (¬p->wp X f rd b fr E Q)):=by simp[nV,Hy]
def XV{a:PC}:nV X f rd a b fr E Q (.bool (!c))=nV X f rd b a fr E Q (.bool c):=by cases c<;>simp[nV,Hy]
theorem XW{b:Bool}{c:lA}:gK X t b (some dd) i os e ms E Q (.az c)=dH X os ⟨e.set dd .undef,ms⟩ E Q:=rfl
theorem XX{b:Bool}{c:lA}:gK X t b none i os e ms E Q (.az c)=dH X os ⟨e,ms⟩ E Q:=rfl
def XY:gK X t true (some dd) i os e ms E Q (.bool true)=aS X i (e.set t (.bool true)) E (kV X os dd (e.set t (.bool true)) ms Q) (kP (e.set t (.bool true)) ms Q):=by simp[gK,HA]
def XZ:gK X t false (some dd) i os e ms E Q (.bool false)=aS X i (e.set t (.bool false)) E (kV X os dd (e.set t (.bool false)) ms Q) (kP (e.set t (.bool false)) ms Q):=by simp[gK,HA]
def X7:gK X t true d i os e ms E Q (.bool false)=dH X os (Fr.put ⟨e.set t (.bool false),ms⟩ d .undef) E Q:=by simp[gK,HA]
def X8:gK X t false d i os e ms E Q (.bool true)=dH X os (Fr.put ⟨e.set t (.bool true),ms⟩ d .undef) E Q:=by simp[gK,HA]
def X9{b:Bool}{p:Prop}[Decidable p]:gK X t b d i os e ms E Q (.bool (decide p))=((p->gK X t b d i os e ms E Q (.bool true))/\ (¬p->gK X t b d i os e ms E Q (.bool false))):=by
 by_cases h:p<;>simp[h]
theorem Ya:aS X (.mov x) e E K Kp=(K (x.get e) E):=by rfl
def Yb{c:aq}{a:aq}{b:aq}:aS X (.pick c a b) e E K Kp=(N8 (c.get e) (a.get e) (b.get e) K E):=by
 first|rfl|rfl|rfl|rfl| (rw[aoX];cases c.get e<;>rfl)
theorem Yc:aS X (.alloc z tg) e E K Kp=(K (.ptr E.heap.length 0) (E.push (.box z tg))):=by rfl
def Yd{agg:Bool}{a:aq}:aS X (.load agg n a) e E K Kp=(okV (cq X E agg n (a.get e)) K E):=by grind [ao2,jO]
def Ye{a:aq}{v:aq}:aS X (.store n a v) e E K Kp=(wx (kq E n (a.get e) (v.get e)) K):=by grind [ao3,N9]
def Yf:aS X (.nilck x) e E K Kp=(okV (wi (x.get e)) K E):=by grind [ao4,jO]
def Yg{a:BinOp}:aS X (.bin a x y) e E K Kp=(okV (dB a (x.get e) (y.get e)) K E):=by grind [ao5,jO]
def Yh{a:BinOp}:aS X (.shf a x y) e E K Kp=(okV (k9 a (x.get e) (y.get e)) K E):=by grind [ao6,jO]
def Yi{k:EK}:aS X (.eq k x y) e E K Kp=(okB (dJ k (x.get e) (y.get e)) false K E):=by
 first|rfl|rfl|rfl|rfl| (rw[ao7];cases dJ k (x.get e) (y.get e)<;>rfl)
def Yj{k:EK}:aS X (.ne k x y) e E K Kp=(okB (dJ k (x.get e) (y.get e)) true K E):=by
 first|rfl|rfl|rfl|rfl| (rw[ao8];cases dJ k (x.get e) (y.get e)<;>rfl)
def Yk{a:UnOp}:aS X (.un a x) e E K Kp=(okV (x6 a (x.get e)) K E):=by grind [ao9,jO]
def Yl{k:IntKind}:aS X (.conv k x) e E K Kp=(Xx k (x.get e) K E):=by
 first|rfl|rfl|rfl|rfl| (rw[apa];cases x.get e<;>rfl)
theorem Ym{t:TypeId}:aS X (.mki t x) e E K Kp=(K (.dq t (x.get e)) E):=by rfl
theorem Yn{f:Fn}{first:List aq}{cap:List aq}:aS X (.mkf f first cap) e E K Kp=(K (.fn f (first.map (aq.get e)) (cap.map (aq.get e))) E):=by rfl
theorem Yo:aS X (.nO) e E K Kp=(K (.mp E.heap.length) (E.push (.map []))):=by rfl
def Yp{lo:Option aq}{a:Option aq}:aS X (.slstr x lo a) e E K Kp=(okV (uB (x.get e) (lo.map (aq.get e)) (a.map (aq.get e))) K E):=by grind [apc,jO]
def Yq{lo:Option aq}{b:Option aq}{a:Option aq}:aS X (.slsl n x lo b a) e E K Kp=(okV (gJ n (x.get e) (lo.map (aq.get e)) (b.map (aq.get e)) (a.map (aq.get e))) K E):=by grind [apd,jO]
def Yr{lo:Option aq}{a:Option aq}:aS X (.slarr n sz x lo a) e E K Kp=(okV (qz X n sz (x.get e) (lo.map (aq.get e)) (a.map (aq.get e))) K E):=by grind [ape,jO]
def Ys:aS X (.faddr n x) e E K Kp=(okV (wg X n (x.get e)) K E):=by grind [apf,jO]
def Yt{i:aq}:aS X (.iaddra n sz x i) e E K Kp=(okV (uD X n sz (x.get e) (i.get e)) K E):=by grind [aph,jO]
def Yu{i:aq}:aS X (.iaddrs sz x i) e E K Kp=(okV (kr sz (x.get e) (i.get e)) K E):=by grind [api,jO]
def Yv{agg:Bool}{i:aq}:aS X (.idxa agg n sz x i) e E K Kp=(okV (qB agg n sz (x.get e) (i.get e)) K E):=by grind [apj,jO]
def Yw{i:aq}:aS X (.idxs x i) e E K Kp=(okV (x7 (x.get e) (i.get e)) K E):=by grind [apk,jO]
def Yx{b:EK}{z:AV}{m:aq}{k:aq}{a:Bool}:aS X (.lookup b z m k a) e E K Kp=(okV (jJ X.gl E b z (m.get e) (k.get e) a) K E):=by grind [apl,jO]
def Yy{a:EK}{m:aq}{k:aq}{v:aq}:aS X (.oQ a m k v) e E K Kp=(wx (ml E a (m.get e) (k.get e) (v.get e)) K):=by grind [apm,N9]
def Yz{z:AV}{t:TypeId}{a:Bool}:aS X (.ta z x t a) e E K Kp=(okV (Ar z (x.get e) t a) K E):=by grind [apn,jO]
def YA{k:EK}:aS X (.len k x) e E K Kp=(okV (gv E k (x.get e)) K E):=by grind [apq,jO]
def YB{ty:TypeId}{bytes:Nat}{s:aq}:aS X (.append ty sz bytes s x) e E K Kp=(Xy (elems E sz (x.get e)) ty sz bytes (s.get e) K E):=by
 first|rfl|rfl|rfl|rfl| (rw[apr];cases elems E sz (x.get e)<;>first|rfl|exact Xz)
def YC{d:aq}{s:aq}:aS X (.copy sz d s) e E K Kp=(uO (r6 E sz (d.get e) (s.get e)) K):=by grind [aps,Xz]
def YD:aS X (.clear z x) e E K Kp=(wx (r7 E z (x.get e)) K):=by grind [apt,N9]
def YE{xs:List aq}:aS X (.max xs) e E K Kp=(okV (gL qA (xs.map (aq.get e))) K E):=by grind [apu,jO]
def YF{xs:List aq}:aS X (.min xs) e E K Kp=(okV (gL wc (xs.map (aq.get e))) K E):=by grind [apv,jO]
def YG{i:Nat}:aS X (.ext x i) e E K Kp=(okV (Dx (x.get e) i) K E):=by
 first|rfl| (rw[apo];exact jO)|rfl|rfl|rfl
def YH{agg:Bool}{off:Nat}:aS X (.fld agg n off x) e E K Kp=(okV (Xv agg n off (x.get e)) K E):=by
 first|rfl| (rw[apg];exact jO)|rfl|rfl|rfl
def YI:aS X (.box x tg) e E K Kp=(uO (nU E (x.get e) tg) K):=by
 first|rfl|rfl|rfl|rfl| (rw[aoY];unfold nU;cases h: (x.get e).cp<;>simp[uO])
def YJ{a:List (Nat×Nat×aq)}:aS X (.build z a) e E K Kp=(okV (N5 z (a.map λp=>(p.1,p.2.1,p.2.2.get e))) K E):=by
 first|rfl|rfl|rfl|rfl| (rw[aoZ];unfold N5;cases eJ z (a.map λp=>(p.1,p.2.1,p.2.2.get e))<;>rfl)
def YK{len:Nat}{a:List (Nat×Nat×aq)}:aS X (.bslice z len a) e E K Kp=(okV (N6 z len (a.map λp=>(p.1,p.2.1,p.2.2.get e))) K E):=by
 first|rfl|rfl|rfl|rfl| (rw[ao0];unfold N6;cases eJ (List.replicate len z).flatten (a.map λp=>(p.1,p.2.1,p.2.2.get e))<;>rfl)
def YL{ty:TypeId}{len:Nat}{a:List (Nat×Nat×aq)}:aS X (.rX ty z len a) e E K Kp=(uO (N7 E ty z len (a.map λp=>(p.1,p.2.1,p.2.2.get e))) K):=by
 first|rfl|rfl|rfl|rfl| (rw[ao1];unfold N7;cases eJ (List.replicate len z).flatten (a.map λp=>(p.1,p.2.1,p.2.2.get e))<;>rfl)
def YM:aS X (.panic x) e E K Kp=(okV (Xw (x.get e)) Kp E):=by
 first|rfl|rfl|rfl|rfl| (rw[apw];cases x.get e<;>rfl)
def YN:aS X (.s2b x) e E K Kp=(okV (HD (x.get e)) K E):=by
 first|rfl|rfl|rfl|rfl| (rw[apb];cases x.get e<;>first|rfl| (rename_i q;simp only[HD];by_cases a:q.size<=room<;>simp only[a,afK,aha]<;>rfl))
end
def R1:=gG @wp_skip<|gG @wp_exit<|gG @wp_ret<|gG @wp_seq<|gG @wp_block<|gG @Oc<|gG @NZ<|gG @W5<|gG @W7<|gG @W8<|gG @W9<|gG @Xa<|gG @Xb<|gG @Xc<|gG @Xd<|gG @Xg<|gG @XD<|gG @XE<|gG @Oa<|gG @Ob<|gG @XF<|gG @XG<|gG @XH<|gG @Xl<|gG @Ya<|gG @Yb<|gG @Yc<|gG @Yd<|gG @Ye<|gG @Yf<|gG @Yg<|gG @Yh<|gG @Yi<|gG @Yj<|gG @Yk<|gG @Yl<|gG @Ym<|gG @Yn<|gG @Yo<|gG @Yp<|gG @Yq<|gG @Yr<|gG @Ys<|gG @Yt<|gG @Yu<|gG @Yv<|gG @Yw<|gG @Yx<|gG @Yy<|gG @Yz<|gG @YA<|gG @YB<|gG @YC<|gG @YD<|gG @YE<|gG @YF<|gG @YG<|gG @YH<|gG @YI<|gG @YJ<|gG @YK<|gG @YL<|gG @YM @YN
def R2:=gG @Xe<|gG @Xf<|gG @XI<|gG @XJ<|gG @XK<|gG @XL<|gG @XM<|gG @XN<|gG @XO<|gG @XP<|gG @XQ<|gG @XR<|gG @XS<|gG @XT<|gG @XU<|gG @XV<|gG @XW<|gG @XX<|gG @XY<|gG @XZ<|gG @X7<|gG @X8<|gG @Fr.Xh<|gG @Fr.Xi<|gG @Xq<|gG @Xr<|gG @Xs<|gG @Xt<|gG @push_mk @set_mk
def R4:=gG @X9 @cb
section
variable{X:Ctx}{f:FuncId}{rd:Bool}{E:AS}{Q:bR}{e:Env}{ms:lN}{K Kp:AV->AS->Prop}{k:IntKind}{a b c:Int}{l m:lB}{n:Nat}{lo:oN}{H L:List ae}{R:aV->Prop}
def YO:dB .add (.int k a) (.int k b)=some (.int k (k.wrap (a+b))):=by simp[dB,mj]
def YP:dB .sub (.int k a) (.int k b)=some (.int k (k.wrap (a-b))):=by simp[dB,mj]
def YQ:dB .mul (.int k a) (.int k b)=some (.int k (k.wrap (a*b))):=by simp[dB,mj]
def YR:dB .quo (.int k a) (.int k b)=if b≠0 then some (.int k (k.wrap (a.tdiv b)))else none:=by
 by_cases h:b=0<;>simp[dB,mj,h]
def YS:dB .rem (.int k a) (.int k b)=if b≠0 then some (.int k (a.tmod b))else none:=by
 by_cases h:b=0<;>simp[dB,mj,h]
def YT:dB .lss (.int k a) (.int k b)=some (.bool (decide (a<b))):=by simp[dB,mj]
def YU:dB .leq (.int k a) (.int k b)=some (.bool (decide (a<=b))):=by simp[dB,mj]
def YW:dB .gtr (.int k a) (.int k b)=some (.bool (decide (b<a))):=by simp[dB,mj]
def YX:dB .geq (.int k a) (.int k b)=some (.bool (decide (b<=a))):=by simp[dB,mj]
def Dy:dB .and (.int k a) (.int k b)=some (.int k (k.wrap (BitVec.ofInt k.bits a&&&BitVec.ofInt k.bits b).toNat)):=by simp[dB,mj,v9]
def HE:dB .or (.int k a) (.int k b)=some (.int k (k.wrap (BitVec.ofInt k.bits a|||BitVec.ofInt k.bits b).toNat)):=by simp[dB,mj,v9]
def Od:dB .xor (.int k a) (.int k b)=some (.int k (k.wrap (BitVec.ofInt k.bits a^^^BitVec.ofInt k.bits b).toNat)):=by simp[dB,mj,v9]
def Oe:dB .andNot (.int k a) (.int k b)=some (.int k (k.wrap (BitVec.ofInt k.bits a&&& ~~~ (BitVec.ofInt k.bits b)).toNat)):=by simp[dB,mj,v9]
def AU:k9 .shl (.int k a) (.int k' b)=if 0<=b then some (.int k (k.wrap (a*2^(min b.toNat k.bits))))else none:=by
 by_cases h:0<=b
 ·have: ¬b<0:=by omega
  simp[k9,wa,h,this]
 ·have:b<0:=by omega
  simp[k9,wa,h,this]
def Dz:k9 .shr (.int k a) (.int k' b)=if 0<=b then some (.int k (a.fdiv (2^(min b.toNat k.bits))))else none:=by
 by_cases h:0<=b
 ·have: ¬b<0:=by omega
  simp[k9,wa,h,this]
 ·have:b<0:=by omega
  simp[k9,wa,h,this]
def eq_int:dJ .int (.int k a) (.int k b)=some (decide (a=b)):=by
 simp only[dJ,qy,afK];grind
theorem YY{x y:Bool}:dJ .bool (.bool x) (.bool y)=some (x==y):=rfl
theorem YZ{x:Bool}:x6 .not (.bool x)=some (.bool !x):=rfl
theorem Y0:x6 .neg (.int k a)=some (.int k (k.wrap (0-a))):=rfl
theorem Y1:gv E .str (S l)=some (.int .i64 l.length):=by rfl
def Y2:x7 (S l) (.int k a)=if 0<=a/\a<l.length then some (.int .u8 (l.getD a.toNat 0).toNat)else none:=by
 simp only[x7,rY,S]
 grind
def apC(i j:Nat): (⟨l.toArray⟩:ByteArray).extract i j=⟨((l.take j).drop i).toArray⟩:=by
 apply ByteArray.ext;simp[ByteArray.data_extract,axf]
def HF:uB (S l) (some (.int k a)) none=if 0<=a/\a<=l.length then some (S (l.drop a.toNat))else none:=by
 simp only[uB,S,gI,lQ,apx];by_cases h:0<=a/\a<=l.length
 ·simp_all[adG,apC]
 grind
theorem Y3: (S l).cp=false:=rfl
theorem Y4: (S l).cells=[S l]:=rfl
theorem Y5: (S l).refs=0:=rfl
def Y6:ee X n lo [.t t] R .ret ⟨e,[]⟩ E=R (.ret (finish n lo (e t) E).1 (finish n lo (e t) E).2):=by
 simp[ee,dZ,Xu]
def Y7{u:Nat}:ee X n lo [.t t,.t u] R .ret ⟨e,[]⟩ E=R (.ret (finish n lo (.az [e t,e u]) E).1 (finish n lo (.az [e t,e u]) E).2):=by
 simp[ee,dZ,apB]
def Y8:ee X n lo [] R .ret ⟨e,[]⟩ E=R (.ret (finish n lo (.az []) E).1 (finish n lo (.az []) E).2):=by
 simp[ee,dZ,gp,kx]
def Y9:ee X n lo [] R .normal ⟨e,[]⟩ E=R (.ret (finish n lo (.az []) E).1 (finish n lo (.az []) E).2):=by
 simp[ee,dZ,gp,kx]
def DA:finish n lo v ⟨H,none⟩=if v.refs<=n then(v,⟨H.take n,lo⟩)else match freeze ⟨H,none⟩ n 12 v with|some v'=>(v',⟨H.take n,lo⟩)|none=>(v,⟨H,gZ lo none⟩):=by
 by_cases h:v.refs<=n
 ·rw[adG h,Xp rfl h]
 ·rw[adE h];rfl
def HG:finish n lo v ⟨H,some j⟩=if n<=j then(if v.refs<=n then(v,⟨H.take n,lo⟩)else match freeze ⟨H,some j⟩ n 12 v with|some v'=>(v',⟨H.take n,lo⟩)|none=>(v,⟨H,gZ lo (some j)⟩))else(v,⟨H,gZ lo (some j)⟩):=by
 by_cases d:n<=j
 ·rw[adG d];by_cases h:v.refs<=n
  ·rw[adG h,Xp (by grind) h]
  ·rw[adE h];simp only[finish,agQ,adG d];rfl
 ·simp only[finish,agQ,adE d]
def Za(h:H.length=n):H.take n=H:=by grind
theorem Zb{agg:Bool}{m id off:Nat}{lo:oN}:cq X ⟨H,lo⟩ agg m (.ptr id off)=match H[id]? with
 |some (.box cs _)=>part agg m cs off
 |_=>none:=rfl
theorem Zc{agg:Bool}{m off:Nat}{cs:lA}:cq X E agg m (.fB cs off)=part agg m cs off:=rfl
theorem Zd{m id off:Nat}{v:AV}{lo:oN}:kq ⟨H,lo⟩ m (.ptr id off) v=match H[id]? with
 |some (.box cs tg)=>if v.cp=false/\v.cells.length=m/\off+m<=cs.length then some (AS.set ⟨H,lo⟩ id (.box (aO cs off v.cells) tg) v.refs)else none
 |_=>none:=rfl
theorem Ze{m:Nat}{cs:lA}{off:Nat}:part false m cs off=cs[off]?:=rfl
theorem Zf{m:Nat}{cs:lA}{off:Nat}:part true m cs off=if off+m<=cs.length then some (.agg ((cs.drop off).take m))else none:=rfl
theorem Zg{id off:Nat}:wi (.ptr id off)=some (.ptr id off):=rfl
theorem Zh{id off:Nat}:wi (.dw id aj i off)=some (.dw id aj i off):=rfl
theorem Zi{cs:lA}{off:Nat}:wi (.fB cs off)=some (.fB cs off):=rfl
theorem Zj{id off m:Nat}:wg X m (.ptr id off)=some (.ptr id (off+m)):=rfl
theorem Zk{id off m:Nat}:wg X m (.dw id aj i off)=some (.dw id aj i (off+m)):=rfl
theorem Zl{cs:lA}{off m:Nat}:wg X m (.fB cs off)=some (.fB cs (off+m)):=rfl
theorem Zm:nU E (.int k a) tg=some (.ptr E.heap.length 0,E.push (.box [.int k a] tg)):=rfl
theorem Zn{b:Bool}:nU E (.bool b) tg=some (.ptr E.heap.length 0,E.push (.box [.bool b] tg)):=rfl
theorem Zo:nU E (S l) tg=some (.ptr E.heap.length 0,E.push (.box [S l] tg)):=rfl
theorem Zp{cs:lA}:nU E (.agg cs) tg=some (.ptr E.heap.length 0,E.push (.box cs tg)):=rfl
def Zq{cs:lA}:aO cs 0 vs=vs++cs.drop vs.length:=by simp[aO]
def Zr{cs:lA}{c:AV}{off:Nat}:aO (c::cs) (off+1) vs=c::aO cs off vs:=by
 simp[aO,Nat.add_right_comm]
theorem Zs{k:IntKind}{n:Int}:AV.cp (.int k n)=false:=rfl
theorem Zt{k:IntKind}{n:Int}:AV.cells (.int k n)=[.int k n]:=rfl
theorem Zu{b:Bool}:AV.cp (.bool b)=false:=rfl
theorem Zv{b:Bool}:AV.cells (.bool b)=[.bool b]:=rfl
theorem Zw{o:Nat}:AV.cp (.ptr i o)=false:=rfl
theorem Zx{o:Nat}:AV.cells (.ptr i o)=[.ptr i o]:=rfl
theorem Zy{v o:Nat}:AV.cp (.dw i v j o)=false:=rfl
theorem ZA{v o:Nat}:AV.cells (.dw i v j o)=[.dw i v j o]:=rfl
theorem ZB{cs:lA}{o:Nat}:AV.cp (.fB cs o)=false:=rfl
theorem ZC{cs:lA}{o:Nat}:AV.cells (.fB cs o)=[.fB cs o]:=rfl
theorem ZD:AV.cp (.eI)=false:=rfl
theorem ZE:AV.cells (.eI)=[.eI]:=rfl
theorem ZF:AV.cp (.av)=false:=rfl
theorem ZG:AV.cells (.av)=[.av]:=rfl
theorem ZH{c:Bool}:AV.cp (.sl af c)=false:=rfl
theorem ZI{c:Bool}:AV.cells (.sl af c)=[.sl af c]:=rfl
theorem ZJ{v z o l:Nat}{c:Bool}:AV.cp (.ref i v z o l c)=false:=rfl
theorem ZK{v z o l:Nat}{c:Bool}:AV.cells (.ref i v z o l c)=[.ref i v z o l c]:=rfl
theorem ZL{z o l:Nat}:AV.cp (.fH i z o l)=false:=rfl
theorem ZM{z o l:Nat}:AV.cells (.fH i z o l)=[.fH i z o l]:=rfl
theorem ZN:AV.cp (.mi)=false:=rfl
theorem ZO:AV.cells (.mi)=[.mi]:=rfl
theorem ZP:AV.cp (.mp i)=false:=rfl
theorem ZQ:AV.cells (.mp i)=[.mp i]:=rfl
theorem ZR{f:Fn}{a b:lA}:AV.cp (.fn f a b)=false:=rfl
theorem ZS{f:Fn}{a b:lA}:AV.cells (.fn f a b)=[.fn f a b]:=rfl
theorem ZT:AV.cp (.dA)=false:=rfl
theorem ZU:AV.cells (.dA)=[.dA]:=rfl
theorem ZV{t:TypeId}:AV.cp (.dq t v)=false:=rfl
theorem ZW{t:TypeId}:AV.cells (.dq t v)=[.dq t v]:=rfl
theorem ZX:AV.cp (.eZ)=false:=rfl
theorem ZY:AV.cells (.eZ)=[.eZ]:=rfl
theorem ZZ{g:Nat}:AV.cp (.dR g)=false:=rfl
theorem Z0{g:Nat}:AV.cells (.dR g)=[.dR g]:=rfl
theorem Z1{cs:lA}:AV.cp (.agg cs)=false:=rfl
theorem Z2{cs:lA}:AV.cells (.agg cs)=cs:=rfl
theorem Z3{k:IntKind}{n:Int}:AV.refs (.int k n)=0:=by rfl
theorem Z4{b:Bool}:AV.refs (.bool b)=0:=by rfl
theorem Z5{o:Nat}:AV.refs (.ptr i o)=i+1:=by rfl
theorem Z6:AV.refs (.av)=0:=by rfl
theorem Z7{v z o l:Nat}{c:Bool}:AV.refs (.ref i v z o l c)=i+1:=by rfl
theorem Z8:AV.refs (.mp i)=i+1:=by rfl
theorem Z9{f:Nat}{a b:lA}:AV.refs (.fn (.func f) a b)=max (aL a) (aL b):=by rfl
theorem aaa{t:TypeId}:AV.refs (.dq t v)=v.refs:=by rfl
theorem aab{cs:lA}:AV.refs (.agg cs)=aL cs:=by rfl
theorem aac{cs:lA}:AV.refs (.az cs)=aL cs:=by rfl
theorem aad{c:Bool}:AV.refs (.sl af c)=ca af:=by rfl
theorem aae:aL []=0:=by rfl
theorem aaf{a:AV}{as:lA}:aL (a::as)=max a.refs (aL as):=by rfl
theorem aag{a:AV}{as:lA}:ds (a::as) 0=a:=rfl
theorem aah{a:AV}{as:lA}{n:Nat}:ds (a::as) (n+1)=ds as n:=rfl
theorem aai{n:Nat}:ds [] n= .undef:=rfl
theorem aaj: (!true)=false:=rfl
theorem aak: (!false)=true:=rfl
end
structure Rd(E:AS)(v:AV)(sz:Nat)(af:List lA):Prop where
 kind:match v with|.av|.sl .. |.ref .. =>True|_=>False
 eq:elems E sz v=some af
 aCf: ∀el∈af,el.length=sz
def gy(v:AV)(j off:Nat):AV:=
 match v with
 |.sl af _=>.fB (af.getD j []) off
 |.ref id aj _ o _ _=>.dw id aj (o+j) off
 |_=>.qx
section
variable{X:Ctx}{E:AS}{v:AV}{sz:Nat}{af:List lA}{k:IntKind}{a:Int}
def Rd.len(h:Rd E v sz af):gv E .sl v=some (.int .i64 af.length):=by
 obtain⟨i,d,j⟩:=h;cases v<;>simp only[]at i
 ·cases d;rfl
 ·simp only[elems]at d;split at d<;>cases d;rfl
 ·simp only[elems]at d;split at d
  ·split at d
   ·simp only[gv];grind
   grind
  grind
def Rd.addr(h:Rd E v sz af):kr sz v (.int k a)=if 0<=a/\a<af.length then some (gy v a.toNat 0)else none:=by
 obtain⟨o,d,p⟩:=h;cases v<;>simp only[]at o
 ·cases d;have: ¬(0<=a/\a< (([]:List lA).length:Int)):=by simp
  rw[adE this];rfl
 ·simp only[elems]at d;simp only[kr,rY,gy]
  grind
 ·rename_i id aj z off len cF;simp only[elems]at d;split at d
  ·split at d
   ·rename_i j;cases d;simp only[kr,rY,gy];have e: ((List.take len (List.drop off (by assumption))).length:Nat)=len:=by rw[afC,al3];omega
    rw[e];by_cases i:0<=a/\a<len
    ·rw[adG ⟨i.1,i.2,j.2.2.1⟩,adG i]
    ·rw[adE (λh=>i ⟨h.1,h.2.1⟩),adE i]
   grind
  grind
def Rd.load(h:Rd E v sz af){off:Nat}{agg:Bool}(r:j<af.length):cq X E agg n (gy v j off)=part agg n (af.getD j []) off:=by
 obtain⟨q,d,s⟩:=h;cases v<;>simp only[]at q
 ·simp only[elems]at d;grind
 ·simp only[elems]at d;split at d<;>cases d;rfl
 ·simp only[elems]at d;split at d
  ·rename_i v' o ty i p;split at d
   ·simp only[gy,cq,p]
    grind
   grind
  grind
theorem Rd.sl{af:List lA}(h: ∀el∈af,el.length=sz):Rd E (.sl af c) sz af:=
 ⟨trivial,by simp only[elems];grind,h⟩
theorem Rd.av:Rd E .av sz []:=⟨trivial,rfl,by simp⟩
def Rd.ext{H L:List ae}(h:Rd ⟨H,lo⟩ v sz af):Rd ⟨H++L,ak⟩ v sz af:=by
 obtain⟨i,d,j⟩:=h;refine⟨i,?_,j⟩;cases v<;>simp only[]at i
 ·exact d
 ·exact d
 ·simp only[elems]at d⊢
  grind
end
def Of{f:AV->AV->Option AV}{x:AV}:gL f [x]=some x:=by rw[gL]
def aal{f:AV->AV->Option AV}{x y z:AV}{r:lA}(h:f x y=some z):gL f (x::y::r)=gL f (z::r):=by rw[gL,h]
def Og{k:IntKind}{a b:Int}{r:lA}:gL qA (.int k a:: .int k' b::r)=gL qA (.int k (max a b)::r):=by
 refine aal ?_;simp only[qA];grind
def aam{k:IntKind}{a b:Int}{r:lA}:gL wc (.int k a:: .int k' b::r)=gL wc (.int k (min a b)::r):=by
 refine aal ?_;simp only[wc];grind
def Rd.mono{H H':List ae}(h:Rd ⟨H,lo⟩ v sz af)(d:H<+:H'):Rd ⟨H',ak⟩ v sz af:=by
 obtain⟨L,rfl⟩:=d;exact h.ext
def Rv(v:AV)(sz:Nat)(af:List lA):Prop:= ∀E,Rd E v sz af
def Rv.len(h:Rv v sz af){E:AS}:gv E .sl v=some (.int .i64 af.length):=(h E).len
def Rv.addr(h:Rv v sz af){k:IntKind}{a:Int}:kr sz v (.int k a)=if 0<=a/\a<af.length then some (gy v a.toNat 0)else none:=(h ⟨[],none⟩).addr
theorem Rv.load{X:Ctx}(h:Rv v sz af){E:AS}{off:Nat}{agg:Bool}(d:j<af.length):cq X E agg n (gy v j off)=part agg n (af.getD j []) off:=(h E).load d
theorem Rv.sl(h: ∀el∈af,el.length=sz):Rv (.sl af c) sz af:=λ_=>.sl h
theorem Rv.av:Rv .av sz []:=λ_=>.av
def dx{v':AV}{H H':List ae}(h:v=v')(d:H=H'):aV.ret v ⟨H,lo⟩=aV.ret v' ⟨H',lo⟩:=by grind
theorem aan: ((k+m:Nat):Int)=(k:Int)+(m:Int):=by rfl
theorem cast_zero: ((0:Nat):Int)=0:=rfl
def aao{α:Type}[Inhabited α]{g:α->lA}{l:List α}(h:j<l.length): (l.map g).getD j []=g (l.getD j default):=by grind
section
variable{α:Type}{g:α->lA}{l:List α}{v:AV}{sz:Nat}
def Rv.bY(h:Rv v sz (l.map g)){E:AS}:gv E .sl v=some (.int .i64 l.length):=by rw[h.len,afm]
def Rv.cD(h:Rv v sz (l.map g)){k:IntKind}{a:Int}:kr sz v (.int k a)=if 0<=a/\a<l.length then some (gy v a.toNat 0)else none:=by rw[h.addr,afm]
def Rv.di[Inhabited α]{X:Ctx}(h:Rv v sz (l.map g)){E:AS}{off:Nat}{agg:Bool}(d:j<l.length):cq X E agg n (gy v j off)=part agg n (g (l.getD j default)) off:=by
 rw[h.load (by grind),aao d]
def Rd.bY{E:AS}(h:Rd E v sz (l.map g)):gv E .sl v=some (.int .i64 l.length):=by rw[h.len,afm]
def Rd.cD{E:AS}(h:Rd E v sz (l.map g)){k:IntKind}{a:Int}:kr sz v (.int k a)=if 0<=a/\a<l.length then some (gy v a.toNat 0)else none:=by rw[h.addr,afm]
def Rd.di[Inhabited α]{X:Ctx}{E:AS}(h:Rd E v sz (l.map g)){off:Nat}{agg:Bool}(d:j<l.length):cq X E agg n (gy v j off)=part agg n (g (l.getD j default)) off:=by
 rw[h.load (by grind),aao d]
end
def V1:=gG @YO<|gG @YP<|gG @YQ<|gG @YR<|gG @YS<|gG @YT<|gG @YU<|gG @YW<|gG @YX<|gG @Dy<|gG @HE<|gG @Od<|gG @Oe<|gG @AU<|gG @Dz<|gG @eq_int<|gG @YY<|gG @YZ<|gG @Y0<|gG @Y1<|gG @Y2<|gG @HF<|gG @Y3<|gG @Y4<|gG @Y5<|gG @Y6<|gG @Y7<|gG @Y8<|gG @Y9<|gG @Zb<|gG @Zc<|gG @Zd<|gG @Ze<|gG @Zf<|gG @Zg<|gG @Zh<|gG @Zi<|gG @Zj<|gG @Zk<|gG @Zl<|gG @Zm<|gG @Zn<|gG @Zo<|gG @Zp<|gG @Zq<|gG @Zr<|gG @Xo<|gG @Xm @Xn
def V3:type_of% @aag/\type_of% @cast_zero/\type_of% @aan/\type_of% @Int.toNat_natCast/\type_of% @Int.natCast_nonneg/\type_of% @Of/\type_of% @Og/\type_of% @aam/\type_of% @aah/\type_of% @aai/\type_of% @aaj/\type_of% @aak/\type_of% @Option.map_some.{0,0}/\type_of% @Option.map_none.{0,0}/\type_of% @List.map_cons.{0,0}/\type_of% @List.map_nil.{0,0}/\type_of% @not_false_eq_true/\type_of% @true_and/\type_of% @and_true/\type_of% @Nat.zero_le/\type_of% @List.length_cons.{0}/\type_of% @List.length_nil.{0}/\type_of% @List.length_append.{0}/\type_of% @List.length_map.{0,0}/\type_of% @if_true.{1}/\type_of% @if_false.{1}/\type_of% @if_true.{0}/\type_of% @if_false.{0}/\type_of% @ne_eq.{1}/\type_of% @List.cons_append.{0}/\type_of% @List.nil_append.{0}/\type_of% @List.append_nil.{0}/\type_of% @Nat.zero_add/\type_of% @List.length_set.{0}/\type_of% @List.append_assoc.{0}/\type_of% @List.getElem?_cons_zero.{0}/\type_of% @List.getElem?_cons_succ.{0}/\type_of% @List.set_cons_zero.{0}/\type_of% @List.set_cons_succ.{0}/\type_of% @List.drop_succ_cons.{0}/\type_of% @List.drop_zero.{0}/\type_of% @List.take_succ_cons.{0}/\type_of% @List.take_zero.{0}/\type_of% @Nat.max_self/\type_of% @Nat.zero_max/\type_of% @Nat.max_zero:=
 ⟨@aag,@cast_zero,@aan,@aBS,@Int.natCast_nonneg,@Of,@Og,@aam,@aah,@aai,@aaj,@aak,@afo.{0,0},@Option.map_none.{0,0},@aiQ.{0,0},@aqr.{0,0},@axk,@ayz,@alX,@aee,@afx.{0},@anD.{0},@aeb.{0},@afm.{0,0},@afK.{1},@aha.{1},@afK.{0},@aha.{0},@ne_eq.{1},@aii.{0},@ag8.{0},@agT.{0},@akO,@afw.{0},@adK.{0},@ap6.{0},@axt.{0},@List.set_cons_zero.{0},@List.set_cons_succ.{0},@apJ.{0},@amv.{0},@apY.{0},@List.take_zero.{0},@Nat.max_self,@Nat.zero_max,@Nat.max_zero⟩
def F1:=gG @DA @HG
def V2:=gG @Zs<|gG @Zu<|gG @Zw<|gG @Zy<|gG @ZB<|gG @ZD<|gG @ZF<|gG @ZH<|gG @ZJ<|gG @ZL<|gG @ZN<|gG @ZP<|gG @ZR<|gG @ZT<|gG @ZV<|gG @ZX<|gG @ZZ<|gG @Z1<|gG @Zt<|gG @Zv<|gG @Zx<|gG @ZA<|gG @ZC<|gG @ZE<|gG @ZG<|gG @ZI<|gG @ZK<|gG @ZM<|gG @ZO<|gG @ZQ<|gG @ZS<|gG @ZU<|gG @ZW<|gG @ZY<|gG @Z0<|gG @Z2<|gG @Z3<|gG @Z4<|gG @Z5<|gG @Z6<|gG @Z7<|gG @Z8<|gG @Z9<|gG @aaa<|gG @aab<|gG @aac<|gG @aad<|gG @aae @aaf
def hO:List aR->lN
 | []=>[]
 |o::os=>match o.dst with
  |some d=>d::hO os
  |none=>hO os
def Fr.De{fr:Fr}(h:d≠some t): (fr.put d v).env t=fr.env t:=by
 cases d with
 |none=>rfl
 |some d=>
  simp only[Fr.put,Env.set]
  grind
section
variable{X:Ctx}{C:bA}{L:eK}
theorem Oh: ∀ (os:List aR) (fr a:Fr) (E E':AS) (ex:Ex),fo X C os fr E=some (ex,a,E')-> ∀t,t∉hO os->a.env t=fr.env t
 | [],fr,a,E,E',ex,h,t,j=>by simp only[fo,adF,apL]at h;grind
 |o::os,fr,a,E,E',ex,h,t,j=>by
  have k:o.dst≠some t:=by
   intro e;apply j;simp[hO,e]
  have g:t∉hO os:=by
   intro e;apply j;simp only[hO];grind
  simp only[fo]at h;split at h
  ·split at h
   ·rw[Oh os _ _ _ _ _ h t g,Fr.De k]
   ·grind
   grind
  ·rw[Oh os _ _ _ _ _ h t g,Fr.De k]
end
def sr:lN->Nat->Bool
 | [],_=>false
 |a::as,t=>a==t||sr as t
theorem aap{t:Nat}: ∀ {W:lN},sr W t=true↔t∈W
 | []=>by simp[sr]
 |a::as=>by
  simp only[sr,anV,asw,afJ];rw[aap]
  grind
def aaq(b:Bool)(a e:Env)(t:Nat):AV:=match b with|true=>a t|false=>e t
theorem aar{a:Env}:aaq true a e t=a t:=rfl
theorem aas{a:Env}:aaq false a e t=e t:=rfl
section
variable{X:Ctx}{f:FuncId}{rd:Bool}{E nT:AS}{Q:bR}{e:Env}{ms:lN}{t:Nat}{b c:Bool}{d:oN}{i:I}{os:List aR}
def Oi(r:Nat)(v:AV)(ms:lN)(nT:AS)(Q:bR):bR
 |.normal,fr,E'=>fr.env r=v/\fr.marks=ms/\E'=nT
 |ex,fr,E'=>Q ex fr E'
theorem aat{ms a:lN}:Oi r v ms nT Q .normal ⟨e,a⟩ E=(e r=v/\a=ms/\E=nT):=rfl
end
def wy(e:Env):lN->Env->Env
 | [],a=>a
 |t::ts,a=>(wy e ts a).set t (e t)
theorem aau{W:lN}{e g:Env}(h: ∀t,t∉W->g t=e t): ∀a:lN,a.all (λk=>!sr W k)=true->wy e a g=g
 | [],_=>rfl
 |k::a,j=>by
  simp only[avX,afz]at j;have l:k∉W:=by grind [aap]
  simp only[wy];rw[aau h a j.2,<-h k l,Env.N2]
section
variable{X:Ctx}{f:FuncId}{rd:Bool}{E:AS}{Q:bR}{e:Env}{ms:lN}{t:Nat}{b c:Bool}{d:oN}{i:I}{os:List aR}
def apD(nT:AS)(r:Nat)(v:AV)(g:lN)(l:g.all (λk=>!sr (hO os) k)=true)(u:dH X os ⟨e,ms⟩ E (Oi r v ms nT Q))(q: ∀w,Q .normal ⟨(wy e g w).set r v,ms⟩ nT):dH X os ⟨e,ms⟩ E Q:=by
 obtain⟨ex,a,E',h,j⟩:=u;have m:=Oh os _ _ _ _ _ h;refine⟨ex,a,E',h,?_⟩;cases ex with
 |normal=>
  obtain⟨p,o,n⟩:=j;have:=q a.env;rw[aau m g l,<-p,Env.N2,<-o,<-n]at this;omega
 |_=>exact j
def wz(r:Nat)(v:AV)(a:lN){g:AV}(l:e t=g)(j:a.all (λk=>!sr (hO (⟨none,d,i⟩::os)) k)=true)(h:gK X t b d i os e ms E (Oi r v ms E Q) g)(m: ∀n,Q .normal ⟨(wy e a n).set r v,ms⟩ E):gK X t b d i os e ms E Q g:=by
 subst l;have key: ∀Q,gK X t b d i os e ms E Q (e t)=dH X (⟨some (t,b),d,i⟩::os) ⟨e,ms⟩ E Q:=by
  intro Q;cases b
  ·exact Ob.symm
  ·exact Oa.symm
 rw[key]at h⊢;exact apD E r v a j h m
def apE(r:Nat)(v:AV)(ms:lN)(P:AS->Prop)(Q:bR):bR
 |.normal,fr,E'=>fr.env r=v/\fr.marks=ms/\P E'
 |ex,fr,E'=>Q ex fr E'
theorem aav{ms a:lN}{P:AS->Prop}:apE r v ms P Q .normal ⟨e,a⟩ E=(e r=v/\a=ms/\P E):=rfl
def Oj(P:Env->List ae->oN->Prop)(Q:bR):bR
 |.normal,fr,E'=>fr.marks=[]/\P fr.env E'.heap E'.lo
 |ex,fr,E'=>Q ex fr E'
def HH{P:Env->List ae->oN->Prop}{H:List ae}:Oj P Q .normal ⟨e,[]⟩ ⟨H,lo⟩=P e H lo:=by simp[Oj]
def aaw{p q:PC}{a:AV}(P:Env->List ae->oN->Prop)(g:nV X f rd p q ⟨e,[]⟩ E (Oj P Q) a)(l: ∀e H lo,P e H lo->Q .normal ⟨e,[]⟩ ⟨H,lo⟩):nV X f rd p q ⟨e,[]⟩ E Q a:=by
 have key: ∀Q,nV X f rd p q ⟨e,[]⟩ E Q a=wp X f rd (.cond (.c a) p q) ⟨e,[]⟩ E Q:=λQ=>by rw[Oc];rfl
 rw[key]at g⊢;refine wp_mono g ?_;rintro ex ⟨m,ms⟩ ⟨H,lo⟩ h;cases ex with
 |normal=>obtain⟨k,j⟩:=h;grind
 |_=>exact h
end
def qO(n:Nat)(a:AV):FP:=match a with
 |.ptr id off=>.rd id off (Nat.max n 1)
 |.dw .. =>.rr
 |.fB .. =>.no
 |.dR _=>.no
 |_=>.all
def HI(n:Nat)(a:AV):FP:=match a with
 |.ptr id off=>.wr id off n
 |.dw .. =>.app
 |_=>.all
noncomputable def Ol(E E':AS):FP:=open Classical in if E'=E then .q else .all
section
variable{e:Env}{E E':AS}
theorem aax:a0 (.mov x) e E E'= .no:=rfl
theorem aay{c:aq}{a:aq}{b:aq}:a0 (.pick c a b) e E E'= .no:=rfl
theorem aaz{a:List (Nat×Nat×aq)}:a0 (.build z a) e E E'= .no:=rfl
theorem aaA{a:List (Nat×Nat×aq)}:a0 (.bslice z n a) e E E'= .no:=rfl
theorem aaB:a0 (.nilck x) e E E'= .no:=rfl
theorem aaC{a:BinOp}:a0 (.bin a x y) e E E'= .no:=rfl
theorem aaD{a:BinOp}:a0 (.shf a x y) e E E'= .no:=rfl
theorem aaE{k:EK}:a0 (.eq k x y) e E E'= .no:=rfl
theorem aaF{k:EK}:a0 (.ne k x y) e E E'= .no:=rfl
theorem aaG{a:UnOp}:a0 (.un a x) e E E'= .no:=rfl
theorem aaH{a:IntKind}:a0 (.conv a x) e E E'= .no:=rfl
theorem aaI:a0 (.s2b x) e E E'= .no:=rfl
theorem aaJ{ty:TypeId}:a0 (.mki ty x) e E E'= .no:=rfl
theorem aaK{fn:Fn}{g:List aq}{a:List aq}:a0 (.mkf fn g a) e E E'= .no:=rfl
theorem aaL{lo:Option aq}{a:Option aq}:a0 (.slstr x lo a) e E E'= .no:=rfl
theorem aaM{lo:Option aq}{g:Option aq}{a:Option aq}:a0 (.slsl n x lo g a) e E E'= .no:=rfl
theorem aaN{lo:Option aq}{a:Option aq}:a0 (.slarr n m x lo a) e E E'= .no:=rfl
theorem aaO:a0 (.faddr n x) e E E'= .no:=rfl
theorem aaP:a0 (.fld ag n m x) e E E'= .no:=rfl
theorem aaQ:a0 (.iaddra n m x y) e E E'= .no:=rfl
theorem aaR:a0 (.iaddrs n x y) e E E'= .no:=rfl
theorem aaS:a0 (.idxa ag n m x y) e E E'= .no:=rfl
theorem aaT:a0 (.idxs x y) e E E'= .no:=rfl
theorem aaU{a:AV}{ty:TypeId}{g:Bool}:a0 (.ta a x ty g) e E E'= .no:=rfl
theorem aaV:a0 (.ext x n) e E E'= .no:=rfl
theorem aaW{a:List aq}:a0 (.max a) e E E'= .no:=rfl
theorem aaX{a:List aq}:a0 (.min a) e E E'= .no:=rfl
theorem aaY{k:EK}{a:AV}{g:Bool}:a0 (.lookup k a x y g) e E E'= .q:=rfl
theorem aaZ:a0 (.len .sl x) e E E'= .no/\a0 (.len .str x) e E E'= .no/\a0 (.len .map x) e E E'= .q:=⟨rfl,rfl,rfl⟩
theorem aa0{ty:TypeId}:a0 (.append ty n m x y) e E E'= .app:=rfl
theorem aa1:a0 (.alloc z tg) e E E'= .all:=rfl
theorem aa2:a0 (.box x tg) e E E'= .all:=rfl
theorem aa3{ty:TypeId}{a:List (Nat×Nat×aq)}:a0 (.rX ty z n a) e E E'= .all:=rfl
theorem aa4:a0 (.nO) e E E'= .all:=rfl
theorem aa5{k:EK}{c:aq}:a0 (.oQ k x y c) e E E'= .all:=rfl
theorem aa6:a0 (.copy n x y) e E E'= .all:=rfl
theorem aa7:a0 (.clear z x) e E E'= .all:=rfl
theorem aa8:a0 (.panic x) e E E'= .all:=rfl
theorem aa9:a0 (.load ag n x) e E E'=qO n (x.get e):=by rfl
theorem aba:a0 (.store n x y) e E E'=HI n (x.get e):=by rfl
theorem abb{a:List aq}:a0 (.call x a) e E E'=Ol E E':=rfl
def abc:Ol E E= .q:=by simp[Ol]
theorem abd{id off:Nat}:qO n (.ptr id off)= .rd id off (Nat.max n 1)/\qO n (.dw id aj i off)= .rr:=⟨rfl,rfl⟩
theorem abe{off:Nat}{cs:lA}:qO n (.fB cs off)= .no:=rfl
theorem abf{g:Nat}:qO n (.dR g)= .no:=rfl
theorem abg{id off:Nat}:HI n (.ptr id off)= .wr id off n/\HI n (.dw id aj i off)= .app:=⟨rfl,rfl⟩
theorem Rv.qO(h:Rv v sz af){off:Nat}(k:j<af.length):Den.qO n (gy v j off)= .no:=by
 obtain⟨g,a,l⟩:=h ⟨[],none⟩;cases v<;>simp only[]at g
 ·simp only[Den.elems]at a;grind
 ·rfl
 ·trivial
def Rv.apF{α:Type}{g:α->lA}{l:List α}(h:Rv v sz (l.map g)){off:Nat}(a:j<l.length):Den.qO n (gy v j off)= .no:=h.qO (by grind)
theorem HJ{x:FP}:FP.ok .no x=true:=by rfl
def HK{x:FP}:FP.ok x .no=true:=by cases x<;>rfl
theorem HL{b c h g:Nat}:FP.ok (.rd a b c) (.rd a' h g)=true:=rfl
theorem HM{b c:Nat}:FP.ok (.rd a b c) .q=true:=rfl
theorem HN{b c:Nat}:FP.ok .q (.rd a b c)=true:=rfl
theorem HO:FP.ok .q .q=true:=rfl
theorem abh{b c:Nat}:FP.ok .rr (.rd a b c)=true/\FP.ok (.rd a b c) .rr=true/\FP.ok .rr (.wr a b c)=true/\FP.ok (.wr a b c) .rr=true:=⟨rfl,rfl,rfl,rfl⟩
theorem abi:FP.ok .rr .q=true/\FP.ok .q .rr=true/\FP.ok .rr .rr=true:=⟨rfl,rfl,rfl⟩
theorem HP{b c:Nat}:FP.ok (.rd a b c) .app=true:=rfl
theorem HQ{b c:Nat}:FP.ok .app (.rd a b c)=true:=rfl
theorem HR{b c g h:Nat}:FP.ok (.rd a b c) (.wr a' g h)=(a !=a'||b+c<=g||g+h<=b):=rfl
theorem HS{b c g h:Nat}:FP.ok (.wr a b c) (.rd a' g h)=(a !=a'||b+c<=g||g+h<=b):=rfl
end
def qP(bG:List FP)(x:FP):lN->Bool
 | []=>true
 |j::js=>(bG.getD j .all).ok x&&qP bG x js
theorem Om{bG:List FP}{x:FP}: ∀js:lN,js.all (λj=>(bG.getD j .all).ok x)=qP bG x js
 | []=>rfl
 |j::js=>by simp only[avX,qP,Om js]
def kD(X:Ctx)(i:I)(cu:AS)(bG:List FP)(js:lN)(os:List (aR×lN))(d:oN)(e:Env)(ms:lN)(Q:bR):AV->AS->Prop:=λv E=>
 qP bG (a0 i e cu E) js=true/\hH X (bG++[a0 i e cu E]) os (Fr.put ⟨e,ms⟩ d v) E Q
def kF(bG:List FP)(i:I)(d:oN)(js:lN)(os:List (aR×lN))(e:Env)(ms:lN)(Q:bR):AV->AS->Prop:=λv E=>CR bG (⟨none,d,i⟩,js) os=true/\Q (.panic v) ⟨e,ms⟩ E
def abj{X:Ctx}{E:AS}{Q:bR}{ms:lN}{bG:List FP}{js:lN}{os:List (aR×lN)}{i:I}:hH X bG ((⟨none,d,i⟩,js)::os) ⟨e,ms⟩ E Q=aS X i e E (kD X i E bG js os d e ms Q) (kF bG i d js os e ms Q):=by
 apply propext;simp only[hH,aS,gM,gw,afK];cases g:exec X (D X) i e E with
 |none=>simp[qN]
 |some o=>
  cases o with
  |ok v E'=>
   simp only[qN,Om];by_cases a:qP bG (a0 i e E E') js=true
   ·rw[adG a];exact⟨λh=>⟨a,h⟩,λh=>h.2⟩
   ·simp[kD,a]
  |panic v E'=>
   simp only[qN,kF]
   grind
section
variable{X:Ctx}{f:FuncId}{rd:Bool}{E cu:AS}{Q:bR}{e:Env}{ms:lN}{bG:List FP}{js:lN}{os:List (aR×lN)}{i:I}{d:Nat}{v:AV}
def abk:hH X bG [] ⟨e,ms⟩ E Q=Q .normal ⟨e,ms⟩ E:=propext (by simp only[hH,gM];grind)
def abl:hH X bG ((o d i,js)::os) ⟨e,ms⟩ E Q=aS X i e E (kD X i E bG js os (some d) e ms Q) (kF bG i (some d) js os e ms Q):=abj
def abm:hH X bG ((u i,js)::os) ⟨e,ms⟩ E Q=aS X i e E (kD X i E bG js os none e ms Q) (kF bG i none js os e ms Q):=abj
theorem abn:kD X i cu bG js os (some d) e ms Q v E=(qP bG (a0 i e cu E) js=true/\hH X (bG++[a0 i e cu E]) os ⟨e.set d v,ms⟩ E Q):=rfl
theorem abo:kD X i cu bG js os none e ms Q v E=(qP bG (a0 i e cu E) js=true/\hH X (bG++[a0 i e cu E]) os ⟨e,ms⟩ E Q):=rfl
theorem abp{x:FP}:qP bG x []=true:=rfl
theorem abq{x:FP}:qP bG x (j::js)=((bG.getD j .all).ok x&&qP bG x js):=rfl
def abr{H:List ae}:wp X f rd (.uA os) ⟨e,ms⟩ ⟨H,lo⟩ Q=hH X [] (iF H.length os) ⟨e,ms⟩ ⟨H++dM os,lo⟩ Q:=aoW
theorem abt{x y:FP}{l:List FP}: (x::l).getD 0 y=x:=rfl
end
def dt:I->Option ae
 |.alloc z tg=>some (.box z tg)
 |_=>none
theorem abu{d:Nat}{i:I}:aR.gd (o d i)=dt i:=by rfl
theorem abv{i:I}:aR.gd (u i)=dt i:=by rfl
theorem abw{i:I}:aR.gd (gt t d i)=dt i:=by rfl
theorem abx{i:I}:aR.gd (gf t d i)=dt i:=by rfl
def jv(n:Nat)(x:aR)(l:lN)(os:List (aR×lN)):Option ae->List (aR×lN)
 |none=>(x,l)::iF n os
 |some _=>({x with i:=.mov (.c (.ptr n 0))},l)::iF (n+1) os
def zC(os:List (aR×lN)):Option ae->List ae
 |none=>dM os
 |some b=>b::dM os
theorem aby:iF n []=[]:=rfl
def abz{x:aR}{l:lN}{os:List (aR×lN)}:iF n ((x,l)::os)=jv n x l os x.gd:=by
 simp only[iF,lT];cases x.gd<;>rfl
theorem abA{x:aR}{l:lN}{os:List (aR×lN)}:jv n x l os none=(x,l)::iF n os:=rfl
theorem abB{d:Nat}{i:I}{l:lN}{os:List (aR×lN)}{b:ae}:jv n (o d i) l os (some b)=(o d (.mov (.c (.ptr n 0))),l)::iF (n+1) os:=rfl
theorem abC{i:I}{l:lN}{os:List (aR×lN)}{b:ae}:jv n (gt t d i) l os (some b)=(gt t d (.mov (.c (.ptr n 0))),l)::iF (n+1) os:=rfl
theorem abD{i:I}{l:lN}{os:List (aR×lN)}{b:ae}:jv n (gf t d i) l os (some b)=(gf t d (.mov (.c (.ptr n 0))),l)::iF (n+1) os:=rfl
theorem abE:dM []=[]:=rfl
def abF{x:aR}{l:lN}{os:List (aR×lN)}:dM ((x,l)::os)=zC os x.gd:=by
 simp only[dM];cases x.gd<;>rfl
theorem abG{os:List (aR×lN)}:zC os none=dM os:=rfl
theorem abH{os:List (aR×lN)}{b:ae}:zC os (some b)=b::dM os:=rfl
theorem abI:dt (.alloc z tg)=some (.box z tg):=rfl
theorem abJ{a:_}:dt (.mov a)=none:=rfl
theorem abK{h:_}{g:_}{a:_}:dt (.pick h g a)=none:=rfl
theorem abL{g:_}{a:_}:dt (.box g a)=none:=rfl
theorem abM{g:_}{a:_}:dt (.build g a)=none:=rfl
theorem abN{h:_}{g:_}{a:_}:dt (.bslice h g a)=none:=rfl
theorem abO{j:_}{h:_}{g:_}{a:_}:dt (.rX j h g a)=none:=rfl
theorem abP{h:_}{g:_}{a:_}:dt (.load h g a)=none:=rfl
theorem abQ{h:_}{g:_}{a:_}:dt (.store h g a)=none:=rfl
theorem abR{a:_}:dt (.nilck a)=none:=rfl
theorem abS{h:_}{g:_}{a:_}:dt (.bin h g a)=none:=rfl
theorem abT{h:_}{g:_}{a:_}:dt (.shf h g a)=none:=rfl
theorem abU{h:_}{g:_}{a:_}:dt (.eq h g a)=none:=rfl
theorem abV{h:_}{g:_}{a:_}:dt (.ne h g a)=none:=rfl
theorem abW{g:_}{a:_}:dt (.un g a)=none:=rfl
theorem abX{g:_}{a:_}:dt (.conv g a)=none:=rfl
theorem abY{a:_}:dt (.s2b a)=none:=rfl
theorem abZ{g:_}{a:_}:dt (.mki g a)=none:=rfl
theorem ab0{h:_}{g:_}{a:_}:dt (.mkf h g a)=none:=rfl
theorem ab1:dt .nO=none:=rfl
theorem ab2{h:_}{g:_}{a:_}:dt (.slstr h g a)=none:=rfl
theorem ab3{k:_}{j:_}{h:_}{g:_}{a:_}:dt (.slsl k j h g a)=none:=rfl
theorem ab4{k:_}{j:_}{h:_}{g:_}{a:_}:dt (.slarr k j h g a)=none:=rfl
theorem ab5{g:_}{a:_}:dt (.faddr g a)=none:=rfl
theorem ab6{j:_}{h:_}{g:_}{a:_}:dt (.fld j h g a)=none:=rfl
theorem ab7{j:_}{h:_}{g:_}{a:_}:dt (.iaddra j h g a)=none:=rfl
theorem ab8{h:_}{g:_}{a:_}:dt (.iaddrs h g a)=none:=rfl
theorem ab9{k:_}{j:_}{h:_}{g:_}{a:_}:dt (.idxa k j h g a)=none:=rfl
theorem aca{g:_}{a:_}:dt (.idxs g a)=none:=rfl
theorem acb{k:_}{j:_}{h:_}{g:_}{a:_}:dt (.lookup k j h g a)=none:=rfl
theorem acd{j:_}{h:_}{g:_}{a:_}:dt (.oQ j h g a)=none:=rfl
theorem ace{j:_}{h:_}{g:_}{a:_}:dt (.ta j h g a)=none:=rfl
theorem acf{g:_}{a:_}:dt (.ext g a)=none:=rfl
theorem acg{g:_}{a:_}:dt (.len g a)=none:=rfl
theorem ach{k:_}{j:_}{h:_}{g:_}{a:_}:dt (.append k j h g a)=none:=rfl
theorem aci{h:_}{g:_}{a:_}:dt (.copy h g a)=none:=rfl
theorem acj{g:_}{a:_}:dt (.clear g a)=none:=rfl
theorem ack{a:_}:dt (.max a)=none:=rfl
theorem acm{a:_}:dt (.min a)=none:=rfl
theorem acn{g:_}{a:_}:dt (.call g a)=none:=rfl
theorem aco{a:_}:dt (.panic a)=none:=rfl
def N1:=gG @abu<|gG @abv<|gG @abw<|gG @abx<|gG @aby<|gG @abz<|gG @abA<|gG @abB<|gG @abC<|gG @abD<|gG @abE<|gG @abF<|gG @abG<|gG @abH<|gG @abI<|gG @abJ<|gG @abK<|gG @abL<|gG @abM<|gG @abN<|gG @abO<|gG @abP<|gG @abQ<|gG @abR<|gG @abS<|gG @abT<|gG @abU<|gG @abV<|gG @abW<|gG @abX<|gG @abY<|gG @abZ<|gG @ab0<|gG @ab1<|gG @ab2<|gG @ab3<|gG @ab4<|gG @ab5<|gG @ab6<|gG @ab7<|gG @ab8<|gG @ab9<|gG @aca<|gG @acb<|gG @acd<|gG @ace<|gG @acf<|gG @acg<|gG @ach<|gG @aci<|gG @acj<|gG @ack<|gG @acm<|gG @acn @aco
def P1:=gG @abr<|gG @abk<|gG @abl<|gG @abm<|gG @abn<|gG @abo<|gG @abp<|gG @abq<|gG @abt<|gG @aa9<|gG @aba<|gG @abb<|gG @abc<|gG @abd<|gG @abe<|gG @abf<|gG @abg<|gG @HJ<|gG @HK<|gG @HL<|gG @HM<|gG @HN<|gG @HO<|gG @abh<|gG @abi<|gG @HP<|gG @HQ<|gG @HR<|gG @HS<|gG @aax<|gG @aay<|gG @aaz<|gG @aaA<|gG @aaB<|gG @aaC<|gG @aaD<|gG @aaE<|gG @aaF<|gG @aaG<|gG @aaH<|gG @aaI<|gG @aaJ<|gG @aaK<|gG @aaL<|gG @aaM<|gG @aaN<|gG @aaO<|gG @aaP<|gG @aaQ<|gG @aaR<|gG @aaS<|gG @aaT<|gG @aaU<|gG @aaV<|gG @aaW<|gG @aaX<|gG @aaY<|gG @aaZ<|gG @aa0<|gG @aa1<|gG @aa2<|gG @aa3<|gG @aa4<|gG @aa5<|gG @aa6<|gG @aa7 @aa8
def apG{X:Ctx}(pf:PF){args cap:lA}{H:List ae}{a:aV}(g:X.bW f=none)(k:X.code f=some pf)(j:Nat.ble (args++cap).length pf.ntmps=true)
 (h: ∀n,H.length=n->wp X f false pf.body ⟨ds (args++cap),[]⟩ ⟨H,none⟩ (ee X n lo pf.results (· =a))):D X (.fn (.func f) [] cap) args ⟨H,lo⟩=some a:=by grind [Nat.le_of_ble_eq_true,Xk]
def apH{X:Ctx}{rd:Bool}{E:AS}{Q:bR}(m:Nat)(I:Nat->Env->List ae->Prop){H:List ae}(k:Nat)(g:k<=m)(n:I k e H)
  (l: ∀k,k<=m-> ∀e H,I k e H->wp X f rd b ⟨e,[]⟩ ⟨H,none⟩ (λex a E'=>match ex with|.normal=>k<m/\ ∃h H',a=⟨h,[]⟩/\E'=⟨H',none⟩/\I (k+1) h H'|ex=>Q ex a E')):wp X f rd (.loop b) ⟨e,[]⟩ ⟨H,none⟩ Q:=by
 refine wp_loop (S:=Nat) (λk fr E=>k<=m/\ ∃e H,fr=⟨e,[]⟩/\E=⟨H,none⟩/\I k e H) (λk=>m-k) k ⟨g,e,H,rfl,rfl,n⟩ ?_;rintro k fr E ⟨g,e,H,rfl,rfl,j⟩;refine wp_mono (l k g e H j) ?_
 grind
def AW(k m:Nat)(I:Nat->Env->List ae->Prop)(Q:bR):bR:=λex a E'=>match ex with|.normal=>k<m/\ ∃g H',a=⟨g,[]⟩/\E'=⟨H',none⟩/\I (k+1) g H'|ex=>Q ex a E'
def acp{I:Nat->Env->List ae->Prop}{Q:bR}{H:List ae}:AW k m I Q .normal ⟨e,[]⟩ ⟨H,none⟩=(k<m/\I (k+1) e H):=by
 simp only[AW]
 grind
theorem acq{I:Nat->Env->List ae->Prop}{Q:bR}{fr:Fr}{E:AS}:AW k m I Q (.exit i) fr E=Q (.exit i) fr E:=rfl
theorem acr{I:Nat->Env->List ae->Prop}{Q:bR}{fr:Fr}{E:AS}:AW k m I Q .ret fr E=Q .ret fr E:=rfl
theorem acs{I:Nat->Env->List ae->Prop}{Q:bR}{fr:Fr}{E:AS}:AW k m I Q (.panic v) fr E=Q (.panic v) fr E:=rfl
def eN{X:Ctx}{rd:Bool}{Q:bR}(m:Nat)(I:Nat->Env->List ae->Prop){H:List ae}(k:Nat)(a:k<=m)(j:I k e H)
  (h: ∀k,k<=m-> ∀e H,I k e H-> ∀n,H.length=n->wp X f rd b ⟨e,[]⟩ ⟨H,none⟩ (AW k m I Q)):wp X f rd (.loop b) ⟨e,[]⟩ ⟨H,none⟩ Q:=
 apH (E:=⟨H,none⟩) m I k a j λk a e H g=>h k a e H g _ rfl
def AX(k m:Nat)(I:Nat->Env->List ae->oN->Prop)(Q:bR):bR:=λex a E'=>match ex with|.normal=>k<m/\a.marks=[]/\I (k+1) a.env E'.heap E'.lo|ex=>Q ex a E'
def acu{I:Nat->Env->List ae->oN->Prop}{Q:bR}{H:List ae}:AX k m I Q .normal ⟨e,[]⟩ ⟨H,lo⟩=(k<m/\I (k+1) e H lo):=by
 simp[AX]
theorem acv{I:Nat->Env->List ae->oN->Prop}{Q:bR}{fr:Fr}{E:AS}:AX k m I Q (.exit i) fr E=Q (.exit i) fr E:=rfl
theorem acw{I:Nat->Env->List ae->oN->Prop}{Q:bR}{fr:Fr}{E:AS}:AX k m I Q .ret fr E=Q .ret fr E:=rfl
def ja{X:Ctx}{rd:Bool}{Q:bR}(m:Nat)(I:Nat->Env->List ae->oN->Prop){H:List ae}(k:Nat)(g:k<=m)(o:I k e H lo)
  (l: ∀k,k<=m-> ∀e H lo,I k e H lo-> ∀n,H.length=n->wp X f rd b ⟨e,[]⟩ ⟨H,lo⟩ (AX k m I Q)):wp X f rd (.loop b) ⟨e,[]⟩ ⟨H,lo⟩ Q:=by
 refine wp_loop (S:=Nat) (λk fr E=>k<=m/\fr.marks=[]/\I k fr.env E.heap E.lo) (λk=>m-k) k ⟨g,rfl,o⟩ ?_;rintro k ⟨e,ms⟩ ⟨H,lo⟩ ⟨g,a,j⟩;subst a;refine wp_mono (l k g e H lo j _ rfl) ?_;intro ex fr E h;cases ex with
 |normal=>
  obtain⟨r,q,p⟩:=h
  grind
 |_=>exact h
section
variable{S:Type}{I:S->Env->List ae->Prop}{μ:S->Nat}{s:S}{Q:bR}
end
def HT(X:Ctx)(f:FuncId)(rd:Bool)(b:PC)(Q:bR):bR
 |.normal,fr,E=>wp X f rd (.loop b) fr E Q
 |ex,fr,E=>Q ex fr E
section
variable{X:Ctx}{f:FuncId}{rd:Bool}{b:PC}{fr:Fr}{E:AS}{Q:bR}{i:Nat}{v:AV}
theorem acx:HT X f rd b Q .normal fr E=wp X f rd (.loop b) fr E Q:=rfl
theorem acy:HT X f rd b Q (.exit i) fr E=Q (.exit i) fr E:=rfl
theorem acz:HT X f rd b Q .ret fr E=Q .ret fr E:=rfl
theorem acA:HT X f rd b Q (.panic v) fr E=Q (.panic v) fr E:=rfl
end
theorem acB{a:Env}:wy e [] a=a:=rfl
theorem acC{g:Env}{a:lN}:wy e (t::a) g=(wy e a g).set t (e t):=rfl
def acD{p:Prop}[Decidable p]: (!decide p)=decide (¬p):=by simp
theorem acE:hO []=[]:=rfl
theorem acF{i:I}{os:List aR}:hO (o a i::os)=a::hO os:=rfl
theorem acG{i:I}{os:List aR}:hO (u i::os)=hO os:=rfl
theorem acH{i:I}{os:List aR}:hO (gt t (some a) i::os)=a::hO os:=rfl
theorem acI{i:I}{os:List aR}:hO (gf t (some a) i::os)=a::hO os:=rfl
theorem acJ{i:I}{os:List aR}:hO (gt t none i::os)=hO os:=rfl
theorem acK{i:I}{os:List aR}:hO (gf t none i::os)=hO os:=rfl
theorem acL{i:I}{os:List aR}:hO (⟨none,some a,i⟩::os)=a::hO os:=rfl
theorem acM{i:I}{os:List aR}:hO (⟨none,none,i⟩::os)=hO os:=rfl
theorem acN:sr [] t=false:=rfl
theorem acO{as:lN}:sr (a::as) t=(a==t||sr as t):=rfl
def ff: (false=true)=False:=by simp
def tt: (true=true)=True:=by simp
def C1:=gG @aav<|gG @acu<|gG @acv<|gG @acw<|gG @acx<|gG @acy<|gG @acz<|gG @acA<|gG @acp<|gG @acq<|gG @acr<|gG @acs<|gG @aar<|gG @aas<|gG @ar2<|gG @ar5<|gG @awD<|gG @al0<|gG @acB<|gG @acC<|gG @acD<|gG @acE<|gG @acF<|gG @acG<|gG @acH<|gG @acI<|gG @acJ<|gG @acK<|gG @acL<|gG @acM<|gG @acN<|gG @acO<|gG @ff @aat
def aH{X:Ctx}(pf:PF){args:lA}{H:List ae}{a:aV}
 (h: ∀n,H.length=n->wp X f false pf.body ⟨ds args,[]⟩ ⟨H,none⟩ (ee X n lo pf.results (· =a))) (g:X.bW f=none:=by exact rfl) (k:X.code f=some pf:=by exact rfl) (j:Nat.ble args.length pf.ntmps=true:=by exact rfl):D X (.fn (.func f) [] []) args ⟨H,lo⟩=some a:=N4 pf g k j h
def cN{X:Ctx}(pf:PF){args:lA}{H:List ae}{R:aV->Prop}
 (h: ∀n,H.length=n->wp X f false pf.body ⟨ds args,[]⟩ ⟨H,none⟩ (ee X n lo pf.results R)) (g:X.bW f=none:=by exact rfl) (k:X.code f=some pf:=by exact rfl) (j:Nat.ble args.length pf.ntmps=true:=by exact rfl): ∃a,D X (.fn (.func f) [] []) args ⟨H,lo⟩=some a/\R a:=apA pf g k j h
def fJ{X:Ctx}(pf:PF){args cap:lA}{H:List ae}{a:aV}
 (h: ∀n,H.length=n->wp X f false pf.body ⟨ds (args++cap),[]⟩ ⟨H,none⟩ (ee X n lo pf.results (· =a))) (g:X.bW f=none:=by exact rfl) (k:X.code f=some pf:=by exact rfl) (j:Nat.ble (args++cap).length pf.ntmps=true:=by exact rfl):D X (.fn (.func f) [] cap) args ⟨H,lo⟩=some a:=apG pf g k j h
section
variable{P:Program}{X:Ctx}{B:Nat}{aw:World}{dh:List Deferred}
section
variable{C:bA}(hC:fS P B aw C)(hg:fQ X B aw){r:oN}{n nt:Nat}{rows:Bool}
include hC hg
theorem On{c:Array Oper}(k:lN): ∀ (os:List Oper) (is:lN) (l:List aR),is.map (c[·]?)=os.map some->k0 P rows c os=some l->(∀x∈l,∀d,x.dst=some d->d<nt)->
  ∀ (G:Gh) (E:AS) (w:World) (fr:Fr) (a:Act) (res:Ex×Fr×AS) (Q:Exit->Act->World->Prop),aZ P B aw G E w->cK G nt fr.env a.tmps->gN dh G fr.marks a.defers->fo X C l fr E=some res->
  (∀a w,res.1= .normal->mv P B aw dh G E nt res .normal a w->wpOpsIn (W r) n P c Q k a w)->(∀e a w,res.1≠ .normal->mv P B aw dh G E nt res e a w->Q e a w)->wpOpsIn (W r) n P c Q (is++k) a w
 | [],is,l,q,p,s,G,E,w,fr,a,res,Q,hw,he,hm,j,A,z=>by
   have:is=[]:=by simp_all
   subst this;simp only[k0,adF]at p;subst p;simp only[fo,adF]at j;subst j;exact A _ _ rfl ⟨G,G.le_refl,hw,he,hm,.refl E,trivial⟩
 |o::os,is,l,q,p,s,G,E,w,fr,a,res,Q,hw,he,hm,j,A,z=>by
  cases is with
  |nil=>grind
  |cons i is=>
   simp only[aiQ,ax8]at q;obtain⟨H,q⟩:=q;simp only[k0]at p;split at p
   ·rename_i x xs g t;cases p;simp only[aii,wpOpsIn,H];have I:guardOf c o=some x.g:=by
     unfold iY at g;split at g
     ·rename_i J;cases g;exact J
     ·cases g
    have u:x.dst=o.dst:=by
     unfold iY at g;split at g
     ·cases g;rfl
     ·cases g
    have F:=yo he I;simp only[fo]at j;rw[F];split at j
    ·rename_i m;rw[adG m];split at j
     ·rename_i v N hex;refine yp hC hg g (s x (by simp)) hw he hm hex (λb f e Y a' w' M J K U T=>?_) (λb f e=>by cases e);cases e;exact On k os is xs q t (λy D=>s y (by simp[D])) Y N w' _ a' res Q J U T j (λa w e h=>A a w e (h.trans M K)) (λe a w V h=>z e a w V (h.trans M K))
     ·rename_i v N hex;cases j;exact yp hC hg g (s x (by simp)) hw he hm hex (λb f e=>by cases e) (λb f e Z a' w' h=>by cases e;exact z _ _ _ (by simp) h)
     ·cases j
    ·rename_i m;rw[adE m];refine⟨λ_ _=>trivial,?_⟩;obtain⟨S,R,O⟩:=qH (a:=a) he (s x (by simp)) (v:=.undef) (v':=undef) yn;rw[<-u];exact On k os is xs q t (λy D=>s y (by simp[D])) G E w _ _ res Q hw S (by rw[R,O];exact hm) j A z
   grind
end
structure wA where
 dst:Nat
 pf:PF
 deriving Inhabited
def acP(o:Oper):Bool:=match o.op with
 |.call c=>match c.callee,c.args.toList,o.guard with
  |.builtin .recover,[],none=>true
  |_,_,_=>false
 |_=>false
def Oo(o:Oper):Bool:=match o.op,o.guard with
 |.move _,none=>true
 |.assign _,none=>true
 |_,_=>false
def acQ(P:Program)(rows:Bool)(nt:Nat):Code->Option (Nat×PC)
 |.seq (.region _ ops false) b=>match ops.toList with
  |o::os=>match o.dst,k0 P rows ops os,ft P rows nt b with
   |some d,some xs,some a=>if acP o=true/\os.all Oo=true/\d<nt/\xs.all (λx=>match x.dst with|some d=>d<nt|none=>true)then some (d,.seq (.aJ xs) a)else none
   |_,_,_=>none
  | []=>none
 |_=>none
def AY(P:Program)(rows:Bool)(fn:Func):Option wA:=
 match fn.body with
 |some c=>match acQ P rows fn.ntmps c,oT P fn.results.toList with
  |some (d,b),some rs=>if(fn.name != "runtime.NumGoroutine")then some ⟨d,{ntmps:=fn.ntmps,results:=rs,body:=b}⟩else none
  |_,_=>none
 |none=>none
noncomputable def HU(X:Ctx)(C:bA)(L:eK)(g:FuncId)(pr:wA)(args:lA)(rv:AV)(E:AS):Option AS:=
 if args.length<=pr.pf.ntmps then
  match bh X C L g false pr.pf.body {env:=(ds args).set pr.dst rv,marks:=[]} {E with lo:=none}with
  |some (.normal,⟨e,[]⟩,a)=>(gp X a e pr.pf.results).map λv=>(finish E.heap.length E.lo v a).2
  |some (.ret,⟨e,[]⟩,a)=>(gp X a e pr.pf.results).map λv=>(finish E.heap.length E.lo v a).2
  |_=>none
 else none
def acR(G:Gh)(u:FrameMode)(rv:AV):Prop:=
 (u= .returning/\rv= .eZ)\/ ∃v',u= .panicking [{v:=v',recovered:=false}]/\an G rv v'
section
variable{C:bA}(hC:fS P B aw C)(hg:fQ X B aw)(hX:oV P X)(hE:AG P X B aw){L:eK}(hL:yq L)
include hC hg hX hE hL
omit hC hg hX hE hL in
theorem acS{n nt:Nat}{rows:Bool}{b:Array Oper}{cs:List Frame}: ∀ (os:List Oper) (is:lN) (l:List aR),is.map (b[·]?)=os.map some->k0 P rows b os=some l->os.all Oo=true->(∀x∈l,∀d,x.dst=some d->d<nt)->
  ∀ (G:Gh) (E:AS) (w:World) (fr:Fr) (a:Act) (Q:Exit->Act->List Frame->World->Prop) (res:Ex×Fr×AS),aZ P B aw G E w->cK G nt fr.env a.tmps->gN [] G fr.marks a.defers->fo X C l fr E=some res->
  (∀a' m,res=(.normal,m,E)->cK G nt m.env a'.tmps->gN [] G m.marks a'.defers->Q .normal a' cs w)->wpOpsSIn (W none) n P b Q is a cs w
 | [],is,l,k,h,_,J,G,E,w,fr,a,Q,res,hw,he,hm,q,K=>by
   have:is=[]:=by simpa using k
   subst this;simp only[k0,adF]at h;subst h;simp only[fo,adF]at q;exact K a fr q.symm he hm
 |o::os,is,l,k,h,e,J,G,E,w,fr,a,Q,res,hw,he,hm,q,K=>by
  cases is with
  |nil=>simp at k
  |cons i is=>
   simp only[aiQ,ax8]at k;obtain⟨I,k⟩:=k;simp only[avX,afz]at e;obtain⟨j,e⟩:=e;simp only[k0]at h;split at h
   ·rename_i x xs c D;cases h;have s: (∃z,(o.op= .move z\/o.op= .assign z))/\o.guard=none:=by
     unfold Oo at j;split at j
     ·rename_i z v u;exact⟨⟨_,.inl v⟩,u⟩
     ·rename_i z v u;exact⟨⟨_,.inr v⟩,u⟩
     ·cases j
    obtain⟨⟨z,f⟩,t⟩:=s;have F: ∃y,bJ z=some y/\x={g:=none,dst:=o.dst,i:=.mov y}:=by
     unfold iY at c;have v:guardOf b o=some none:=by unfold guardOf;rw[t]
     rw[v]at c;have u:kZ P rows o=(bJ z).map .mov:=by
      rcases f with f|f<;>simp only[kZ,f]
     rw[u]at c;cases A:bJ z with
     |none=>rw[A]at c;cases c
     |some y=>rw[A]at c;cases c;exact⟨y,rfl,rfl⟩
    obtain⟨y,A,rfl⟩:=F;have p: (execOp a.eval o).run P w= .ok (.value (a.eval z)) w:=by
     rcases f with f|f<;>(unfold execOp;simp only[f];rfl)
    simp only[wpOpsSIn,I];have H:Region.wanted o (yielded b a.tmps)=true:=by simp[Region.wanted,t]
    rw[adG H,p];refine⟨λ_ _=>trivial,?_⟩;simp only[fo,gw,afK,exec]at q;obtain⟨O,N,M⟩:=qH (a:=a) (dst:=o.dst) he (J {g:=none,dst:=o.dst,i:=.mov y} (by simp)) (cA he A);exact acS os is xs k D e (λx c=>J x (by simp[c])) G E w _ _ Q res hw O (by rw[N,M];exact hm) q K
   ·cases h
theorem apI{g:FuncId}{fn:Func}{pr:wA}{rows:Bool}(hfn:P.funcs[g]?=some fn)(q:AY P rows fn=some pr){args:lA}{E f:AS}{rv:AV}
  (h:HU X C L g pr args rv E=some f) {G:Gh}  {a:Array Value} (hw:aZ P B aw G E w) (hl:aF G args a.toList) {u:FrameMode} (hu:acR G u rv):
  CallsDIn (W none) n P g a u w (λe A w'=>settle A= .returning/\ ∃v K,e= .returned v/\G.le K/\aZ P B aw K f w'/\E.Ext f):=by
 unfold AY at q;split at q
 case h_2=>grind
 rename_i c hb;split at q
 case h_2=>grind
 rename_i d b rs p hrs;split at q
 case isFalse=>grind
 cases q;unfold acQ at p;split at p
 case h_2=>cases p
 rename_i id ops b';split at p
 case h_2=>cases p
 rename_i o os y;split at p
 case h_2=>cases p
 rename_i d' xs pb Oq wB hpb;split at p
 case isFalse=>cases p
 rename_i U;cases p;obtain⟨I,hmv,hdn,yF⟩:=U;unfold HU at h;split at h
 case isFalse=>cases h
 rename_i z;simp only at z h;cases H:bh X C L g false (.seq (.aJ xs) pb) {env:=(ds args).set d rv,marks:=[]} {E with lo:=none}with
 |none=>rw[H]at h;cases h
 |some res=>
 have k:=H;simp only[bh]at k;cases s:fo X C xs {env:=(ds args).set d rv,marks:=[]} {E with lo:=none}with
 |none=>rw[s]at k;cases k
 |some Y=>
 rw[s]at k;refine callsDIn_of_wpSIn hfn hb trivial λl cs T=>?_
 refine wpSIn_seq (wpSIn_region ?_);have aCg:0<ops.size:=by rw[<-akY,y];simp
 have M:List.range ops.size=0:: (List.range' 1 (ops.size-1)):=by
  rw[ayJ,show ops.size=(ops.size-1)+1 by omega,List.range'_succ];simp
 have h0:ops[0]?=some o:=by rw[<-apS,y];rfl
 rw[M];simp only[wpOpsSIn,h0];have apO: (∃c,o.op= .call c/\c.callee= .builtin .recover/\c.args.toList=[])/\o.guard=none:=by
  unfold acP at I;split at I
  ·rename_i c R;split at I
   ·rename_i h1 h2 h3;exact⟨⟨c,R,h1,h2⟩,h3⟩
   ·cases I
  ·cases I
 obtain⟨⟨cc,R,Ot,aCh⟩,gO⟩:=apO;have Ou: ∀t:Array Value,Region.wanted o (yielded ops t)=true:=λt=>by simp[Region.wanted,gO]
 have S: ∀ρ,(execOp ρ o).run P w= .ok .recover w:=by
  intro ρ;unfold execOp;simp only[R,resolve,Ot];simp[invoke,builtin]
 rw[adG (Ou _),S];refine⟨λ_ _=>trivial,?_⟩;have he0:cK G fn.ntmps (ds args) (a++Array.replicate (fn.ntmps-a.size) undef):=Ha hl z;have Ov: (List.range' 1 (ops.size-1)).map (ops[·]?)=os.map some:=by
  apply anT;intro j;have hos:os.length=ops.size-1:=by
   have:ops.toList.length=os.length+1:=by rw[y];rfl
   rw[akY]at this;omega
  by_cases hj:j<os.length
  ·have e1: (List.range' 1 (ops.size-1))[j]?=some (1+j):=by
     rw[List.getElem?_range' (by omega)];simp
   simp only[afE,e1,afo,adM hj];rw[<-apS,y,Nat.add_comm,axt,adM hj]
  ·rw[akW (by simp;omega),akW (by simp;omega)]
 have apQ: ∀x∈xs,∀d,x.dst=some d->d<fn.ntmps:=by
  intro x hx d Z;have:=afy.1 yF x hx;rw[Z]at this;simpa using this
 have key: ∀ (v':Value) (N:List Frame) (A:FrameMode),an G rv v'->settle A= .returning->N={l with mode:=A}::cs->
   wpOpsSIn (W none) n P ops (Exit.thenS (b'.wpSIn (W none) n P (bodyPostS P fn l cs (λe A w'=>settle A= .returning/\ ∃v K,e= .returned v/\G.le K/\aZ P B aw K f w'/\E.Ext f))) (bodyPostS P fn l cs (λe A w'=>settle A= .returning/\ ∃v K,e= .returned v/\G.le K/\aZ P B aw K f w'/\E.Ext f)))
    (List.range' 1 (ops.size-1)) (Act.put {tmps:=a++Array.replicate (fn.ntmps-a.size) undef,defers:=[]} o.dst v') N w:=by
  intro v' N A hv O G4;rw[Oq];have he1:cK G fn.ntmps ((ds args).set d rv) (Act.put {tmps:=a++Array.replicate (fn.ntmps-a.size) undef,defers:=[]} (some d) v').tmps:=he0.set hdn hv;refine acS os _ xs Ov wB hmv apQ G {E with lo:=none} w {env:=(ds args).set d rv,marks:=[]} _ _ Y (hw.lo none) he1 rfl s (λa1 HV Q he2 hm2=>?_);subst Q;simp only at k;simp only[Exit.thenS];refine wpSIn_of_wpIn rfl (wm hC hg hX hE hL (r:=none) rfl b' pb hpb G {E with lo:=none} w HV a1 res _ (hw.lo none) he2 hm2 k (λe a2 w2 apU=>?_));obtain⟨G2,q1,q2,q3,q4,q5,q6⟩:=apU;obtain⟨ex,⟨e2,ms⟩,V⟩:=res;rw[H]at h;have fin:ms=[]->(∃v,gp X V e2 rs=some v/\ (finish E.heap.length E.lo v V).2=f)->(e= .normal\/e= .ret)->bodyPostS P fn l cs (λe A w'=>settle A= .returning/\ ∃v K,e= .returned v/\G.le K/\aZ P B aw K f w'/\E.Ext f) e a2 N w2:=by
   intro hms ⟨v,F,D⟩ hee;subst hms;obtain⟨v2,r1,r2⟩:=Db hg q2 q3 hrs F;obtain⟨G3,p1,p2,p3,p4⟩:=ym hw q1 q2 q5 r2;rw[D]at p2 p4;have hd2:a2.defers=[]:=q4;rcases hee with rfl|rfl
   ·exact⟨hd2,A,G4,v2,r1,O,v2,G3,rfl,p1,p2,p4⟩
   ·exact⟨hd2,A,G4,v2,r1,O,v2,G3,rfl,p1,p2,p4⟩
  cases ex with
  |normal=>
   cases ms with
   |cons m ms=>cases h
   |nil=>
    obtain⟨v,F,D⟩:=afn.1 h;cases e<;>simp[gq]at q6;exact fin rfl ⟨v,F,D⟩ (.inl rfl)
  |ret=>
   cases ms with
   |cons m ms=>cases h
   |nil=>
    obtain⟨v,F,D⟩:=afn.1 h;cases e<;>simp[gq]at q6;exact fin rfl ⟨v,F,D⟩ (.inr rfl)
  |exit i=>cases h
  |panic v=>cases h
 rcases hu with⟨rfl,rfl⟩| ⟨v',rfl,hv⟩
 ·have J:recoverD (l::cs)=none:=by simp[recoverD,T]
  simp only[J];refine key .nilIface (l::cs) .returning (by simp[an]) rfl ?_;rw[<-T]
 ·have J:recoverD (l::cs)=some (v',{l with mode:=.panicking [{v:=v',recovered:=true}]}::cs):=by simp[recoverD,T]
  simp only[J];exact key v' _ _ hv rfl rfl
end
end
section
variable{P:Program}{X:Ctx}{B:Nat}{aw:World}{dh:List Deferred}
inductive DB where
 |here(ops:List aR)(la:aq)(fT:List aq)(rest:PC)
 |later(pre:PC)(d:DB)
 deriving Inhabited
structure uP where
 ntmps:Nat
 results:List RV
 body:DB
 deriving Inhabited
def acU(P:Program)(rows:Bool)(nt:Nat):Code->Option (List aR×aq×List aq)
 |.region _ ops false=>match ops.toList.getLast? with
  |some o=>match o.op,o.guard,o.dst with
   |.defer c,none,none=>match c.callee with
    |.value f=>match k0 P rows ops ops.toList.dropLast,bJ f,nP c.args.toList with
     |some xs,some a,some as=>if xs.all (λx=>match x.dst with|some d=>d<nt|none=>true)then some (xs,a,as)else none
     |_,_,_=>none
    |_=>none
   |_,_,_=>none
  |none=>none
 |_=>none
def DC(P:Program)(rows:Bool)(nt:Nat):Code->Option DB
 |.seq a b=>match acU P rows nt a with
  |some (xs,f,as)=>(ft P rows nt b).map (.here xs f as)
  |none=>match ft P rows nt a,DC P rows nt b with
   |some d,some c=>some (.later d c)
   |_,_=>none
 |_=>none
def AZ(P:Program)(rows:Bool)(fn:Func):Option uP:=
 match fn.body with
 |some c=>match DC P rows fn.ntmps c,oT P fn.results.toList with
  |some b,some rs=>if(fn.name != "runtime.NumGoroutine")then some {ntmps:=fn.ntmps,results:=rs,body:=b}else none
  |_,_=>none
 |none=>none
def AV.HW:AV->Bool
 |.fn .. =>true
 |_=>false
noncomputable def wD(X:Ctx)(C:bA)(L:eK)(bO:FuncId):DB->Fr->AS->Option (Option (AV×lA)×(Ex×Fr×AS))
 |.here ops a c rest,fr,E=>match fo X C ops fr E with
  |some (.normal,⟨e,[]⟩,f)=>if(a.get e).HW then(bh X C L bO false rest ⟨e,[]⟩ f).map λr=>(some (a.get e,c.map (·.get e)),r)else none
  |some (.normal,_,_)=>none
  |some r=>some (none,r)
  |none=>none
 |.later pre d,fr,E=>match bh X C L bO false pre fr E with
  |some (.normal,b,f)=>wD X C L bO d b f
  |some r=>some (none,r)
  |none=>none
abbrev oZ:=FuncId->Option wA
noncomputable def A0(X:Ctx)(C:bA)(L:eK)(R:oZ)(b:AV)(a:lA)(rv:AV)(E:AS):Option AS:=
 match b with
 |.fn (.func g) first cap=>(R g).bind λpr=>HU X C L g pr (first++a++cap) rv E
 |_=>none
def Ex.Ox:Ex->Option AV
 |.normal=>some .eZ
 |.ret=>some .eZ
 |.panic v=>some v
 |.exit _=>none
noncomputable def Oy(X:Ctx)(C:bA)(L:eK)(R:oZ)(n:Nat)(dS:oN)(c:uP):Option (Option (AV×lA)×(Ex×Fr×AS))->Option aV
 |some (none,r)=>leave X n dS {ntmps:=c.ntmps,results:=c.results,body:=.skip} (some r)
 |some (some (tv,d),(ex,fr,E))=>match ex.Ox,dZ E fr.marks with
  |some rv,some b=>(A0 X C L R tv d rv b).bind λa=>(gp X a fr.env c.results).map λv=>.ret (finish n dS v a).1 (finish n dS v a).2
  |_,_=>none
 |none=>none
noncomputable def wE(X:Ctx)(C:bA)(L:eK)(R:oZ)(f:FuncId)(a:uP)(args:lA)(E:AS):Option aV:=
 if args.length<=a.ntmps then Oy X C L R E.heap.length E.lo a (wD X C L f a.body {env:=ds args,marks:=[]} {E with lo:=none})else none
def Oz(P:Program)(R:oZ):Prop:= ∀g pr,R g=some pr-> ∃rows fn,P.funcs[g]?=some fn/\AY P rows fn=some pr
section
variable{C:bA}(hC:fS P B aw C)(hg:fQ X B aw)(hX:oV P X)(hE:AG P X B aw){L:eK}(hL:yq L)
include hC hg hX hE hL
theorem apX{rows:Bool}{nt:Nat}{bO:FuncId}: ∀ (c:Code) (pd:DB),DC P rows nt c=some pd->
  ∀ (G:Gh) (E:AS) (w:World) (fr:Fr) (a:Act) (O:Option (AV×lA)) (r:Ex×Fr×AS) (Q:Exit->Act->World->Prop),aZ P B aw G E w->cK G nt fr.env a.tmps->gN [] G fr.marks a.defers->wD X C L bO pd fr E=some (O,r)->
  (O=none-> ∀e a w,mv P B aw [] G E nt r e a w->Q e a w)->
  (∀tv J,O=some (tv,J)-> ∀A s G1,G.le G1->an G1 tv A->aF G1 J s.toList-> ∀d,(∀w:World,(Deferred.ofValue A s).run P w= .ok d w)-> ∀e a w,mv P B aw [d] G1 E nt r e a w->Q e a w)->c.wpIn (W none) n P Q a w:=by
 intro c
 induction c with
 |seq x y ihx ihy=>
  intro pd h G E w fr a O r Q hw he hm i hN hD;rw[DC]at h;split at h
  ·rename_i xs f' as g;obtain⟨rest,M,rfl⟩:=afn.1 h;unfold acU at g;split at g
   case h_2=>cases g
   rename_i id ops;split at g
   case h_2=>cases g
   rename_i o v;split at g
   case h_2=>cases g
   rename_i cc oY gO Oq;split at g
   case h_2=>cases g
   rename_i fop Ot;split at g
   case h_2=>cases g
   rename_i xs' f'' G9 wB hfo has;split at g
   case isFalse=>cases g
   rename_i uL;cases g;have hd: ∀x∈xs,∀d,x.dst=some d->d<nt:=by
    intro x hx d yF;have:=afy.1 uL x hx;rw[yF]at this;simpa using this
   have q:ops.toList=ops.toList.dropLast++[o]:=by
    rw[List.getLast?_eq_some_iff]at v;obtain⟨ys,OA⟩:=v;rw[OA];simp
   have sd:ops.size=ops.toList.dropLast.length+1:=by
    rw[<-akY];conv=>lhs;rw[q]
    simp
   have D:List.range ops.size=List.range (ops.size-1)++[ops.size-1]:=by
    conv=>lhs;rw[show ops.size=(ops.size-1)+1 by omega,anC]
   have Ov: (List.range (ops.size-1)).map (ops[·]?)=ops.toList.dropLast.map some:=by
    apply anT;intro j;by_cases hj:j<ops.toList.dropLast.length
    ·have e1: (List.range (ops.size-1))[j]?=some j:=by rw[aoU (by omega)]
     simp only[afE,e1,afo,adM hj];rw[<-apS]
     conv=>lhs;rw[q]
     rw[acV hj,adM hj]
    ·rw[akW (by simp;simp at hj;omega),akW (by simpa using hj)]
   have H:ops[ops.size-1]?=some o:=by
    rw[<-apS]
    conv=>lhs;rw[q]
    rw[afu (by omega)];rw[show ops.size-1-ops.toList.dropLast.length=0 by omega];rfl
   refine azL (wpIn_region ?_);rw[D];simp only[wD]at i;cases b:fo X C xs fr E with
   |none=>rw[b]at i;cases i
   |some k=>
   refine On hC hg [ops.size-1] _ _ xs Ov wB hd G E w fr a k _ hw he hm b (λl w1 F f=>?_) (λe l w1 F f=>?_)
   ·obtain⟨ex,⟨e1,ms⟩,t⟩:=k;simp only at F;subst F;obtain⟨G1,q1,q2,S,q4,q5,q6⟩:=f;rw[b]at i;cases ms with
    |cons m ms=>cases i
    |nil=>
    simp only at i;split at i
    case isFalse=>cases i
    rename_i z;obtain⟨r',OB,A1⟩:=afn.1 i;cases A1;have OC:l.defers=[]:=q4;have ap0:=yf S has;have I:=cA S hfo;simp only[wpOpsIn,H];have Ou:Region.wanted o (yielded ops l.tmps)=true:=by simp[Region.wanted,gO]
    rw[adG Ou];refine⟨λ_ _=>trivial,?_⟩;have Dj:o.semAt (W none).round l.eval=execOp l.eval o:=Oper.semAt_none _ _;rw[Dj];have ap1: ∀d,(∀w:World,(Deferred.ofValue (l.eval fop) (cc.args.map l.eval)).run P w= .ok d w)->(execOp l.eval o).run P w1= .ok (.defer d) w1:=by
     intro d u;unfold execOp;simp only[oY,resolve,Ot];rw[Sem.run_bind,u w1];rfl
    have ap2: ∃d,∀w:World,(Deferred.ofValue (l.eval fop) (cc.args.map l.eval)).run P w= .ok d w:=by
     cases htv:f'.get e1<;>rw[htv]at z<;>simp only[AV.HW,afp]at z;rw[htv]at I;simp only[an]at I;obtain⟨f0,fs0,OD,hfe,_⟩:=I;rw[hfe];exact⟨_,λw=>rfl⟩
    obtain⟨d,u⟩:=ap2;rw[ap1 d u];simp only[Oper.uponIn,Oq,Act.put,OC];refine wm hC hg hX hE hL (r:=none) (dh:=[d]) rfl y rest M G1 t w1 ⟨e1,[]⟩ {l with defers:=[d]} r _ q2 S rfl OB (λe a2 R p=>?_);refine hD _ _ rfl _ _ G1 q1 I (by simpa using ap0) d u e a2 R ?_;obtain⟨G2,Z,Y,V,U,T,K⟩:=p;exact⟨G2,Z,Y,V,U,q5.trans T,K⟩
   ·rw[b]at i;obtain⟨ex,⟨e1,ms⟩,t⟩:=k;have N:some (none,(ex,⟨e1,ms⟩,t))=some (O,r):=by
     cases ex with
     |normal=>exact absurd rfl F
     |_=>exact i
    cases N;have N:=hN rfl e l w1 f;obtain⟨G2,Z,Y,V,U,T,K⟩:=f;cases e<;>first|exact N| (exfalso;cases ex<;>simp[gq]at K;exact F rfl)
  ·split at h
   ·rename_i px pd' hx hy;cases h;simp only[wD]at i;cases b:bh X C L bO false px fr E with
    |none=>rw[b]at i;cases i
    |some k=>
    rw[b]at i;obtain⟨ex,HV,t⟩:=k;by_cases F:ex= .normal
    ·subst F;simp only at i;refine azL (wm hC hg hX hE hL (r:=none) rfl x px hx G E w fr a _ _ hw he hm b (λe l w1 f=>?_));obtain⟨G1,q1,q2,S,q4,q5,q6⟩:=f;cases e<;>simp[gq]at q6;refine ihy pd' hy G1 t w1 HV l O r Q q2 S q4 i (λap5 e a2 R hh=>hN ap5 e a2 R (hh.trans q1 q5)) (λtv J u A s G2 hG2 hv hl d hd e a2 R p=>?_);refine hD tv J u A s G2 (Gh.le_trans q1 hG2) hv hl d hd e a2 R ?_;obtain⟨G3,Z,Y,V,U,T,K⟩:=p;exact⟨G3,Z,Y,V,U,q5.trans T,K⟩
    ·have N:some (none,(ex,HV,t))=some (O,r):=by
       cases ex with
       |normal=>exact absurd rfl F
       |_=>exact i
     cases N;refine azL (wm hC hg hX hE hL (r:=none) rfl x px hx G E w fr a _ _ hw he hm b (λe l w1 f=>?_));have N:=hN rfl e l w1 f;obtain⟨G2,Z,Y,V,U,T,K⟩:=f;cases e<;>first|exact N| (exfalso;cases ex<;>simp[gq]at K;exact F rfl)
   ·cases h
 |_=>intro pd h;simp[DC]at h
omit hC hX hE hL in
theorem ap7{fn:Func}{G:Gh}{E:AS}{w':World}{r:Ex×Fr×AS}{k:aV}{e:Exit}{a:Act}(g:oT P fn.results.toList=some pf.results)(y:aZ P B aw G E w)
  (h:leave X E.heap.length E.lo pf (some r)=some k) (F:mv P B aw [] G {heap:=E.heap,lo:=none} fn.ntmps r e a w'):bodyPostM (W none) 0 P fn (Ends P B aw G E k) e a w':=by
 obtain⟨H,x,u,A,t,s,j⟩:=F;obtain⟨ex,fr,q⟩:=r;have f:qD X E.heap.length E.lo pf fr q=some k->LeavesInM (W none) 0 P fn a.tmps (Ends P B aw G E k) a.defers .returning w':=by
  intro h;unfold qD at h;split at h
  ·rename_i d i;split at h
   ·rename_i v D;cases h;refine yt (by simp) fr.marks a.defers q d w' t u i (λl b=>?_);obtain⟨v',e1,z⟩:=Db hg b A g D;refine⟨v',e1,?_⟩;obtain⟨c,p,o,n,m⟩:=ym y x b (s.trans (yr _ _ _ i)) z;exact⟨c,p,o,n,m⟩
   ·cases h
  ·cases h
 cases ex with
 |normal=>cases e<;>simp[gq]at j;exact f h
 |ret=>cases e<;>simp[gq]at j;exact f h
 |exit id=>simp[leave]at h
 |panic v=>
  cases e<;>simp[gq]at j;rename_i chain;obtain⟨v',rfl,rv⟩:=j;simp only[leave]at h;split at h
  ·rename_i d i;cases h;refine yt (by simp) fr.marks a.defers q d w' t u i (λl b=>?_);obtain⟨c,p,o,n,m⟩:=ym y x b (s.trans (yr _ _ _ i)) rv;exact⟨c,v',rfl,p,o,n,m⟩
  ·cases h
theorem ap8{R:oZ}(hR:Oz P R){fn:Func}{pd:uP}{rows:Bool}(O:P.funcs[f]?=some fn)(n:AZ P rows fn=some pd):gP P B aw f (wE X C L R f pd):=by
 intro args E cr h G w l hw hl;unfold AZ at n;split at n
 case h_2=>grind
 rename_i c hb;split at n
 case h_2=>grind
 rename_i bd rs D y;split at n
 case isFalse=>grind
 rename_i aCn;cases n;unfold wE at h;split at h
 case isFalse=>cases h
 rename_i q;simp only at q h;have x: ¬fn.name= "runtime.NumGoroutine" :=by grind
 have Q: (callFunc f l).run P w= .ok (.enter f l) w:=by
  simp[callFunc,aqa,O,x,hb]
 rw[Q];show CallsIn (W none) 0 P f l w _;have he:cK G fn.ntmps (ds args) (l++Array.replicate (fn.ntmps-l.size) undef):=Ha hl q;cases t:wD X C L f bd {env:=ds args,marks:=[]} {E with lo:=none}with
 |none=>rw[t]at h;cases h
 |some res=>
 obtain⟨dr,r⟩:=res;rw[t]at h;refine axy O hb trivial (apX hC hg hX hE hL c bd D G {E with lo:=none} w {env:=ds args,marks:=[]} _ dr r _ (hw.lo none) he rfl t ?_ ?_) rfl
 ·rintro rfl e a w' hr;exact ap7 hg (pf:={ntmps:=fn.ntmps,results:=rs,body:=.skip}) y hw h hr
 ·rintro tv T rfl tv' m G1 hG1 hv hld d hd e a w' ⟨G',Y,q2,q3,q4,q5,V⟩;obtain⟨ex,fr,I⟩:=r;simp only[Oy]at h;have ai: ∀ (rv:AV) (j:AS) (u:FrameMode),dZ I fr.marks=some j->acR G' u rv->u≠ .run->
    ((A0 X C L R tv T rv j).bind λs=>(gp X s fr.env rs).map λv=>aV.ret (finish E.heap.length E.lo v s).1 (finish E.heap.length E.lo v s).2)=some cr->
    LeavesInM (W none) 0 P fn a.tmps (Ends P B aw G E cr) a.defers u w':=by
   intro rv j u o A hu HX;refine yt hu fr.marks a.defers I j w' q4 q2 o (λw'' J=>?_);obtain⟨s,p,N⟩:=anG.1 HX;obtain⟨v,hv1,rfl⟩:=afn.1 N;unfold A0 at p;split at p
   case h_2=>cases p
   rename_i g first cap
   obtain⟨pr,hpr,A1⟩:=anG.1 p;obtain⟨an5,S,z,b⟩:=hR g pr hpr;have hgb: ∃Z,S.body=some Z/\ ¬S.name= "runtime.NumGoroutine" :=by
    unfold AY at b;split at b
    case h_2=>cases b
    rename_i Z F;split at b
    case h_2=>cases b
    split at b
    case isFalse=>cases b
    rename_i hn;exact⟨Z,F,by simpa using hn⟩
   obtain⟨Z,F,hgn⟩:=hgb;have K:=hv;simp only[an,mX]at K;obtain⟨f',i,k,rfl,rfl,hf,hc⟩:=K;have yB:d={target:=.fn (.func g) k,args:=i++m}:=by
    have h1:=hd w;have h2: (Deferred.ofValue (.func (.func g) i k) m).run P w= .ok {target:=.fn (.func g) k,args:=i++m} w:=rfl;rw[h2]at h1;simpa using h1.symm
   subst yB;have H:aF G' (first++T++cap) (i++m++k).toList:=by
    simp only[Array.toList_append];exact((hf.mono Y).append (hld.mono Y)).append (hc.mono Y)
   refine⟨hu,.inr ⟨λh=>by simp[W]at h,.func g,k,g,i++m++k,rfl,?_,λ_ _=>trivial,?_⟩⟩
   ·show(callFunc g (i++m++k)).run P w''=_;simp[callFunc,aqa,z,hgn,F]
   ·refine(apI hC hg hX hE hL z b A1 J H A).mono ?_;rintro e2 u2 w3 ⟨M,v3,G3,rfl,g1,g2,g3⟩;show LeavesInM (W none) 0 P fn a.tmps _ [] (settle u2) w3;rw[M];obtain⟨v',e1,r1⟩:=Db hg g2 (q3.mono g1) y hv1;refine⟨v',e1,?_⟩;obtain⟨U,p1,p2,p3,p4⟩:=ym hw (Gh.le_trans hG1 (Gh.le_trans Y g1)) g2 ((q5.trans (yr _ _ _ o)).trans g3) r1;exact⟨U,p1,p2,p3,p4⟩
  cases ex with
  |normal=>
   cases e<;>simp[gq]at V;cases o:dZ I fr.marks with
   |none=>rw[o]at h;cases h
   |some j=>rw[o]at h;exact ai .eZ j .returning o (.inl ⟨rfl,rfl⟩) (by simp) h
  |ret=>
   cases e<;>simp[gq]at V;cases o:dZ I fr.marks with
   |none=>rw[o]at h;cases h
   |some j=>rw[o]at h;exact ai .eZ j .returning o (.inl ⟨rfl,rfl⟩) (by simp) h
  |exit id=>
   cases o:dZ I fr.marks<;>rw[o]at h<;>cases h
  |panic v=>
   cases e<;>simp[gq]at V;obtain⟨v',rfl,rv⟩:=V;cases o:dZ I fr.marks with
   |none=>rw[o]at h;cases h
   |some j=>rw[o]at h;exact ai v j (.panicking [{v:=v',recovered:=false}]) o (.inr ⟨v',rfl,rv⟩) (by simp) h
end
def acX:yq Lw:=λ_ _ _ _ h=>Dv h
def OE(hg:fQ X B aw)(hX:oV P X)(e: ∀f p,X.bW f=some p->gP P B aw f p){R:oZ}(d:Oz P R){fn:Func}{c:uP}{rows:Bool}(b:P.funcs[f]?=some fn)(a:AZ P rows fn=some c):
 gP P B aw f (wE X (D X) Lw R f c):=ap8 (NW hg hX e) hg hX (NF hg) acX d b a
end
def aT(N:Nat)(H:List ae)(v:AV)(sz:Nat)(ty:TypeId)(af:List lA):Prop:=
 (∀el∈af,el.length=sz)/\ ((v= .av/\af=[])\/ ∃id aj,N<=id/\v= .ref id aj sz 0 af.length false/\H[id]?=some (.row aj sz ty af))
def bw(v:AV)(af:List lA):AV:=match v with
 |.av=>.av
 |_=>.sl af false
section
variable{N:Nat}{H H':List ae}{v:AV}{sz bytes:Nat}{ty:TypeId}{af ys:List lA}{lo:oN}
theorem aT.av:aT N H .av sz ty []:=⟨by simp,.inl ⟨rfl,rfl⟩⟩
def aT.mono(h:aT N H v sz ty af)(b:H<+:H'):aT N H' v sz ty af:=by
 obtain⟨c,a⟩:=h;refine⟨c,?_⟩;rcases a with a| ⟨id,aj,f,d,e⟩
 ·grind
 ·obtain⟨L,rfl⟩:=b
  grind
def aT.ext{L:List ae}(h:aT N H v sz ty af):aT N (H++L) v sz ty af:=h.mono (aqc _ _)
def aT.rd(h:aT N H v sz ty af):Rd ⟨H,lo⟩ v sz af:=by
 obtain⟨c,b⟩:=h;rcases b with⟨rfl,rfl⟩| ⟨id,aj,d,rfl,a⟩
 ·exact .av
 ·refine⟨trivial,?_,c⟩;simp only[elems,a,ayz]
  grind
def aqg{H0:List ae}{id:Nat}{o:ae}(a:H0<+:H)(b:H0.length<=id):H0<+:H.set id o:=by
 obtain⟨L,rfl⟩:=a
 grind
def aT.append{H0:List ae}(h:aT N H v sz ty af)(b:H0<+:H)(o:H0.length=N)(i:0<sz)(k: ∀el∈ys,el.length=sz)(l:ca ys=0)(f: (af.length+ys.length)*bytes<=room):
  ∃v' H',dL ⟨H,lo⟩ ty sz bytes v ys=some (v',⟨H',lo⟩)/\aT N H' v' sz ty (af++ys)/\H0<+:H'/\H.length<=H'.length/\ (∀id,id<N->H'[id]?=H[id]?):=by
 have e:0<sz/\ys.all (λel=>el.length==sz)=true:=⟨i,by grind⟩;obtain⟨q,g⟩:=h;have p: ∀el∈af++ys,el.length=sz:=by grind
 by_cases he:ys.length=0
 ·have d:ys=[]:=aiR.1 he;subst d;refine⟨v,H,?_,by simpa using⟨q,g⟩,b,aef _,λ_ _=>rfl⟩;unfold dL
  grind
 rcases g with⟨rfl,rfl⟩| ⟨id,aj,m,rfl,a⟩
 ·refine⟨.ref H.length 0 sz 0 ys.length false,H++[.row 0 sz ty ys],?_,⟨by simpa using k,.inr ⟨H.length,0,?_,by simp,by simp⟩⟩,b.trans (aqc _ _),by simp,λid n=>?_⟩
  ·unfold dL;rw[adG e];simp only[adE he];rw[adG (by simpa using f)];rfl
  ·rw[<-o];exact b.length_le
  ·rw[acV (by have:=b.length_le;omega)]
 ·have c:=(acW.1 a).1;refine⟨.ref id (aj+1) sz 0 (af.length+ys.length) false,H.set id (.row (aj+1) sz ty (af++ys)),?_,⟨p,.inr ⟨id,aj+1,m,by simp,by simp[c]⟩⟩,aqg b (by omega),by simp,λj r=>?_⟩
  ·unfold dL;rw[adG e];simp only[a];rw[adG ⟨trivial,trivial,trivial,trivial,by omega,f⟩,adE he];simp[AS.set,l]
  ·rw[acT (by omega)]
def qQ{K:AV->AS->Prop}{H0:List ae}(h:aT N H v sz ty af)(d:H0<+:H)(f:H0.length=N)(a:0<sz)(b: ∀el∈ys,el.length=sz)(c:ca ys=0)(e: (af.length+ys.length)*bytes<=room)
  (g: ∀v' H',aT N H' v' sz ty (af++ys)->H0<+:H'->K v' ⟨H',lo⟩):uO (dL ⟨H,lo⟩ ty sz bytes v ys) K:=by
 obtain⟨v',H',k,j,i,_⟩:=h.append d f a b c e;rw[k];exact g v' H' j i
def aT.acY(h:aT N H v sz ty af)(w:N<=H.length)(k:0<sz)(l: ∀el∈ys,el.length=sz)(m:ca ys=0)(q: (af.length+ys.length)*bytes<=room):
  ∃v' H',dL ⟨H,lo⟩ ty sz bytes v ys=some (v',⟨H',lo⟩)/\aT N H' v' sz ty (af++ys)/\H.length<=H'.length/\ (∀id,id<N->H'[id]?=H[id]?)/\ (∀ (id:Nat) o,(∀a d,o≠ .row a sz ty d)->H[id]?=some o->H'[id]?=some o):=by
 have n:H.take N<+:H:=List.take_prefix _ _;obtain⟨v',H',b,t,x,s,r⟩:=h.append n (by grind) k l m q;refine⟨v',H',b,t,s,r,λid o f e=>?_⟩;have p:=(acW.1 e).1;unfold dL at b;have i:0<sz/\ys.all (λel=>el.length==sz)=true:=⟨k,by grind⟩;rw[adG i]at b;rcases h.2 with⟨rfl,rfl⟩| ⟨j,aj,u,rfl,c⟩
 ·simp only at b;split at b
  ·grind
  ·split at b
   ·simp only[AS.push,adF,apL,AS.mk.injEq]at b
    grind
   grind
 ·simp only[c]at b;split at b
  ·split at b
   ·simp only[adF,apL,AS.mk.injEq]at b;rw[<-b.2.1];exact e
   ·simp only[afp,aha,AS.set,adF,apL,AS.mk.injEq]at b;rw[<-b.2.1];have g:j≠id:=by rintro rfl;rw[c]at e;cases e;exact f _ _ rfl
    rw[acT g];exact e
  ·cases b
def OF{E:AS}:freeze E n (k+1) (.az vs)=if(AV.az vs).refs<=n then some (.az vs)else match jt E n k vs with|some a=>some (.az a)|none=>none:=by
 rw[freeze]
 grind
theorem OG{E:AS}{n k:Nat}: ∀l:lA,aL l<=n->jt E n (k+2) l=some l
 | [],_=>by rw[jt]
 |b::bs,a=>by
  simp only[aL]at a;rw[jt,yP (by omega)];rw[OG bs (by omega)]
theorem OH{E:AS}{n k:Nat}: ∀af:List lA,ca af<=n->r8 E n (k+3) af=some af
 | [],_=>by rw[r8]
 |a::as,h=>by
  simp only[ca]at h;rw[r8,OG a (by omega)];rw[OH as (by omega)]
theorem aT.freeze(h:aT N H v sz ty af)(c:ca af<=N):Den.freeze ⟨H,lo⟩ N (k+4) v=some (bw v af):=by
 obtain⟨f,d⟩:=h;rcases d with⟨rfl,rfl⟩| ⟨id,aj,e,rfl,a⟩
 ·exact yP (aee _)
 ·have b: ¬(AV.ref id aj sz 0 af.length false).refs<=N:=by simp only[AV.refs];omega
  rw[Den.freeze,adE b];simp only[a];rw[adG ⟨trivial,trivial,by omega⟩];simp only[amv,aft];rw[OH af c];rfl
theorem aT.OI(h:aT N H v sz ty af)(a:ca af<=N):finish N lo v ⟨H,none⟩=(bw v af,⟨H.take N,lo⟩):=
 HC rfl (h.freeze a)
def aT.acZ{b:AV}(h:aT N H v sz ty af)(d:ca af<=N)(e:b.refs<=N):finish N lo (.az [v,b]) ⟨H,none⟩=(.az [bw v af,b],⟨H.take N,lo⟩):=by
 refine HC rfl ?_;rw[OF];have e1:jt ⟨H,none⟩ N 11 [v,b]=some [bw v af,b]:=by
  rw[jt,h.freeze d];rw[jt,yP e];rw[jt]
 rw[e1];split
 ·rename_i hle;have a:bw v af=v:=by
   obtain⟨i,f⟩:=h;rcases f with⟨rfl,rfl⟩| ⟨id,aj,g,rfl,c⟩
   ·rfl
   ·simp only[AV.refs,aL]at hle;omega
  rw[a]
 ·rfl
def aT.ss(h:aT N H v sz ty af):Rv (bw v af) sz af:=by
 obtain⟨c,b⟩:=h;rcases b with⟨rfl,rfl⟩| ⟨id,aj,d,rfl,a⟩
 ·exact .av
 ·exact .sl c
theorem bH{α:Type}{g:α->lA}(a: ∀x,aL (g x)=0): ∀l:List α,ca (l.map g)=0
 | []=>rfl
 |x::xs=>by simp only[aiQ,ca,a,bH a xs];rfl
def aqh{E:AS}(h:af.all (λel=>el.length==sz)=true):Den.elems E sz (.sl af c)=some af:=by
 simp only[Den.elems];grind
end
def ac0{k:IntKind}{a b:Int}{c:List EK}{as bs:lA}:jI (.int::c) (.int k a::as) (.int k b::bs)=if a=b then jI c as bs else some false:=by
 simp only[jI,qy,afK]
 grind
def aqi{a b:Bool}{c:List EK}{as bs:lA}:jI (.bool::c) (.bool a::as) (.bool b::bs)=if a=b then jI c as bs else some false:=by
 simp only[jI,qy]
 grind
theorem ac1:jI [] [] []=some true:=rfl
def ac2{N:Nat}{H:List ae}(b: ¬v.refs<=N)(a:freeze ⟨H,none⟩ N 12 v=none):finish N lo v ⟨H,none⟩=(v,⟨H,lo⟩):=by
 rw[DA,adE b,a];rfl
def ac3{N id o:Nat}{E:AS}(h:N<=id):freeze E N k (.ptr id o)=none:=by
 cases k with
 |zero=>rw[freeze]
 |succ k=>
  have a: ¬(AV.ptr id o).refs<=N:=by simp only[AV.refs];omega
  simp[freeze,a]
def DD{X:Ctx}{p:lA->AS->Option aV}{args:lA}{E:AS}{a:aV}(b:X.bW f=some p)(h:p args E=some a):D X (.fn (.func f) [] []) args E=some a:=by
 refine Ht ?_;simp only[step,b,ag8,agT];exact h
theorem ac4{cs:lA}:eJ cs []=some cs:=rfl
theorem ac5{cs:lA}{off:Nat}{r:List (Nat×Nat×AV)}:eJ cs ((off,n,v)::r)=if v.cp=false/\v.cells.length=n/\off+n<=cs.length then eJ (aO cs off v.cells) r else none:=rfl
theorem ac6{len:Nat}{a:List (Nat×Nat×AV)}:N6 z len a=(eJ (List.replicate len z).flatten a).map λcs=>.sl (chunks z.length len cs) true:=rfl
theorem ac7{E:AS}{ty:TypeId}{len:Nat}{a:List (Nat×Nat×AV)}:N7 E ty z len a=(eJ (List.replicate len z).flatten a).map λcs=>(.ref E.heap.length 0 z.length 0 len false,E.push (.row 0 z.length ty (chunks z.length len cs))):=rfl
theorem ac8{a:List (Nat×Nat×AV)}:N5 z a=(eJ z a).map .agg:=rfl
theorem ac9{cs:lA}:chunks sz 0 cs=[]:=rfl
theorem ada{cs:lA}:chunks sz (k+1) cs=cs.take sz::chunks sz k (cs.drop sz):=rfl
theorem adb{E:AS}:Den.elems E sz (.sl af c)=if af.all (λel=>el.length==sz)then some af else none:=rfl
theorem ade{X:Ctx}{id off:Nat}{k:IntKind}{a:Int}:uD X n sz (.ptr id off) (.int k a)=if 0<=a/\a<n then some (.ptr id (off+a.toNat*sz))else none:=rfl
theorem adf{X:Ctx}{id off:Nat}{k:IntKind}{a:Int}:uD X n sz (.dw id aj j off) (.int k a)=if 0<=a/\a<n then some (.dw id aj j (off+a.toNat*sz))else none:=rfl
theorem adg{X:Ctx}{off:Nat}{cs:lA}{k:IntKind}{a:Int}:uD X n sz (.fB cs off) (.int k a)=if 0<=a/\a<n then some (.fB cs (off+a.toNat*sz))else none:=rfl
theorem adh{X:Ctx}{g:Nat}{k:IntKind}{a:Int}:uD X n sz (.dR g) (.int k a)=if 0<=a/\a<n then(match X.dR g with|some cs=>some (.fB cs (a.toNat*sz))|none=>none)else none:=rfl
theorem adi{off:Nat}{cs:lA}:Xv ag n off (.agg cs)=Den.part ag n cs off:=rfl
theorem adj:Dx (.az vs) i=vs[i]?:=rfl
theorem adk{E:AS}:gv E .sl (.sl af c)=some (.int .i64 af.length):=rfl
theorem adl{E:AS}:gv E .sl .av=some (.int .i64 0):=rfl
theorem adm{E:AS}{id v z o:Nat}:gv E .sl (.ref id v z o n c)=some (.int .i64 n):=rfl
theorem adn{E:AS}{id off:Nat}:gv E .sl (.fH id sz off n)=some (.int .i64 n):=rfl
theorem OJ{id off:Nat}{k:IntKind}{a:Int}:kr m (.fH id sz off n) (.int k a)=if 0<=a/\a<n/\sz=m then some (.ptr id (off+a.toNat*m))else none:=rfl
def ado{X:Ctx}{id off:Nat}{b:Int}:qz X n sz (.ptr id off) none (some (.int k' b))=if 0<=b/\b<=n then some (.fH id sz off b.toNat)else none:=by
 simp only[qz,gI,lQ]
 grind
theorem adp{H:List ae}{lo:oN}{id sz m off n:Nat}:Den.elems ⟨H,lo⟩ m (.fH id sz off n)=match H[id]? with
 |some (.box cs _)=>if sz=m/\off+n*m<=cs.length then some (chunks m n (cs.drop off))else none
 |_=>none:=rfl
theorem adq:wb []=some []:=rfl
theorem adr{n:Int}{r:List lA}:wb ([.int .u8 n]::r)=(wb r).map (UInt8.ofNat n.toNat:: ·):=rfl
def ads{H:List ae}{x:ae}(h:H.length=n)(a:m=n+1): (H++[x]).take m=H++[x]:=by grind
def dT{h:Decidable True}: @decide True h=true:=by simp
def dF{h:Decidable False}: @decide False h=false:=by simp
def O1:=gG @ac4<|gG @ac5<|gG @ac6<|gG @ac7<|gG @ac8<|gG @ac9<|gG @ada<|gG @adb<|gG @adi<|gG @adn<|gG @adk<|gG @adl<|gG @adm<|gG @OJ<|gG @ado<|gG @adp<|gG @adq<|gG @adr<|gG @dT<|gG @dF<|gG @List.getD_cons_zero.{0}<|gG @List.getD_cons_succ.{0}<|gG @ade<|gG @adf<|gG @adg<|gG @adh<|gG @Nat.mul_one<|gG @adj<|gG @aqA.{0}<|gG @List.replicate_zero.{0}<|gG @an8.{0}<|gG @List.flatten_nil.{0}<|gG @avX.{0} @List.all_nil.{0}
section
variable{X:Ctx}{n:Nat}{lo:oN}{e:Env}{E:AS}{R:aV->Prop}{a b c d m k:Nat}{ag ah:Bool}
def nW(n:Nat)(lo:oN)(R:aV->Prop):AV->AS->Prop:=λv E=>R (.ret (finish n lo v E).1 (finish n lo v E).2)
theorem adt:nW n lo R v E=R (.ret (finish n lo v E).1 (finish n lo v E).2):=rfl
def A2:ee X n lo [.cell a ag m] R .ret ⟨e,[]⟩ E=okV (cq X E ag m (e a)) (nW n lo R) E:=by
 simp only[yO,yS,gp,kx,oS];cases h:cq X E ag m (e a)with
 |none=>simp[okV,h]
 |some v=>simp[okV,nW,h]
def o5:ee X n lo [.cell a ag m,.t b] R .ret ⟨e,[]⟩ E=okV (cq X E ag m (e a)) (λv E=>nW n lo R (.az [v,e b]) E) E:=by
 simp only[yO,yS,gp,kx,oS];cases h:cq X E ag m (e a)with
 |none=>simp[okV,h]
 |some v=>simp[okV,nW,h]
def adu:ee X n lo [.cell a ag m,.t b,.t c] R .ret ⟨e,[]⟩ E=okV (cq X E ag m (e a)) (λv E=>nW n lo R (.az [v,e b,e c]) E) E:=by
 simp only[yO,yS,gp,kx,oS];cases h:cq X E ag m (e a)with
 |none=>simp[okV,h]
 |some v=>simp[okV,nW,h]
def adv:ee X n lo [.cell a ag m,.cell b ah k] R .ret ⟨e,[]⟩ E=okV (cq X E ag m (e a)) (λv E=>okV (cq X E ah k (e b)) (λu E=>nW n lo R (.az [v,u]) E) E) E:=by
 simp only[yO,yS,gp,kx,oS];cases h:cq X E ag m (e a)with
 |none=>simp[okV,h]
 |some v=>
  cases f:cq X E ah k (e b)with
  |none=>simp[okV,h,f]
  |some u=>simp[okV,nW,h,f]
def Q1:=gG @adt<|gG @A2<|gG @o5<|gG @adu @adv
end
section
variable{X:Ctx}{R:oZ}
def qR(X:Ctx)(R:oZ)(tv:AV)(fT:lA)(rv:AV)(E:AS)(K:AS->Prop):Prop:= ∃a,A0 X (D X) Lw R tv fT rv E=some a/\K a
def dK(X:Ctx)(R:oZ)(n:Nat)(lo:oN)(res:List RV)(P:aV->Prop)(tv:AV)(fT:lA):bR
 |.normal,fr,E=> ∃a,dZ E fr.marks=some a/\qR X R tv fT .eZ a λb=>ee X n lo res P .ret ⟨fr.env,[]⟩ b
 |.ret,fr,E=> ∃a,dZ E fr.marks=some a/\qR X R tv fT .eZ a λb=>ee X n lo res P .ret ⟨fr.env,[]⟩ b
 |.panic v,fr,E=> ∃a,dZ E fr.marks=some a/\qR X R tv fT v a λb=>ee X n lo res P .ret ⟨fr.env,[]⟩ b
 |.exit _,_,_=>False
section
variable{n:Nat}{lo:oN}{res:List RV}{P:aV->Prop}{tv:AV}{fT:lA}{e:Env}{E:AS}{v:AV}
def DE:dK X R n lo res P tv fT .ret ⟨e,[]⟩ E=qR X R tv fT .eZ E λa=>ee X n lo res P .ret ⟨e,[]⟩ a:=by
 simp[dK,dZ]
def nX:dK X R n lo res P tv fT (.panic v) ⟨e,[]⟩ E=qR X R tv fT v E λa=>ee X n lo res P .ret ⟨e,[]⟩ a:=by
 simp[dK,dZ]
end
def HY(X:Ctx)(R:oZ)(f:FuncId)(n:Nat)(lo:oN)(res:List RV)(P:aV->Prop)(la:aq)(fT:List aq)(rest:PC):bR:=λex fr E=>
 ex= .normal/\fr.marks=[]/\ (la.get fr.env).HW=true/\wp X f false rest ⟨fr.env,[]⟩ E (dK X R n lo res P (la.get fr.env) (fT.map (·.get fr.env)))
def OK(X:Ctx)(R:oZ)(f:FuncId)(n:Nat)(lo:oN)(res:List RV)(P:aV->Prop)(ops:List aR)(la:aq)(fT:List aq)(rest:PC):bR:=λex fr E=>
 ex= .normal/\wp X f false (.aJ ops) fr E (HY X R f n lo res P la fT rest)
section
variable{f:FuncId}{n:Nat}{lo:oN}{res:List RV}{P:aV->Prop}{ops:List aR}{la:aq}{fT:List aq}{rest:PC}{e:Env}{fr:Fr}{E:AS}
def ky:HY X R f n lo res P la fT rest .normal ⟨e,[]⟩ E=((la.get e).HW=true/\wp X f false rest ⟨e,[]⟩ E (dK X R n lo res P (la.get e) (fT.map (·.get e)))):=by simp[HY]
def kz:OK X R f n lo res P ops la fT rest .normal fr E=wp X f false (.aJ ops) fr E (HY X R f n lo res P la fT rest):=by simp[OK]
end
def OM(i:uP){k:PC}{ops:List aR}{la:aq}{fT:List aq}{rest:PC}(y:i.body= .later k (.here ops la fT rest)){args:lA}{H:List ae}{P:aV->Prop}(w:Nat.ble args.length i.ntmps=true)
  (h: ∀n,H.length=n->wp X f false k ⟨ds args,[]⟩ ⟨H,none⟩ (OK X R f n lo i.results P ops la fT rest)): ∃m,wE X (D X) Lw R f i args ⟨H,lo⟩=some m/\P m:=by
 obtain⟨ex,fr,E,u,rfl,hw⟩:=h _ rfl;rw[NZ]at hw;obtain⟨B,⟨j,t⟩,s,p,rfl,hm,x,d,c,g,o,q⟩:=hw;subst hm;have l:wD X (D X) Lw f i.body ⟨ds args,[]⟩ ⟨H,none⟩=some (some (la.get j,fT.map (·.get j)),(d,c,g)):=by
  rw[y];simp only[wD,u,p,x,afK,o,afo]
 unfold wE;rw[adG (apN w)];simp only[l,Oy];have key: ∀rv,d.Ox=some rv->(∃b,dZ g c.marks=some b/\qR X R (la.get j) (fT.map (·.get j)) rv b λa=>ee X H.length lo i.results P .ret ⟨c.env,[]⟩ a)->
   ∃m,(match d.Ox,dZ g c.marks with
    |some rv,some b=>(A0 X (D X) Lw R (la.get j) (fT.map (·.get j)) rv b).bind λa=>(gp X a c.env i.results).map λv=>aV.ret (finish H.length lo v a).1 (finish H.length lo v a).2
    |_,_=>none)=some m/\P m:=by
  rintro rv C ⟨b,J,a,I,A⟩;obtain⟨r,v,z,G,F⟩:=A;simp only[dZ,adF]at z
  grind
 cases d with
 |normal=>exact key _ rfl q
 |ret=>exact key _ rfl q
 |panic v=>exact key _ rfl q
 |exit _=>trivial
def HZ{g:FuncId}{pr:wA}(c:R g=some pr){cap fT:lA}{rv:AV}{H:List ae}{K:AS->Prop}(b:Nat.ble (fT++cap).length pr.pf.ntmps=true)
  (h: ∀n,H.length=n->wp X g false pr.pf.body ⟨(ds (fT++cap)).set pr.dst rv,[]⟩ ⟨H,none⟩ (λex fr E=>fr.marks=[]/\ (ex= .normal\/ex= .ret)/\ ∃v,gp X E fr.env pr.pf.results=some v/\K (finish n lo v E).2)):
  qR X R (.fn (.func g) [] cap) fT rv ⟨H,lo⟩ K:=by
 obtain⟨ex,⟨e,ms⟩,E,i,hm,hex,v,j,d⟩:=h _ rfl;have a:=apN b;refine⟨_,?_,d⟩;simp only[A0,c,aom,HU,ag8]
 grind
end
section
structure Ext(X X':Ctx):Prop where
 dR:X'.dR=X.dR
 gl:X'.gl=X.gl
 code:X'.code=X.code
 bW: ∀f,X'.bW f=X.bW f\/ (X.bW f=none/\X.code f=none)
variable{X X':Ctx}
def aqj(h:Ext X X'):cq X'=cq X:=by
 unfold cq;rw[h.dR]
def adw(h:Ext X X'){C:bA}(i:I)(e:Env)(E:AS):exec X' C i e E=exec X C i e E:=by
 obtain⟨g,j,c,m'⟩:=X';obtain⟨b,a,f,d⟩:=h;subst b a;cases i<;>rfl
theorem adx(h:Ext X X'){C:bA}: ∀ (os:List aR),fo X' C os=fo X C os
 | []=>by rfl
 |o::os=>by
  simp only[fo,adw h,adx h os]
theorem ady(h:Ext X X'){C:bA}: ∀ (os:List (aR×lN)) (a:List FP),gM X' C a os=gM X C a os
 | [],a=>by rfl
 |o::os,a=>by
  simp only[gM,adw h,ady h os]
def aqk(h:Ext X X')(a:qC X v=true):qC X' v=true:=by
 unfold qC at a⊢;split at a
 ·rename_i f _ _;rw[h.code];rcases h.bW f with b| ⟨_,c⟩
  ·grind
  grind
 omega
theorem su(h:Ext X X'){C:bA}{L:eK}(e:eK.le L L)(bO:FuncId)(rd:Bool): ∀pc,qK (bh X C L bO rd pc) (bh X' C L bO rd pc)
 |.skip,_,_,_,d=>by trivial
 |.seq a b,fr,E,r,d=>by
  simp only[bh]at d⊢;split at d
  ·rename_i k;rw[su h e bO rd a _ _ _ k];exact su h e bO rd b _ _ _ d
  ·cases f:bh X C L bO rd a fr E with
   |none=>grind
   |some q=>
    rw[su h e bO rd a _ _ _ f]
    grind
 |.cond c a b,fr,E,r,d=>by
  simp only[bh]at d⊢;split at d
  ·rename_i t m;split at d
   ·rename_i i;rw[adG i];exact su h e bO rd a _ _ _ d
   ·rename_i i;rw[adE i];exact su h e bO rd b _ _ _ d
  omega
 |.block id body,fr,E,r,d=>by
  simp only[bh]at d⊢;cases f:bh X C L bO rd body fr E with
  |none=>rw[f]at d;cases d
  |some q=>rw[su h e bO rd body _ _ _ f];rw[f]at d;exact d
 |.loop body,fr,E,r,d=>by
  simp only[bh]at d⊢;exact e _ _ (su h e bO rd body) _ _ _ d
 |.exit id,_,_,_,d=>by simpa only[bh]using d
 |.ret,_,_,_,d=>by simpa only[bh]using d
 |.aJ ops,fr,E,r,d=>by
  simp only[bh]at d⊢;rw[adx h];exact d
 |.uA ops,fr,E,r,d=>by
  simp only[bh]at d⊢;rw[ady h];exact d
 |.iE g ps as bd,fr,E,r,d=>by
  simp only[bh]at d⊢;split at d
  ·cases d
  ·rename_i j;rw[adE j];split at d
   ·rename_i l;rw[adG (aqk h l)];exact d
   ·cases d
def aql(h:Ext X X'){C:bA}{L:eK}(m:eK.le L L)(l:Nat)(args:lA)(E:AS)(r:aV)(c:lU X C L l args E=some r):lU X' C L l args E=some r:=by
 simp only[lU]at c⊢;split at c
 ·rename_i st j f env ps as bd s;split at c
  ·rename_i a;simp only[a,afK];split at c
   ·rename_i fr e n;rw[su h m _ _ _ _ _ _ n];simp only;split at c
    ·rename_i b p d g i ju o;cases k:bh X C L f true bd fr (e.set l (.loop .busy b p d g i ju) 0)with
     |none=>rw[k]at c;cases c
     |some q=>rw[su h m _ _ _ _ _ _ k];grind
    omega
   grind
  grind
 omega
theorem adz(h:Ext X X')(E:AS)(e:Env): ∀rs,kx X' E e rs=kx X E e rs
 | []=>rfl
 |r::rs=>by
  have:oS X' E e r=oS X E e r:=by
   cases r with
   |t i=>rfl
   |cell a ag n=>simp only[oS,aqj h]
  simp only[kx,this,adz h E e rs]
def aqm(h:Ext X X')(n:Nat)(lo:oN)(pf:PF)(r:jK):leave X' n lo pf r=leave X n lo pf r:=by
 have e1: ∀fr E,qD X' n lo pf fr E=qD X n lo pf fr E:=λfr E=>by
  simp only[qD,gp,adz h]
 rcases r with _| ⟨ex,fr,E⟩
 ·rfl
 ·cases ex<;>simp only[leave,e1]
def aqn(h:Ext X X'){C:bA}{L:eK}(d:eK.le L L):bA.le (step X C L) (step X' C L):=by
 intro v args E r b;unfold step at b⊢;split at b
 ·rename_i f first cap
  split at b
  ·rename_i p g;have:X'.bW f=some p:=by
    rcases h.bW f with q| ⟨q,_⟩
    ·grind
    grind
   grind
  ·split at b
   ·rename_i pf e;split at b
    ·rename_i a;have:X'.bW f=none:=by
      rcases h.bW f with q| ⟨_,q⟩
      ·grind
      grind
     rw[this,h.code,e];simp only;rw[adG a,aqm h];cases c:bh X C L f false pf.body {env:=ds (first++args++cap),marks:=[]} {E with lo:=none}with
     |none=>rw[c]at b;cases b
     |some q=>rw[su h d _ _ _ _ _ _ c];grind
    grind
   grind
 ·exact aql h d _ _ _ _ b
 omega
theorem adA(h:Ext X X'): ∀n,bA.le (iX X n) (iX X' n)
 |0=>λf args E r h=>by trivial
 |n+1=>by
  exact bA.le_trans (aqn h (Hr n)) (WT (adA h n) (Hr n))
def adB(h:Ext X X'):bA.le (D X) (D X'):=λf a s r b=>by
 obtain⟨n,c⟩:=yI b;exact NS (n:=n) _ _ _ _ (adA h n _ _ _ _ c)
end
def sv(a:List (Nat×lB×Nat)):List (AV×AV):=a.map λx=>(.int .u8 x.1,.fn (.func x.2.2) [] [])
theorem ON{n:Int}: ∀l:List (AV×AV),(∀p∈l,∃m:Int,p.1= .int .u8 m)->eB (.int .u8 n) l=some ((l.find? λp=>match p.1 with|.int _ m=>n==m|_=>false).map (·.2))
 | [],_=>rfl
 | (k,v)::l,h=>by
   obtain⟨m,hm⟩:=h (k,v) (by simp);have a:=ON (n:=n) l (λp b=>h p (by grind));simp only[eB,oR,List.find?_cons]
   grind
theorem adC: ∀ {l:List (AV×AV)} {p q:AV×AV},(l.Pairwise λp q=>p.1≠q.1)->p∈l->q∈l->p≠q->p.1≠q.1
 |a::l,p,q,h,f,e,b=>by
  rw[akT]at h;rcases afJ.1 f with d|d
  ·grind
  ·rcases afJ.1 e with c|c
   ·grind
   ·exact adC h.2 d c b
def aqo{α β:Type}{F:α->β}{l g:List β}(h:l.Perm g): ∀m:List α,m.map F=l-> ∃m':List α,m'.Perm m/\m'.map F=g:=by
 induction h with
 |nil=>simp
 |cons x _ j=>
  intro m hm;cases m with
  |nil=>grind
  |cons a m=>
   simp only[aiQ,ax8]at hm;obtain⟨m',f,i⟩:=j m hm.2;exact⟨a::m',f.cons a,by grind⟩
 |swap x y l=>
  intro m hm
  match m,hm with
  |a::b::m,hm=>
   exact⟨b::a::m,.swap a b m,by grind⟩
 |trans _ _ e d=>
  intro m hm;obtain⟨m',f,i⟩:=e m hm;obtain⟨c,n,k⟩:=d m' i;exact⟨c,n.trans f,k⟩
def aqp{l e:List (AV×AV)}(h: ∀p∈l,∃m:Int,p.1= .int .u8 m)(o:l.Perm e)(u:l.Pairwise λp q=>p.1≠q.1){k:AV}{v:Option AV}(f:eB k l=some v):eB k e=some v:=by
 have w: ∀p∈e,∃m:Int,p.1= .int .u8 m:=λp j=>h p (o.mem_iff.2 j)
 cases l with
 |nil=>simp_all
 |cons a l=>
  obtain⟨m,hm⟩:=h a (by simp);obtain⟨z,r⟩:=a;simp only at hm;subst hm;cases k with
  |int q n=>
   by_cases t:q= .u8
   ·subst t;rw[ON _ h]at f;rw[ON _ w];rw[<-f]
    congr 2
    have hu: ∀p q:AV×AV,p∈((AV.int .u8 m,r)::l)->q∈((AV.int .u8 m,r)::l)->(match p.1 with|.int _ m=>n==m|_=>false)=true->(match q.1 with|.int _ m=>n==m|_=>false)=true->p=q:=by
     intro p q c b e1 d;obtain⟨g,y⟩:=h p c;obtain⟨s,x⟩:=h q b;have e3:p.1=q.1:=by grind
     by_cases i:p=q
     ·omega
     ·exact absurd e3 (adC u c b i)
    cases e1: ((AV.int .u8 m,r)::l).find? (λp=>match p.1 with|.int _ m=>n==m|_=>false)with
    |none=>grind
    |some p=>
     have g:=apT e1;have t1:=List.find?_some e1;cases d:e.find? (λp=>match p.1 with|.int _ m=>n==m|_=>false)with
     |none=>
      rw[awO]at d;exact absurd t1 (d p (o.mem_iff.1 g))
     |some q=>
      have s:=o.mem_iff.2 (apT d);have t2:=List.find?_some d;rw[hu q p s g t2 t1]
   ·exfalso;simp[eB,oR,t]at f
  |_=>exfalso;simp[eB,oR]at f
section
variable{P:Program}{W:World}
theorem adD{α β:Type}{f:α->Option β}: ∀ {l:List α} {r:List β},l.mapM f=some r->l.length=r.length/\ ∀ (i:Nat) a b,l[i]?=some a->r[i]?=some b->f a=some b
 | [],r,h=>by grind
 |x::l,r,h=>by
  rw[azH]at h;simp only[bind,anG,pure,adF]at h;obtain⟨y,e,d,c,rfl⟩:=h;obtain⟨j,g⟩:=adD c
  grind
def aqq{n:String}{d:DataW Unit}{g e:Nat}{ps rs:Array TypeId}{va:Bool}{a:List (Nat×lB×Nat)}(hfa:funcsAt P W n d)(hd:d.funcsOut= .map (a.map λx=>(.int .u8 x.1,.held x.2.1)))
  (hg:P.globalNamed n=some g) (ht: (P.globals[g]?).map (·.type)=some t) (hu:P.underlying t=some (.map k e)) (hk:P.underlying k=some (.int .u8)) (he:P.underlying e=some (.func ps rs va))
  (S: ∀x∈a,((List.range P.funcs.size).filter λf=>(P.funcs[f]?).any (·.name.toUTF8.data.toList==x.2.1))=[x.2.2]) (sj: ∀x∈a,x.2.1≠[]) (D:a.Pairwise λx y=>x.1≠y.1):
  g<W.heap.size/\ ∃es' r ms clock,r<W.heap.size/\W.cell? ⟨g,0,none⟩=some (.map (some r))/\W.heap[r]?=some (.map ms clock)/\gg (G0 W.heap.size W) es' ms.toList/\ ∀k v,eB k (sv a)=some v->eB k es'=some v:=by
 obtain⟨g',t',cs,fuel,p,h1,h2,h3,u⟩:=hfa;obtain rfl:g'=g:=aiP (h1.symm.trans hg);obtain rfl:t'=t:=aiP (h2.symm.trans ht);rw[hd]at u;cases fuel with
 |zero=>simp[DataW.trod]at u
 |succ fuel=>
 unfold DataW.trod at u;rw[hu]at u;obtain⟨b,K⟩: ∃b,cs.toList=[.map (some b)]:=by
  split at u<;>simp_all
 rw[K]at u;simp only at u;split at u
 case h_2=>cases u
 rename_i es clock hb;split at u
 case isFalse=>cases u
 obtain⟨entries,hm,hs⟩:=anG.1 u;split at hs
 case isFalse=>cases hs
 rename_i aCp;simp only[adF,apL,DataW.map.injEq]at hs;obtain⟨G,_⟩:=hs;obtain⟨E,H4⟩:=adD hm;have z: (entries.map (·.1)).Perm (a.map λx=>(Lit.int .u8 x.1,DataW.held x.2.1)):=by
  rw[<-G];exact(WideShapes.sorted_perm _).symm
 have B: ∀ (i:Nat) (m:MapEntry),es.toList[i]?=some m-> ∃x∈a,(entries.map (·.1))[i]?=some (Lit.int .u8 x.1,DataW.held x.2.1)/\m.key= .int .u8 x.1/\m.val= .func (.func x.2.2) #[] #[]:=by
  intro i m J;have I:i<entries.length:=by rw[<-E];exact(acW.1 J).1
  have B:=H4 i m entries[i] J (adM I);obtain⟨key,l,s⟩:=anG.1 B;have U:entries[i].1∈a.map λx=>(Lit.int .u8 x.1,DataW.held x.2.1):=z.mem_iff.1 (afq.2 ⟨entries[i],aqz I,rfl⟩)
  obtain⟨x,C,q⟩:=afq.1 U;refine⟨x,C,by rw[afE,adM I,afo,<-q],?_⟩;split at s
  case isFalse=>cases s
  rename_i A;obtain⟨y,F,N⟩:=afn.1 s;have hk1:key= .int .u8 x.1:=by rw[<-N]at q;simp only[apL]at q;exact q.1.symm
  have V:y.1= .held x.2.1:=by rw[<-N]at q;simp only[apL]at q;exact q.2.symm
  constructor
  ·subst hk1;unfold keyOf at l;rw[hk]at l;simp only at l;unfold mapKey at l;rw[hk]at l;split at l<;>simp_all
  ·have L:m.val.cells.toList=[m.val]:=by
     cases hv:m.val<;>first|rfl| (rw[hv]at A;simp[Value.formed,he]at A)
   rw[L]at F;obtain⟨y1,y2⟩:=y;simp only at V;subst V;cases H:x.2.1 with
   |nil=>exact absurd H (sj x C)
   |cons c r=>
    rw[H]at F;have ho:=S x C;rw[H]at ho;exact func_of_trod he ho F
 obtain⟨w,R,Q⟩:=aqo z.symm a rfl;have O:g'<W.heap.size:=by
  have hc:W.cell? ⟨g',0,none⟩=some (.map (some b)):=by rw[World.var?_cell hg h3,<-apS,K];rfl
  unfold World.cell? at hc;cases hh:W.heap[g']? with
  |none=>rw[hh]at hc;cases hc
  |some o=>exact(alY.1 hh).1
 have Z: ∀x∈a,∀y∈a,x.1=y.1->x=y:=by
  intro x C y F e;obtain⟨i,J⟩:=auM C;obtain⟨j,Y⟩:=auM F;rw[List.pairwise_iff_getElem]at D;have hi1:=(acW.1 J).1;have X:=(acW.1 Y).1;rcases aAZ i j with h|h|h
  ·have:=D i j hi1 X h;rw[(acW.1 J).2,(acW.1 Y).2]at this;exact absurd e this
  ·subst h;rw[J]at Y;cases Y;rfl
  ·have:=D j i X hi1 h;rw[(acW.1 J).2,(acW.1 Y).2]at this;exact absurd e.symm this
 refine⟨O,sv w,b,es,clock,(alY.1 hb).1,?_,hb,?_,?_⟩
 ·rw[World.var?_cell hg h3,<-apS,K];rfl
 ·have hl':w.length=es.toList.length:=by
    have:=ag3 List.length Q;simp only[afm]at this;omega
  have key: ∀ (T:List (Nat×lB×Nat)) (M:List MapEntry),T.length=M.length->(∀ (i:Nat) x m,T[i]?=some x->M[i]?=some m->m.key= .int .u8 x.1/\m.val= .func (.func x.2.2) #[] #[])->gg (G0 W.heap.size W) (sv T) M:=by
   intro T
   induction T with
   |nil=>
    intro M hM _;cases M with
    |nil=>rfl
    |cons m M=>simp at hM
   |cons x T ih=>
    intro M hM hh;cases M with
    |nil=>simp at hM
    |cons m M=>
     obtain⟨e1,e2⟩:=hh 0 x m rfl rfl;refine⟨m,M,rfl,rfl,by rw[e1];rfl,by rw[e2];exact⟨.func x.2.2,#[],#[],rfl,rfl,rfl,rfl⟩,ih M (by simpa using hM) λi x' m' C hm=>hh (i+1) x' m' (by simpa using C) (by simpa using hm)⟩
  refine key w es.toList hl' λi x m C hm=>?_
  obtain⟨y,F,hy1,hy2,hy3⟩:=B i m hm;have e1: (entries.map (·.1))[i]?=some (Lit.int .u8 x.1,DataW.held x.2.1):=by
   rw[<-Q,afE,C];rfl
  rw[hy1]at e1;simp only[adF,apL,Lit.int.injEq,ayz]at e1;have e2:y.1=x.1:=by have:=e1.1;omega
  have:y=x:=Z y F x (R.mem_iff.1 (alp C)) e2;subst this;exact⟨hy2,hy3⟩
 ·intro k v hf;refine aqp (λp hp=>?_) (R.symm.map _) ?_ hf
  ·obtain⟨x,_,rfl⟩:=afq.1 hp;exact⟨x.1,rfl⟩
  ·rw[aA3];refine D.imp λhab=>?_
   simp only[ne_eq,AV.int.injEq,ayz];omega
end
section
variable{X:Ctx}
def aqw{args:lA}{E:AS}{r:aV}(h:lU X (D X) Lw l args E=some r):D X (.fn (.yield l) [] []) args E=some r:=
 Ht (by trivial)
def Ex.code:Ex->PC
 |.ret=>.ret
 |.exit id=>.exit id
 |_=>.skip
end
section
structure YV(S:Type)where
 P:S->List ae->Prop
 row:S->oN
 cE:Nat->Prop
 c:Nat
structure YV.Ok{S:Type}(V:YV S):Prop where
 st: ∀s W W',V.P s W->(∀i,V.cE i\/V.row s=some i->W'[i]?=W[i]?)->V.P s W'
 lt: ∀s W r,V.P s W->V.row s=some r-> ∃v z t af,W[r]?=some (.row v z t af)
def YV.Fr{S:Type}(V:YV S)(s:S)(W a:List ae):Prop:=W.length<=a.length/\ ∀i,i<W.length-> ¬V.cE i->V.row s≠some i->a[i]?=W[i]?
def lb(c b:Nat)(lo ak:oN)(r a:oN):Prop:=(ak=lo/\a=r)\/ ∃j,c<=j/\j<b/\ak=cJ lo j
variable{X:Ctx}
def H5(X:Ctx){S:Type}(V:YV S)(b:Nat)(y:AV)(x:lA)(s:S)(Q:Bool->S->Prop):Prop:=
 ∀W,V.P s W->b<=W.length-> ∀lo,∃c s' a ak,D X y x ⟨W,lo⟩=some (.ret (.bool c) ⟨a,ak⟩)/\V.P s' a/\V.Fr s W a/\ (V.row s'=V.row s\/ ∃r,V.row s'=some r/\W.length<=r)/\lb V.c b lo ak (V.row s) (V.row s')/\Q c s'
def uQ(X:Ctx)(g:AV)(a:Nat)(G:List ae)(xs:List lA):Prop:=
 ∀ (S:Type) (V:YV S) (y:AV) (I:Nat->S->Prop) (J:S->Prop) (b:Nat),V.Ok->(∀i,V.cE i->i<b/\ ¬(a<=i/\i<a+G.length))->
   (∀j x s,xs[j]?=some x->I j s->H5 X V b y x s (λc s'=>if c=true then I (j+1) s' else J s'))->
   ∀W s,V.P s W->I 0 s->W.length=b->V.row s=none->(∀i,i<G.length->W[a+i]?=G[i]?)-> ∀lo,∃s' d ak,
    D X g [y] ⟨W,lo⟩=some (.ret (.az []) ⟨d,ak⟩)/\V.P s' d/\ (I xs.length s'\/J s')/\b<=d.length/\
    (∀i,i<b-> ¬V.cE i-> ¬(a<=i/\i<a+G.length)->d[i]?=W[i]?)/\lb V.c b lo ak none (V.row s')
def OO(X:Ctx){S:Type}(V:YV S)(b:Nat)(g:AV)(a:Nat)(G:List ae)(xs:List lA):Prop:=
 ∀ (y:Nat) (I:Nat->S->Prop) (J:S->Prop),(∀i,V.cE i->i<b/\ ¬(a<=i/\i<a+G.length))->
   (∀j x s,xs[j]?=some x->I j s->H5 X V b (.fn (.yield y) [] []) x s (λc s'=>if c=true then I (j+1) s' else J s'))->
   ∀W s,V.P s W->I 0 s->W.length=b->V.row s=none->(∀i,i<G.length->W[a+i]?=G[i]?)-> ∀lo,∃s' d ak,
    D X g [.fn (.yield y) [] []] ⟨W,lo⟩=some (.ret (.az []) ⟨d,ak⟩)/\V.P s' d/\ (I xs.length s'\/J s')/\b<=d.length/\
    (∀i,i<b-> ¬V.cE i-> ¬(a<=i/\i<a+G.length)->d[i]?=W[i]?)/\lb V.c b lo ak none (V.row s')
theorem DF:cJ none j=some j:=rfl
def adH: ∃q,cJ (some i) j=some q/\ (q=i\/q=j):=by
 refine⟨Nat.min j i,rfl,?_⟩
 grind
def OP{S:Type}(V:YV S)(b:Nat)(s:S)(W:List ae)(I:S->Prop)(J:Ex->S->Prop):bR:=λex _ E=>
 ∃s',V.P s' E.heap/\V.Fr s W E.heap/\ ((E.lo=none/\V.row s'=V.row s)\/ ∃j,V.c<=j/\j<b/\E.lo=some j/\ (V.row s'=V.row s\/ ∃r,V.row s'=some r/\W.length<=r))/\
  (match ex with|.normal=>I s'|.panic _=>False|ex=>J ex s')
def OQ{H:List ae}(a:v.refs=0): (finish n lo v ⟨H,ak⟩).2=(match ak with|none=>⟨H.take n,lo⟩|some j=>if n<=j then⟨H.take n,lo⟩else⟨H,cJ lo j⟩):=by
 have c: ∀k E,freeze E n (k+1) v=some v:=λk E=>yP (by omega)
 unfold finish;cases ak with
 |none=>grind
 |some j=>
  simp only[agQ];split
  ·grind
  ·rfl
def qS{W:List ae}{o:ae}(h:i≠l): (W.set l o)[i]?=W[i]?:=by grind
def adI{W:List ae}{o:ae}(h:l<W.length): (W.set l o)[l]?=some o:=by grind
def yV{S:Type}(V:YV S)(m:Nat)(f:FuncId)(e:Env)(a:lN)(as d:PC):YV (S×Option Ex)where
 P:=λs W=>V.P s.1 W/\W[m]?=some .fI/\W[m+1]?=some (match s.2 with|none=>.loop .ready none f e a as d|some ex=>.loop .done (some ex.code) f e a as d)
 row:=λs=>V.row s.1
 cE:=λi=>V.cE i\/i=m\/i=m+1
 c:=V.c
def H6{S:Type}{V:YV S}(c:V.Ok){d:lN}{as n:PC}: (yV V m f e d as n).Ok where
 st:=λs W o ⟨l,k,j⟩ h=>by
  refine⟨c.st _ _ _ l λi a=>h i ?_,?_,?_⟩
  ·rcases a with a|a
   ·exact .inl (.inl a)
   ·exact .inr a
  ·rw[h m (.inl (.inr (.inl rfl)))];exact k
  ·rw[h (m+1) (.inl (.inr (.inr rfl)))];exact j
 lt:=λs W r h g=>c.lt _ _ r h.1 g
def adJ{S:Type}(V:YV S)(O:V.Ok){g:aq}{n:lN}{as q:PC}{Q:bR}(xs:List lA)(a:Nat)(G W0:List ae)(s0:S)
  (hg:qC X (g.get e)=true) (hit:OO X (yV V W0.length f e n as q) (W0.length+2) (g.get e) a G xs) (hG: ∀i,i<G.length->W0[a+i]?=G[i]?) (hGl:a+G.length<=W0.length)
  (p: ∀i,V.cE i->i<W0.length/\ ¬(a<=i/\i<a+G.length)) (hP:V.P s0 W0) (T:V.row s0=none)
  (I:Nat->S->Prop) (J:Ex->S->Prop) (h0:I 0 s0) (hJ: ∀ex s,J ex s-> ∃t,qE ex=some (some t)/\x8 t=some ex/\ex.code=t)
  (hb: ∀j x s,xs[j]?=some x->I j s->x.length=n.length/\ ∀W,V.P s W->W0.length+2<=W.length->
    wp X f true as ⟨iG e n x,[]⟩ ⟨W,none⟩ (λex fr H7=>ex= .normal/\ ∃R1,H7=⟨W++R1,none⟩/\
     ∀H,H.length=W.length->V.P s H->wp X f true q fr ⟨H++R1,none⟩ (OP V (W0.length+2) s H (I (j+1)) J)))
  (h1: ∀s' k ak,I xs.length s'->V.P s' k->W0.length+2<=k.length->k[W0.length]?=some .fI->(∀i,i<W0.length-> ¬V.cE i-> ¬(a<=i/\i<a+G.length)->k[i]?=W0[i]?)->lb V.c (W0.length+2) none ak none (V.row s')->Q .normal ⟨e,[W0.length]⟩ ⟨k,ak⟩)
  (h2: ∀ex s' k ak,J ex s'->V.P s' k->W0.length+2<=k.length->k[W0.length]?=some .fI->(∀i,i<W0.length-> ¬V.cE i-> ¬(a<=i/\i<a+G.length)->k[i]?=W0[i]?)->lb V.c (W0.length+2) none ak none (V.row s')->Q ex ⟨e,[W0.length]⟩ ⟨k,ak⟩):
  wp X f false (.iE g n as q) ⟨e,[]⟩ ⟨W0,none⟩ Q:=by
 obtain⟨m,hm⟩: ∃m,m=W0.length:=⟨_,rfl⟩;rw[<-hm]at hit
 let A:=yV V m f e n as q
 have hV':A.Ok:=H6 O
 let I':Nat->S×Option Ex->Prop:=λj s=>s.2=none/\I j s.1
 let J':S×Option Ex->Prop:=λs=> ∃ex,s.2=some ex/\J ex s.1
 have wF: ∀s W r,V.P s W->V.row s=some r->r<W.length:=λs W r h1 h2=>by
  obtain⟨_,_,_,_,h⟩:=O.lt s W r h1 h2;exact(acW.1 h).1
 have aqx: ∀j x s,xs[j]?=some x->I' j s->H5 X A (m+2) (.fn (.yield (m+1)) [] []) x s (λc s'=>if c=true then I' (j+1) s' else J' s'):=by
  rintro j x ⟨s,so⟩ hx ⟨y,hI⟩ W ⟨L,hd,hl⟩ hW lo;simp only at y hI L hl;subst y;simp only at hl;obtain⟨qJ,hw⟩:=hb j x s hx hI;obtain⟨ex,fr,H7,hr1,rfl,R1,rfl,hbd⟩:=hw W L (by omega);have OR: ∀i,V.cE i\/V.row s=some i->i≠m/\i≠m+1:=by
   rintro i (d|d)
   ·have:=(p i d).1;omega
   ·obtain⟨_,_,_,_,h⟩:=O.lt s W i L d;refine⟨?_,?_⟩
    ·rintro rfl;rw[hd]at h;cases h
    ·rintro rfl;rw[hl]at h;cases h
  obtain⟨H,E⟩: ∃H,H=W.set (m+1) (.loop .busy none f e n as q):=⟨_,rfl⟩;have AP:H.length=W.length:=by rw[E,afw]
  have OS:V.P s H:=O.st _ _ _ L λi d=>by rw[E,qS (OR i d).2]
  obtain⟨H8,fr2,l,hr2,s',F,P,N,hex⟩:=hbd H AP OS;have A3: (W++R1)[m+1]?=some (.loop .ready none f e n as q):=by rw[acV (by omega)];exact hl
  have aqB:AS.set ⟨W++R1,none⟩ (m+1) (.loop .busy none f e n as q) 0=⟨H++R1,none⟩:=by
   simp only[AS.set,aee,afK,E];rw[aqu _ _ (by omega)]
  have aqC:H[m+1]?=some (.loop .busy none f e n as q):=by rw[E];exact adI (by omega)
  have M: ∀i,i=m\/i=m+1-> ¬V.cE i/\V.row s≠some i:=λi d=>⟨λh=>by have:=(p i h).1;omega,λh=>by have:=OR i (.inr h);omega⟩
  have K:l.heap[m+1]?=some (.loop .busy none f e n as q):=by
   rw[P.2 (m+1) (by omega) (M _ (.inr rfl)).1 (M _ (.inr rfl)).2];exact aqC
  have R:l.heap[m]?=some .fI:=by
   rw[P.2 m (by omega) (M _ (.inl rfl)).1 (M _ (.inl rfl)).2,E,qS (by omega)];exact hd
  have Y: ∀i,V.cE i\/V.row s'=some i->i≠m/\i≠m+1:=by
   rintro i (d|d)
   ·have:=(p i d).1;omega
   ·obtain⟨_,_,_,_,h⟩:=O.lt s' _ i F d;refine⟨?_,?_⟩
    ·rintro rfl;rw[R]at h;cases h
    ·rintro rfl;rw[K]at h;cases h
  have aCt:W.length<=l.heap.length:=by have:=P.1;omega
  have Dk: ∀ (t:Option PC),qE H8=some t->lU X (D X) Lw (m+1) x ⟨W,lo⟩=some (.ret (.bool t.isNone)
    (finish W.length lo (.bool t.isNone) ⟨l.heap.set (m+1) (.loop (if t.isNone then .ready else .done) t f e n as q),l.lo⟩).2):=by
   intro t OT;unfold lU;simp only[hl];rw[adG qJ,hr1];simp only[A3,aqB,hr2];simp only[endRound,OT,K,AS.set,aee,afK]
  have key: ∀ (t:Option PC) (u:Option Ex),qE H8=some t->(match u with|none=>ae.loop .ready none f e n as q|some ex=>.loop .done (some ex.code) f e n as q)= .loop (if t.isNone then .ready else .done) t f e n as q->
    ∃k ak,D X (.fn (.yield (m+1)) [] []) x ⟨W,lo⟩=some (.ret (.bool t.isNone) ⟨k,ak⟩)/\A.P (s',u) k/\A.Fr (s,none) W k/\ (A.row (s',u)=A.row (s,none)\/ ∃r,A.row (s',u)=some r/\W.length<=r)/\lb A.c (m+2) lo ak (A.row (s,none)) (A.row (s',u)):=by
   intro t u OT U;obtain⟨o,ho⟩: ∃o,o=ae.loop (if t.isNone then .ready else .done) t f e n as q:=⟨_,rfl⟩;rw[<-ho]at U;have hD:=aqw (Dk t OT);rw[<-ho]at hD;have Z: ∀k,(∀i,i<W.length->k[i]?=(l.heap.set (m+1) o)[i]?)->(∀i,V.row s'=some i->k[i]?=(l.heap.set (m+1) o)[i]?)->W.length<=k.length->A.P (s',u) k/\A.Fr (s,none) W k:=by
    intro k z hrw w;refine⟨⟨O.st _ _ _ F λi d=>?_,?_,?_⟩,w,λi d hp B=>?_⟩
    ·rcases d with d|d
     ·rw[z i (by have:=(p i d).1;omega),qS (Y i (.inl d)).2]
     ·rw[hrw i d,qS (Y i (.inr d)).2]
    ·rw[z m (by omega),qS (by omega)];exact R
    ·rw[z (m+1) (by omega),adI (by omega)];exact ag3 some U.symm
    ·have hp1: ¬V.cE i:=λh=>hp (.inl h)
     have A4:i≠m/\i≠m+1:=⟨λh=>hp (.inr (.inl h)),λh=>hp (.inr (.inr h))⟩;rw[z i d,qS A4.2,P.2 i (by omega) hp1 B,E,qS A4.2]
   rcases N with⟨hn,B⟩| ⟨jj,hc,hj,hn,B⟩
   ·have e1: (finish W.length lo (.bool t.isNone) ⟨l.heap.set (m+1) o,l.lo⟩).2=⟨(l.heap.set (m+1) o).take W.length,lo⟩:=by rw[OQ rfl,hn]
    rw[e1]at hD;refine⟨_,_,hD,?_⟩;obtain⟨g1,g2⟩:=Z ((l.heap.set (m+1) o).take W.length) (λi d=>by rw[afD d])
     (λi d=>by rw[afD (wF s W i L (by rw[<-B];exact d))]) (by rw[afC,afw];omega)
    exact⟨g1,g2,.inl B,.inl ⟨rfl,B⟩⟩
   ·have e1: (finish W.length lo (.bool t.isNone) ⟨l.heap.set (m+1) o,l.lo⟩).2=⟨l.heap.set (m+1) o,cJ lo jj⟩:=by
      rw[OQ rfl,hn];simp only;rw[adE (by omega)]
    rw[e1]at hD;refine⟨_,_,hD,?_⟩;obtain⟨g1,g2⟩:=Z (l.heap.set (m+1) o) (λi _=>rfl) (λi _=>rfl) (by rw[afw];omega);refine⟨g1,g2,?_,.inr ⟨jj,hc,by omega,rfl⟩⟩;rcases B with B| ⟨r,B,aCu⟩
    ·exact .inl B
    ·exact .inr ⟨r,B,by omega⟩
  cases H8 with
  |normal=>
   obtain⟨k,ak,g1,g2,g3,g4,g5⟩:=key none none rfl rfl;exact⟨true,(s',none),k,ak,g1,g2,g3,g4,g5,by simp only[afK];exact⟨rfl,hex⟩⟩
  |panic v=>exact hex.elim
  |ret=>
   obtain⟨k,ak,g1,g2,g3,g4,g5⟩:=key (some .ret) (some .ret) rfl rfl;exact⟨false,(s',some .ret),k,ak,g1,g2,g3,g4,g5,by simp only[afp,aha];exact⟨.ret,rfl,hex⟩⟩
  |exit id=>
   obtain⟨k,ak,g1,g2,g3,g4,g5⟩:=key (some (.exit id)) (some (.exit id)) rfl rfl;exact⟨false,(s',some (.exit id)),k,ak,g1,g2,g3,g4,g5,by simp only[afp,aha];exact⟨.exit id,rfl,hex⟩⟩
 have aqF: ∀i,A.cE i->i<m+2/\ ¬(a<=i/\i<a+G.length):=by
  rintro i (d|rfl|rfl)
  ·have:=p i d;exact⟨by omega,this.2⟩
  ·exact⟨by omega,by omega⟩
  ·exact⟨by omega,by omega⟩
 have aqG: ∀i,V.cE i\/V.row s0=some i->i<W0.length:=by
  rintro i (d|d)
  ·exact(p i d).1
  ·rw[T]at d;cases d
 have DG:A.P (s0,none) (W0++[.fI,.loop .ready none f e n as q]):=by
  refine⟨O.st _ _ _ hP λi d=>by rw[acV (aqG i d)],?_,?_⟩
  ·rw[hm,dI rfl];rfl
  ·rw[hm,bF rfl];rfl
 obtain⟨⟨s',u⟩,k,ak,hD,⟨F,AL,C⟩,hor,w,o6,N⟩:=hit (m+1) I' J' aqF aqx (W0++[.fI,.loop .ready none f e n as q]) (s0,none) DG ⟨rfl,h0⟩ (by simp[hm]) T
  (λi d=>by rw[acV (by omega)];exact hG i d) none
 simp only at F C;have aqH: ∀i,V.cE i\/V.row s'=some i->i≠m/\i≠m+1:=by
  rintro i (d|d)
  ·have:=(p i d).1;omega
  ·obtain⟨_,_,_,_,h⟩:=O.lt s' _ i F d;refine⟨?_,?_⟩
   ·rintro rfl;rw[AL]at h;cases h
   ·rintro rfl;rw[C]at h;cases u<;>cases h
 have adN: ∀o,V.P s' (k.set (m+1) o)/\m+2<=(k.set (m+1) o).length/\ (k.set (m+1) o)[m]?=some .fI/\ (∀i,i<m-> ¬V.cE i-> ¬(a<=i/\i<a+G.length)->(k.set (m+1) o)[i]?=W0[i]?):=by
  intro o;refine⟨O.st _ _ _ F λi d=>by rw[qS (aqH i d).2],by rw[afw];exact w,by rw[qS (by omega)];exact AL,λi d hp hg'=>?_⟩;rw[qS (by omega),o6 i (by omega) (λh=>by rcases h with h|h|h;exact hp h;omega;omega) hg',acV (by omega)]
 have aqJ: ((AS.push ⟨W0,none⟩ .fI).push (.loop .ready none f e n as q))=(⟨W0++[.fI,.loop .ready none f e n as q],none⟩:AS):=by simp[AS.push]
 have hrc: ∀r,endLoop (m+1) ⟨e,[m]⟩ ⟨k,ak⟩=some r->bh X (D X) Lw f false (.iE g n as q) ⟨e,[]⟩ ⟨W0,none⟩=some r:=by
  intro r B;simp only[bh,afp,aha];rw[adG hg,<-hm,aqJ,hD];exact B
 rcases hor with⟨y,hI⟩| ⟨ex,y,hJx⟩
 ·simp only at y;subst y;simp only at C;obtain⟨q1,q2,q3,q4⟩:=adN (.loop .exhausted none f e n as q);refine⟨.normal,⟨e,[m]⟩,⟨k.set (m+1) (.loop .exhausted none f e n as q),ak⟩,hrc _ ?_,?_⟩
  ·unfold endLoop;simp only[C,AS.set,aee,afK];rfl
  ·rw[hm]at q2 q3 q4⊢;exact h1 s' _ ak hI (hm ▸ q1) q2 q3 q4 (hm ▸ N)
 ·simp only at y;subst y;simp only at C;obtain⟨t,j1,j2,j3⟩:=hJ ex s' hJx;obtain⟨q1,q2,q3,q4⟩:=adN (.loop .exhausted (some ex.code) f e n as q);refine⟨ex,⟨e,[m]⟩,⟨k.set (m+1) (.loop .exhausted (some ex.code) f e n as q),ak⟩,hrc _ ?_,?_⟩
  ·unfold endLoop;simp only[C,j3,j2,AS.set,aee,afK];rfl
  ·rw[hm]at q2 q3 q4⊢;exact h2 ex s' _ ak hJx (hm ▸ q1) q2 q3 q4 (hm ▸ N)
structure kA{S:Type}(V:YV S)(b:Nat)(W0:List ae)(own:Nat->Prop)(s:S)(W:List ae)(lo:oN):Prop where
 P:V.P s W
 len:b<=W.length
 fr: ∀i,i<b-> ¬V.cE i-> ¬own i->W[i]?=W0[i]?
 lo: (lo=none/\V.row s=none)\/ ∃j,V.c<=j/\j<b/\lo=some j
 row: ∀r,V.row s=some r->b<=r
def OU{S:Type}(V:YV S)(r:V.Ok){g:aq}{n:lN}{as t:PC}{Q:bR}(xs:List lA)(a:Nat)(G W0:List ae)(k:S)
  (w:qC X (g.get e)=true) (p:uQ X (g.get e) a G xs) (C: ∀i,i<G.length->W0[a+i]?=G[i]?) (q:a+G.length<=W0.length)
  (h: ∀i,V.cE i->i<W0.length/\ ¬(a<=i/\i<a+G.length)) (A:V.P k W0) (d:V.row k=none)
  (I:Nat->S->Prop) (J:Ex->S->Prop) (F:I 0 k) (B: ∀ex s,J ex s-> ∃o,qE ex=some (some o)/\x8 o=some ex/\ex.code=o)
  (z: ∀j x s,xs[j]?=some x->I j s->x.length=n.length/\ ∀W,V.P s W->W0.length+2<=W.length->
    wp X f true as ⟨iG e n x,[]⟩ ⟨W,none⟩ (λex fr m=>ex= .normal/\ ∃R1,m=⟨W++R1,none⟩/\
     ∀l,l.length=W.length->V.P s l->wp X f true t fr ⟨l++R1,none⟩ (OP V (W0.length+2) s l (I (j+1)) J)))
  (E: ∀s' c ak,I xs.length s'->V.P s' c->W0.length+2<=c.length->c[W0.length]?=some .fI->(∀i,i<W0.length-> ¬V.cE i-> ¬(a<=i/\i<a+G.length)->c[i]?=W0[i]?)->lb V.c (W0.length+2) none ak none (V.row s')->Q .normal ⟨e,[W0.length]⟩ ⟨c,ak⟩)
  (D: ∀ex s' c ak,J ex s'->V.P s' c->W0.length+2<=c.length->c[W0.length]?=some .fI->(∀i,i<W0.length-> ¬V.cE i-> ¬(a<=i/\i<a+G.length)->c[i]?=W0[i]?)->lb V.c (W0.length+2) none ak none (V.row s')->Q ex ⟨e,[W0.length]⟩ ⟨c,ak⟩):
  wp X f false (.iE g n as t) ⟨e,[]⟩ ⟨W0,none⟩ Q:=
 adJ V r xs a G W0 k w (λy I J v u=>p _ _ _ I J _ (H6 r) v u) C q h A d I J F B z E D
section
variable{S:Type}{V:YV S}{b:Nat}{W0 W:List ae}{own:Nat->Prop}{s:S}{lo:oN}
def YV.Ok.H9(a:V.Ok)(d:V.P s W)(c:V.row s=some r):r<W.length:=by
 obtain⟨_,_,_,_,h⟩:=a.lt s W r d c
 grind
def kA.push(c:V.Ok)(d: ∀i,V.cE i->i<b)(h:kA V b W0 own s W lo)(L:List ae):kA V b W0 own s (W++L) lo where
 P:=c.st _ _ _ h.P λi a=>by
  have:i<W.length:=by
   rcases a with a|a
   ·have:=d i a;have:=h.len;omega
   ·exact c.H9 h.P a
  grind
 len:=by have:=h.len;grind
 fr:=λi a f e=>by rw[acV (by have:=h.len;omega)];exact h.fr i a f e
 lo:=h.lo
 row:=h.row
theorem kA.set(c:V.Ok)(h:kA V b W0 own s W lo){o:ae}(g: ¬V.cE k)(f:V.row s≠some k)(ho:own k\/b<=k):kA V b W0 own s (W.set k o) lo where
 P:=c.st _ _ _ h.P λi a=>by grind
 len:=by rw[afw];exact h.len
 fr:=λi a e d=>by
  rw[qS]
  ·exact h.fr i a e d
  grind
 lo:=h.lo
 row:=h.row
def kA.step(h:kA V b W0 own s W lo){s':S}{c:List ae}(t:V.P s' c)(g:V.Fr s W c)(p:V.row s'=V.row s\/ ∃r,V.row s'=some r/\W.length<=r)(o:lb V.c b lo ak (V.row s) (V.row s')):kA V b W0 own s' c ak where
 P:=t
 len:=ag2 h.len g.1
 fr:=λi f a d=>by
  have w:=h.len;rw[g.2 i (by omega) a (λe=>by have:=h.row i e;omega)];exact h.fr i f a d
 lo:=by
  rcases o with⟨rfl,e⟩| ⟨j,n,l,rfl⟩
  ·rcases h.lo with⟨a,d⟩|q
   ·grind
   grind
  ·rcases h.lo with⟨rfl,_⟩| ⟨i,m,f,rfl⟩
   ·exact .inr ⟨j,n,l,rfl⟩
   ·obtain⟨q,e,v⟩:=adH (i:=i) (j:=j)
    grind
 row:=λr e=>by
  rcases p with q| ⟨u,q,k⟩
  ·exact h.row r (by grind)
  ·rw[q]at e;cases e;exact ag2 h.len k
def kA.fin(m:V.Ok)(p: ∀i,V.cE i->i<b)(h:kA V b W0 own s W lo){dS:oN}: ∃a ak,(finish b dS (.az []) ⟨W,lo⟩)=(.az [],⟨a,ak⟩)/\V.P s a/\b<=a.length/\
  (∀i,i<b-> ¬V.cE i-> ¬own i->a[i]?=W0[i]?)/\lb V.c b dS ak none (V.row s):=by
 have e: (finish b dS (.az []) ⟨W,lo⟩).1= .az []:=by
  have r:freeze ⟨W,lo⟩ b 12 (.az [])=some (.az []):=yP (aee _);have key: ∀c:Bool,(if c=true then(match freeze ⟨W,lo⟩ b 12 (.az [])with|some v'=>(v',(⟨W.take b,dS⟩:AS))|none=>(.az [],⟨W,gZ dS lo⟩))else(.az [],⟨W,gZ dS lo⟩)).1= .az []:=by grind
  cases lo with
  |none=>exact key true
  |some j=>exact key (decide (b<=j))
 have o:=OQ (n:=b) (lo:=dS) (ak:=lo) (v:=.az []) (H:=W) rfl;rcases h.lo with⟨rfl,q⟩| ⟨j,l,k,rfl⟩
 ·refine⟨W.take b,dS,Prod.ext e o,?_,?_,?_,.inl ⟨rfl,q⟩⟩
  ·refine m.st _ _ _ h.P λi d=>?_
   grind
  ·rw[afC];have:=h.len;omega
  ·intro i d g f;rw[afD d];exact h.fr i d g f
 ·refine⟨W,cJ dS j,Prod.ext e ?_,h.P,h.len,h.fr,.inr ⟨j,l,k,rfl⟩⟩
  grind
end
def SV(p sz:Nat)(ty:TypeId)(W:List ae)(r:oN)(af:List lA):Prop:=
 (r=none/\af=[]/\W[p]?=some (.box [.av] none))\/ ∃id aj,r=some id/\af≠[]/\p<id/\W[p]?=some (.box [.ref id aj sz 0 af.length false] none)/\W[id]?=some (.row aj sz ty af)
def SV.st{ty:TypeId}{W f:List ae}{r:oN}(h:SV p sz ty W r af)(j:f[p]?=W[p]?)(g: ∀i,r=some i->f[i]?=W[i]?):SV p sz ty f r af:=by
 rcases h with⟨a,b,c⟩| ⟨id,aj,a,e,b,c,d⟩
 ·exact .inl ⟨a,b,by grind⟩
 ·exact .inr ⟨id,aj,a,e,b,by grind,by grind⟩
theorem SV.row{ty:TypeId}{W:List ae}{r:oN}(h:SV p sz ty W r af)(e:r=some i): ∃v z t es,W[i]?=some (.row v z t es):=by
 rcases h with⟨a,b,c⟩| ⟨id,aj,a,f,b,c,d⟩
 ·grind
 grind
def adQ{H:List ae}{v0:AV}(h:H[p]?=some (.box [v0] tg))(c:v.cp=false)(a:v.cells=[v])(d:p+1<v.refs):kq ⟨H,lo⟩ 1 (.ptr p 0) v=some ⟨H.set p (.box [v] tg),cJ lo p⟩:=by
 unfold kq;simp only[h,a];rw[adG ⟨c,rfl,aef _⟩];simp only[AS.set];rw[adE (by omega)];rfl
def SV.append{bytes:Nat}{ty:TypeId}{W:List ae}{r:oN}{el:lA}(h:SV p sz ty W r af)(l:p<W.length)(t:0<sz)(w:el.length=sz)(u:aL el=0)(n: (af.length+1)*bytes<=room)(lo:oN):
  ∃v v' o a f,W[p]?=some (.box [v] none)/\dL ⟨W,lo⟩ ty sz bytes v [el]=some (v',⟨o,lo⟩)/\kq ⟨o,lo⟩ 1 (.ptr p 0) v'=some ⟨a,cJ lo p⟩/\SV p sz ty a f (af++[el])/\
   W.length<=a.length/\ (∀i,i<W.length->i≠p->r≠some i->a[i]?=W[i]?)/\ (f=r\/ ∃q,f=some q/\W.length<=q):=by
 have m:0<sz/\ [el].all (λx=>x.length==sz)=true:=⟨t,by grind⟩;rcases h with⟨rfl,rfl,c⟩| ⟨id,aj,rfl,_,g,c,d⟩
 ·have e1:dL ⟨W,lo⟩ ty sz bytes .av [el]=some (.ref W.length 0 sz 0 1 false,⟨W++[.row 0 sz ty [el]],lo⟩):=by
    unfold dL;rw[adG m];simp only[afx,anD,akO,Nat.one_ne_zero,aha];rw[adG (by simpa using n)];rfl
  have k: (W++[ae.row 0 sz ty [el]])[p]?=some (.box [.av] none):=by rw[acV l];exact c
  refine⟨.av,_,_,(W++[ae.row 0 sz ty [el]]).set p (.box [.ref W.length 0 sz 0 1 false] none),some W.length,c,e1,?_,.inr ⟨W.length,0,rfl,by simp,l,?_,?_⟩,?_,?_,.inr ⟨_,rfl,aef _⟩⟩
  ·exact adQ k rfl rfl (by simp only[AV.refs];omega)
  ·exact aed (by rw[aeb];omega)
  ·rw[acT (by omega)];simp
  ·simp
  grind
 ·have j:=(acW.1 d).1;have e1:dL ⟨W,lo⟩ ty sz bytes (.ref id aj sz 0 af.length false) [el]=some (.ref id (aj+1) sz 0 (af.length+1) false,⟨W.set id (.row (aj+1) sz ty (af++[el])),lo⟩):=by
   unfold dL;rw[adG m];simp only[d];rw[adG ⟨trivial,trivial,trivial,trivial,by omega,by simpa using n⟩];simp[AS.set,ca,u]
  have k: (W.set id (ae.row (aj+1) sz ty (af++[el])))[p]?=some (.box [.ref id aj sz 0 af.length false] none):=by rw[acT (by omega)];exact c
  refine⟨_,_,_,(W.set id (.row (aj+1) sz ty (af++[el]))).set p (.box [.ref id (aj+1) sz 0 (af.length+1) false] none),some id,c,e1,?_,.inr ⟨id,aj+1,rfl,by simp,g,?_,?_⟩,?_,?_,.inl rfl⟩
  ·exact adQ k rfl rfl (by simp only[AV.refs];omega)
  ·rw[aed (by rw[afw];omega)];simp
  ·rw[acT (by omega),aed j]
  ·simp
  ·intro i A z y;rw[acT (λe=>z e.symm),acT (λe=>y (by rw[e]))]
end
section
variable{X:Ctx}{f:FuncId}{rd:Bool}{E:AS}{Q:bR}{e:Env}{ms:lN}{bG:List FP}{js:lN}{os:List (aR×lN)}{i:I}{d:oN}{dd t:Nat}{v:AV}
def A5(bG:List FP)(o:aR)(js:lN)(os:List (aR×lN))(e:Env)(ms:lN)(Q:bR):AV->AS->Prop:=λv E=>CR bG (o,js) os=true/\Q (.panic v) ⟨e,ms⟩ E
def gD(X:Ctx)(t:Nat)(b:Bool)(d:oN)(i:I)(js:lN)(os:List (aR×lN))(bG:List FP)(e:Env)(ms:lN)(E:AS)(Q:bR)(c:AV):Prop:=match c with
 |.bool x=>if x=b then aS X i e E (kD X i E bG js os d e ms Q) (A5 bG ⟨some (t,b),d,i⟩ js os e ms Q)else hH X (bG++[.no]) os (Fr.put ⟨e,ms⟩ d .undef) E Q
 |_=>hH X (bG++[.no]) os (Fr.put ⟨e,ms⟩ d .undef) E Q
def adR{b:Bool}:hH X bG ((⟨some (t,b),d,i⟩,js)::os) ⟨e,ms⟩ E Q=gD X t b d i js os bG e ms E Q (e t):=by
 unfold gD;split
 ·rename_i x a;by_cases h:x=b
  ·subst h;apply propext;simp only[hH,aS,gM,gw,a,beq_self_eq_true,afK];cases a:exec X (D X) i e E with
   |none=>simp[qN]
   |some o=>
    cases o with
    |ok v g=>
     simp only[qN,Om];by_cases c:qP bG (a0 i e E g) js=true
     ·rw[adG c];exact⟨λh=>⟨c,h⟩,λh=>h.2⟩
     ·simp[kD,c]
    |panic v g=>
     simp only[qN,A5]
     grind
  ·rw[adE h];have: (x==b)=false:=by grind
   simp only[hH,gM,gw,a,this,afp,aha]
 ·have:gw e (some (t,b))=false:=by
    unfold gw;simp only
  simp only[hH,gM,this,afp,aha]
def adS:hH X bG ((gt t d i,js)::os) ⟨e,ms⟩ E Q=gD X t true d i js os bG e ms E Q (e t):=adR
def adT:hH X bG ((gf t d i,js)::os) ⟨e,ms⟩ E Q=gD X t false d i js os bG e ms E Q (e t):=adR
theorem adU:gD X t true (some dd) i js os bG e ms E Q (.bool true)=aS X i e E (kD X i E bG js os (some dd) e ms Q) (A5 bG ⟨some (t,true),(some dd),i⟩ js os e ms Q):=rfl
theorem adV:gD X t true none i js os bG e ms E Q (.bool true)=aS X i e E (kD X i E bG js os none e ms Q) (A5 bG ⟨some (t,true),none,i⟩ js os e ms Q):=rfl
theorem adW:gD X t false (some dd) i js os bG e ms E Q (.bool false)=aS X i e E (kD X i E bG js os (some dd) e ms Q) (A5 bG ⟨some (t,false),(some dd),i⟩ js os e ms Q):=rfl
theorem adX:gD X t false none i js os bG e ms E Q (.bool false)=aS X i e E (kD X i E bG js os none e ms Q) (A5 bG ⟨some (t,false),none,i⟩ js os e ms Q):=rfl
theorem adY:gD X t true (some dd) i js os bG e ms E Q (.bool false)=hH X (bG++[.no]) os ⟨e.set dd .undef,ms⟩ E Q:=rfl
theorem adZ:gD X t true none i js os bG e ms E Q (.bool false)=hH X (bG++[.no]) os ⟨e,ms⟩ E Q:=rfl
theorem ad0:gD X t false (some dd) i js os bG e ms E Q (.bool true)=hH X (bG++[.no]) os ⟨e.set dd .undef,ms⟩ E Q:=rfl
theorem ad1:gD X t false none i js os bG e ms E Q (.bool true)=hH X (bG++[.no]) os ⟨e,ms⟩ E Q:=rfl
theorem ad2{b:Bool}{c:lA}:gD X t b (some dd) i js os bG e ms E Q (.az c)=hH X (bG++[.no]) os ⟨e.set dd .undef,ms⟩ E Q:=rfl
theorem ad3{b:Bool}{c:lA}:gD X t b none i js os bG e ms E Q (.az c)=hH X (bG++[.no]) os ⟨e,ms⟩ E Q:=rfl
def G1:=gG @adS<|gG @adT<|gG @adU<|gG @adV<|gG @adW<|gG @adX<|gG @adY<|gG @adZ<|gG @ad0<|gG @ad1<|gG @ad2 @ad3
end
def Fz(E:AS)(N d:Nat)(v v':AV):Prop:= ∀k,freeze E N (k+d) v=some v'
def iJ(E:AS)(N d:Nat)(cs sw:lA):Prop:= ∀k,jt E N (k+d) cs=some sw
section
variable{E:AS}{N d:Nat}{a a' v v':AV}{cs sw:lA}
def Fz.low(h:v.refs<=N):Fz E N (d+1) v v:=λk=>yP h
def iJ.nil:iJ E N d [] []:=λk=>by cases h:k+d<;>rw[jt]
def iJ.cons(h:Fz E N d a a')(b:iJ E N (d+1) cs sw):iJ E N (d+1) (a::cs) (a'::sw):=λk=>by
 have e1:=h k;have c:=b k;rw[<-aiO]at c⊢;rw[jt,e1]
 grind
def iJ.eq(h:iJ E N d cs sw)(b:aL cs<=N):sw=cs:=by
 have e1:=h 2;rw[Nat.add_comm 2 d,OG cs b]at e1
 grind
theorem Fz.agg(h:iJ E N d cs sw):Fz E N (d+1) (.agg cs) (.agg sw):=λk=>by
 have e1:=h k;rw[<-aiO,freeze];split
 ·rename_i b;rw[h.eq b]
 grind
theorem Fz.az(h:iJ E N d cs sw):Fz E N (d+1) (.az cs) (.az sw):=λk=>by
 have e1:=h k;rw[<-aiO,freeze];split
 ·rename_i b;rw[h.eq b]
 grind
def Fz.own{H:List ae}{ty:TypeId}(h:aT N H v sz ty af)(b:ca af<=N):Fz ⟨H,lo⟩ N (d+4) v (bw v af):=λk=>by
 exact h.freeze b
def Fz.mono(h:Fz E N d v v')(b:d<=m):Fz E N m v v':=λk=>by
 have:=h (k+(m-d))
 grind
def uR{H:List ae}(b:ak=none\/ ∃j,N<=j/\ak=some j)(h:Fz ⟨H,ak⟩ N 12 v v'):finish N lo v ⟨H,ak⟩=(v',⟨H.take N,lo⟩):=by
 refine HC ?_ (by simpa using h 0)
 grind
def SV.own{ty:TypeId}{W:List ae}{r:oN}(h:SV p sz ty W r af)(f:N<=p)(b: ∀el∈af,el.length=sz): ∃v,W[p]?=some (.box [v] none)/\aT N W v sz ty af/\v.cp=false/\v.cells=[v]/\ (v= .av\/p+1<v.refs):=by
 rcases h with⟨_,rfl,c⟩| ⟨id,aj,_,_,q,c,e⟩
 ·exact⟨.av,c,aT.av,rfl,rfl,.inl rfl⟩
 ·exact⟨_,c,⟨b,.inr ⟨id,aj,by omega,rfl,e⟩⟩,rfl,rfl,.inr (by simp only[AV.refs];omega)⟩
end
def eF(N:Nat)(lo:oN):Prop:=lo=none\/ ∃j,N<=j/\lo=some j
def eF.min{N:Nat}(h:eF N lo)(b:N<=p)(c:ak=lo\/ak=cJ lo p):eF N ak:=by
 rcases c with rfl|rfl
 ·exact h
 ·rcases h with rfl| ⟨j,g,rfl⟩
  ·exact .inr ⟨p,b,rfl⟩
  ·obtain⟨q,e,f⟩:=adH (i:=j) (j:=p);exact .inr ⟨q,by omega,e⟩
section
variable{P:Program}{X:Ctx}{B:Nat}{aw:World}
noncomputable def A6(X:Ctx)(dS:oN)(pf:PF):jK->Option aV
 |some (.normal,fr,E)=>(dZ E fr.marks).bind λa=>(gp X a fr.env pf.results).map λv=>.ret v {heap:=a.heap,lo:=gZ dS a.lo}
 |some (.ret,fr,E)=>(dZ E fr.marks).bind λa=>(gp X a fr.env pf.results).map λv=>.ret v {heap:=a.heap,lo:=gZ dS a.lo}
 |_=>none
noncomputable def nY(X:Ctx)(C:bA)(L:eK)(f:FuncId)(pf:PF)(args:lA)(E:AS):Option aV:=
 if args.length<=pf.ntmps then A6 X E.lo pf (bh X C L f false pf.body {env:=ds args,marks:=[]} {heap:=E.heap,lo:=none})else none
def aqK{cu:AS}{G:Gh}{E:AS}(c:gx.le G)(d:aZ P B aw G E w)(b:AS.Ext {heap:=cu.heap,lo:=none} E){v:AV}{v':Value}(f:an G v v'):
  ∃a,gx.le a/\aZ P B aw a {heap:=E.heap,lo:=gZ cu.lo E.lo} w/\an a v v'/\cu.Ext {heap:=E.heap,lo:=gZ cu.lo E.lo}:=by
 refine⟨G,c,d.lo _,f,b.len,λj h=>?_,λj o h=>?_⟩
 ·cases E.lo with
  |none=>exact h
  |some l=>exact Ax (.inl h)
 ·obtain⟨o',k,i⟩:=b.obj j o h;refine⟨o',k,i.imp id λ ⟨l,e,g⟩=>?_⟩;simp only[gZ,e];exact Ax (.inr g)
section
variable{C:bA}(hC:fS P B aw C)(hg:fQ X B aw)(hX:oV P X)(hE:AG P X B aw){L:eK}(hL:yq L)
include hC hg hX hE hL
theorem aqL(V:lZ P f pf):gP P B aw f (nY X C L f pf):=by
 intro args E t h G w b hw U;unfold nY at h;split at h
 ·rename_i Y;obtain⟨rows,fn,o,n⟩:=V;obtain⟨c,y,l,m,T,q⟩:=G7 n;have k: (callFunc f b).run P w= .ok (.enter f b) w:=by
   have s: ¬fn.name= "runtime.NumGoroutine" :=by grind
   simp[callFunc,aqa,o,s,y]
  rw[k];show CallsIn (W none) 0 P f b w (Ends P B aw G E t);cases g:bh X C L f false pf.body {env:=ds args,marks:=[]} {heap:=E.heap,lo:=none}with
  |none=>rw[g]at h;simp[A6]at h
  |some res=>
   rw[g]at h;have he:cK G fn.ntmps (ds args) (b++Array.replicate (fn.ntmps-b.size) undef):=Ha U (by omega);refine axy o y trivial (wm hC hg hX hE hL (r:=none) rfl c pf.body l G {heap:=E.heap,lo:=none} w {env:=ds args,marks:=[]} _ res _ (hw.lo none) he rfl g (λe a w' S=>?_)) rfl;obtain⟨Z,K,J,I,H,F,u⟩:=S;obtain⟨ex,fr,z⟩:=res;have j: ((dZ z fr.marks).bind λd=>(gp X d fr.env pf.results).map λv=>aV.ret v {heap:=d.heap,lo:=gZ E.lo d.lo})=some t->LeavesInM (W none) 0 P fn a.tmps (Ends P B aw G E t) a.defers .returning w':=by
    intro h;rw[anG]at h;obtain⟨d,x,h⟩:=h;rw[afn]at h;obtain⟨v,R,rfl⟩:=h;refine yt (by simp) fr.marks a.defers z d w' H J x (λA i=>?_);obtain⟨v',e1,D⟩:=Db hg i I m R;refine⟨v',e1,?_⟩;obtain⟨p,Q,O,N,M⟩:=aqK K i (F.trans (yr _ _ _ x)) D;exact⟨p,Q,O,N,M⟩
   cases ex with
   |normal=>cases e<;>simp[gq]at u;exact j h
   |ret=>cases e<;>simp[gq]at u;exact j h
   |exit id=>simp[A6]at h
   |panic v=>simp[A6]at h
 grind
end
def wG(hg:fQ X B aw)(hX:oV P X)(b: ∀f p,X.bW f=some p->gP P B aw f p)(a:lZ P f pf):gP P B aw f (nY X (D X) Lw f pf):=
 aqL (NW hg hX b) hg hX (NF hg) acX a
def A7(X:Ctx)(lo:oN)(b:List RV)(R:aV->Prop):bR
 |.normal,fr,E=> ∃a v,dZ E fr.marks=some a/\gp X a fr.env b=some v/\R (.ret v {heap:=a.heap,lo:=gZ lo a.lo})
 |.ret,fr,E=> ∃a v,dZ E fr.marks=some a/\gp X a fr.env b=some v/\R (.ret v {heap:=a.heap,lo:=gZ lo a.lo})
 |_,_,_=>False
def wH(pf:PF){args:lA}{H:List ae}{R:aV->Prop}(j:Nat.ble args.length pf.ntmps=true)
  (h: ∀n,H.length=n->wp X f false pf.body ⟨ds args,[]⟩ ⟨H,none⟩ (A7 X lo pf.results R)): ∃g,nY X (D X) Lw f pf args ⟨H,lo⟩=some g/\R g:=by
 obtain⟨ex,fr,E,i,e⟩:=h _ rfl;unfold nY;rw[adG (apN j),i];cases ex with
 |normal=>
  obtain⟨a,v,d,c,b⟩:=e;exact⟨_,by simp only[A6,d,aom,c,afo],b⟩
 |ret=>
  obtain⟨a,v,d,c,b⟩:=e;exact⟨_,by simp only[A6,d,aom,c,afo],b⟩
 |exit _=>trivial
 |panic _=>trivial
def sx{R:aV->Prop}{E:AS}:A7 X lo [.t a] R .ret ⟨e,[]⟩ E=R (.ret (e a) {heap:=E.heap,lo:=gZ lo E.lo}):=by
 simp only[A7,yS,Xu]
 grind
end
def iK(W:List ae)(N:Nat):Nat->List ae->Prop
 |_,[]=>True
 |k,b::bs=>W[N+k]?=some b/\iK W N (k+1) bs
theorem fC{W:List ae}{N:Nat}:iK W N k []=True:=rfl
theorem fD{W:List ae}{N:Nat}{b:ae}{bs:List ae}:iK W N k (b::bs)=(W[N+k]?=some b/\iK W N (k+1) bs):=rfl
theorem ad4{W:List ae}{N:Nat}: ∀ {k:Nat} {bs:List ae},iK W N k bs-> ∀i,i<bs.length->W[N+k+i]?=bs[i]?
 |_,[],_,i,h=>by grind
 |k,b::bs,⟨c,a⟩,i,h=>by
  cases i with
  |zero=>grind
  |succ i=>
   have:=ad4 a i (by grind)
   grind
theorem OV{W:List ae}{N:Nat}: ∀ {k:Nat} {bs:List ae},(∀i,i<bs.length->W[N+k+i]?=bs[i]?)->iK W N k bs
 |_,[],_=>trivial
 |k,b::bs,h=>by
  refine⟨by have:=h 0 (by simp);grind,OV λi a=>?_⟩;have:=h (i+1) (by grind)
  grind
def jb(N:Nat)(H W:List ae):Prop:= ∀i,i<N->W[i]?=H[i]?
theorem jb.take{N:Nat}{H W:List ae}(h:jb N H W)(b:H.length=N):W.take N=H:=by
 apply anT;intro i;by_cases a:i<N
 ·rw[afD a];exact h i a
 grind
theorem jb.set{N:Nat}{H W:List ae}{o:ae}(h:jb N H W)(b:N<=p):jb N H (W.set p o):=λi a=>by
 rw[acT (by omega)];exact h i a
def jb.app{N:Nat}{H L:List ae}(b:H.length=N):jb N H (H++L):=λi a=>acV (by omega)
def bV{S:Type}(N nB c:Nat)(H:List ae)(B:S->List ae):YV S:=⟨λs W=>jb N H W/\iK W N 0 (B s),λ_=>none,λi=>i<N+nB,c⟩
def OW{S:Type}{N c:Nat}{H:List ae}{B:S->List ae}(g: ∀s,(B s).length=nB): (bV N nB c H B).Ok where
 st:=λs W j ⟨f,e⟩ h=>by
  refine⟨λi a=>?_,OV λi a=>?_⟩
  ·have:i<N+nB:=by omega
   rw[h i (.inl this)];exact f i a
  ·have d:N+0+i<N+nB:=by grind
   rw[h _ (.inl d)];exact ad4 e i a
 lt:=λs W r _ b=>by cases b
def A8{S:Type}(N nB:Nat)(B:S->List ae)(W:List ae)(I:S->Prop)(J:Ex->S->Prop):bR:=λex _ E=>
 E.lo=none/\ ∃s',iK E.heap N 0 (B s')/\W.length<=E.heap.length/\ (∀i,i<W.length-> ¬(N<=i/\i<N+nB)->E.heap[i]?=W[i]?)/\ (match ex with|.normal=>I s'|.panic _=>False|ex=>J ex s')
section
variable{S:Type}{N nB:Nat}{B:S->List ae}{W H:List ae}{I:S->Prop}{J:Ex->S->Prop}{fr:Fr}{i:Nat}
def nZ:A8 N nB B W I J .normal fr ⟨H,none⟩= ∃s',iK H N 0 (B s')/\W.length<=H.length/\ (∀i,i<W.length-> ¬(N<=i/\i<N+nB)->H[i]?=W[i]?)/\I s':=by simp[A8]
def ad5:A8 N nB B W I J .ret fr ⟨H,none⟩= ∃s',iK H N 0 (B s')/\W.length<=H.length/\ (∀i,i<W.length-> ¬(N<=i/\i<N+nB)->H[i]?=W[i]?)/\J .ret s':=by simp[A8]
end
def ad6{X:Ctx}{S:Type}{g:aq}{t:lN}{as O:PC}{Q:bR}(K:Env->Prop)(E:K e)(xs:List lA){N:Nat}{H W0:List ae}(D:H.length=N)(G:List ae)(B:S->List ae)(M: ∀s,(B s).length=nB)
  (u:S) (I:Nat->S->Prop) (J:Ex->S->Prop) (hg:qC X (g.get e)=true) (w:OO X (yV (bV N nB (W0.length+2) H B) W0.length f e t as O) (W0.length+2) (g.get e) (N+nB) G xs) (k:W0=H++(B u++G)) (h0:I 0 u) (hJ: ∀ex s,J ex s-> ∃v,qE ex=some (some v)/\x8 v=some ex/\ex.code=v)
  (hb: ∀e,K e-> ∀j x s,xs[j]?=some x->I j s->x.length=t.length/\ ∀W n,W.length=n->N+nB+G.length+2<=n->iK W N 0 (B s)->
    wp X f true as ⟨iG e t x,[]⟩ ⟨W,none⟩ (λex fr o=>ex= .normal/\ ∃R1,o=⟨W++R1,none⟩/\
     ∀m,m.length=n->iK m N 0 (B s)->wp X f true O fr ⟨m++R1,none⟩ (A8 N nB B m (I (j+1)) J)))
  (h1: ∀e,K e-> ∀s' a p,N+nB<=p->I xs.length s'->jb N H a->iK a N 0 (B s')->a[p]?=some .fI->Q .normal ⟨e,[p]⟩ ⟨a,none⟩)
  (h2: ∀e,K e-> ∀ex s' a p,N+nB<=p->J ex s'->jb N H a->iK a N 0 (B s')->a[p]?=some .fI->Q ex ⟨e,[p]⟩ ⟨a,none⟩):
  wp X f false (.iE g t as O) ⟨e,[]⟩ ⟨W0,none⟩ Q:=by
 have wI:W0.length=N+nB+G.length:=by grind
 have q: ∀ {ak} {b:Nat},b=W0.length+2->lb (W0.length+2) b none ak none none->ak=none:=by
  rintro ak b rfl (⟨h,_⟩| ⟨j,R,P,_⟩)
  ·exact h
  ·omega
 refine adJ (bV N nB (W0.length+2) H B) (OW M) xs (N+nB) G W0 u hg w (λi c=>?_) (by omega) (λi c=>?_) ⟨?_,?_⟩ rfl I J h0 hJ ?_ ?_ ?_
 ·rw[k,<-adK,afu (by simp only[aeb,D,M];omega)]
  congr 1;simp only[aeb,D,M];omega
 ·have:i<N+nB:=c;exact⟨by omega,by omega⟩
 ·rw[k];exact jb.app D
 ·refine OV λi c=>?_
  rw[k,afu (by omega),show N+0+i-H.length=i by omega,acV c]
 ·intro j x s Y L;obtain⟨R,P⟩:=hb e E j x s Y L;refine⟨R,λW l T=>?_⟩;refine wp_mono (P W _ rfl (by omega) l.2) ?_;rintro ex fr o ⟨rfl,R1,rfl,A⟩;refine⟨rfl,R1,rfl,λm C r=>?_⟩;refine wp_mono (A m C r.2) ?_;rintro H8 fr2 ⟨H2,V⟩ ⟨rfl,s',c1,c2,U,c4⟩;refine⟨s',⟨λi c=>?_,c1⟩,⟨c2,λi c hp _=>?_⟩,.inl ⟨rfl,rfl⟩,c4⟩
  ·rw[U i (by omega) (by omega)];exact r.1 i c
  ·have Z: ¬i<N+nB:=hp;exact U i c (by omega)
 ·intro s' a ak L l hl z y d;obtain rfl:=q rfl d;exact h1 e E s' a _ (by omega) L l.1 l.2 z
 ·intro ex s' a ak F l hl z y d;obtain rfl:=q rfl d;exact h2 e E ex s' a _ (by omega) F l.1 l.2 z
def wJ{X:Ctx}{S:Type}{g:aq}{h:lN}{as q:PC}{Q:bR}(K:Env->Prop)(z:K e)(xs:List lA){N:Nat}{H W0:List ae}(w:H.length=N)(G:List ae)(B:S->List ae)(o: ∀s,(B s).length=nB)
  (d:S) (I:Nat->S->Prop) (J:Ex->S->Prop) (u:qC X (g.get e)=true) (l:uQ X (g.get e) (N+nB) G xs) (m:W0=H++(B d++G)) (E:I 0 d) (A: ∀ex s,J ex s-> ∃k,qE ex=some (some k)/\x8 k=some ex/\ex.code=k)
  (v: ∀e,K e-> ∀j x s,xs[j]?=some x->I j s->x.length=h.length/\ ∀W n,W.length=n->N+nB+G.length+2<=n->iK W N 0 (B s)->
    wp X f true as ⟨iG e h x,[]⟩ ⟨W,none⟩ (λex fr c=>ex= .normal/\ ∃R1,c=⟨W++R1,none⟩/\
     ∀b,b.length=n->iK b N 0 (B s)->wp X f true q fr ⟨b++R1,none⟩ (A8 N nB B b (I (j+1)) J)))
  (D: ∀e,K e-> ∀s' a p,N+nB<=p->I xs.length s'->jb N H a->iK a N 0 (B s')->a[p]?=some .fI->Q .normal ⟨e,[p]⟩ ⟨a,none⟩)
  (C: ∀e,K e-> ∀ex s' a p,N+nB<=p->J ex s'->jb N H a->iK a N 0 (B s')->a[p]?=some .fI->Q ex ⟨e,[p]⟩ ⟨a,none⟩):
  wp X f false (.iE g h as q) ⟨e,[]⟩ ⟨W0,none⟩ Q:=
 ad6 K z xs w G B o d I J u (λy I J t r=>l _ _ _ I J _ (H6 (OW o)) t r) m E A v D C
section
variable{H:Type}{enc:TypeId×Value->H}{P:Program}{w:World}{sp:Nat->Bool}{held:Bool}
def A9(P:Program):Nat->TypeId->Bool
 |0,_=>false
 |f+1,t=>match P.underlying t with
  |some .bool=>true
  |some (.int _)=>true
  |some .string=>true
  |some (.slice e)=>AT P false f e
  |some (.struct fs)=>AR P (A9 P f) fs.toList 0 (P.cellsOf t)
  |some (.array n e)=>A9 P f e&&P.cellsOf t==n*P.cellsOf e
  |_=>false
theorem OX: ∀ (f:Nat) (t:TypeId) (n:Nat) (cs:List Value) (d:DataW H) (ps:List MemPlace),A9 P f t=true->(∀v∈cs,Hu v)->
  DataW.trod enc P w 0 sp held n t cs=some (d,ps)-> ∃xs,iI P f t d xs/\aF (Gh.start w) xs cs/\Leaves cs/\xs.length=cs.length
 |0,_,_,_,_,_,r,_,_=>by simp[A9]at r
 |f+1,t,n,cs,d,ps,r,B,h=>by
  unfold A9 at r;unfold iI;cases u:P.underlying t with
  |none=>rw[u]at r;cases r
  |some td=>
   rw[u]at r;cases td with
   |bool=>
    obtain⟨b,rfl,l⟩:=DataW.trod_bool u h;cases l;exact⟨[.bool b],⟨b,rfl,rfl⟩,aF.single.2 rfl,λv g=>by simp at g;subst g;rfl,rfl⟩
   |int k=>
    obtain⟨b,rfl,l,O⟩:=DataW.trod_int u h;cases l;exact⟨[.int k b],⟨b,rfl,rfl,O⟩,aF.single.2 rfl,λv g=>by simp at g;subst g;rfl,rfl⟩
   |string=>
    obtain⟨s,rfl,l,E⟩:=DataW.trod_string u h;cases l;exact⟨[.str s],⟨s,rfl,rfl,E⟩,aF.single.2 rfl,λv g=>by simp at g;subst g;rfl,rfl⟩
   |slice e=>
    rcases DataW.trod_slice u h with⟨rfl,l⟩| ⟨a,len,cap,es,rest,m,rfl,rfl,l,_,hlc,V6,T,S,_,_⟩
    ·cases l;exact⟨[.av],.inl ⟨rfl,rfl⟩,aF.single.2 rfl,λv g=>by simp at g;subst g;rfl,rfl⟩
    ·cases l;have E:a.spot=none:=B _ (List.mem_singleton_self _);obtain⟨af,vs,M,L,K,J,Y,h6⟩:=WY (R:=iI P f e) E (λc G p C q=>Hv (nest:=false) (λe=>by cases e) f e m c G p r (λe=>by cases e) q) len (by omega) S;refine⟨[.sl af false],.inr ⟨es.map (·.1),rest.map (·.1),af,rfl,rfl,by simp[T,M],by omega,λi x b l V=>?_⟩,aF.single.2 ?_,λv g=>by simp at g;subst g;rfl,rfl⟩
     ·rw[afE,afn]at l;obtain⟨y,N,rfl⟩:=l;exact L i y b N V
     ·refine⟨a.block,a.off,cap,P.cellsOf e,vs,?_,by omega,(λC=>absurd C (by decide)),λel F=>?_,h6,J,br.iff.2 K⟩
      ·rw[M];obtain⟨b,o,s⟩:=a;simp at E;subst E;rfl
      ·obtain⟨j,W⟩:=asR.1 F;have hjl:=(acW.1 W).1;exact(L j es[j] el (adM (by omega)) W).1
   |struct fs=>
    obtain⟨ys,m,rfl,l,I,A,z⟩:=DataW.trod_struct u h;cases l;obtain⟨xs,x1,x2,x3,Z⟩:=NY (R:=iI P f) (cs:=cs) (λt' c G p hg C q=>OX f t' m c G p hg (λv g=>B v (C v g)) q) _ I fs.toList ys 0 r (by simpa using A) (λi fl hi=>z i fl (by simpa using hi));exact⟨xs,⟨_,rfl,x1⟩,by simpa using x2,by simpa using x3,by simpa using Z⟩
   |array k e=>
    simp only[afz,asw]at r;obtain⟨Q,C⟩:=r;obtain⟨ys,m,rfl,l,I,A,z⟩:=DataW.trod_array u h;cases l;obtain⟨af,M,L,K,J,Y⟩:=WZ (R:=iI P f e) (cs:=cs) (λc G p U q=>OX f e m c G p Q (λv g=>B v (U v g)) q) k (by rw[I,C];exact aef _) (by omega) z;have D:k*P.cellsOf e=cs.length:=by rw[I,C]
    rw[D,aft]at K J;exact⟨af.flatten,⟨_,af,rfl,rfl,by simpa using A,M,λi a b X V=>by
     rw[afE,afn]at X;obtain⟨y,N,rfl⟩:=X;exact L i y b N V⟩,K,J,by rw[Y,D]⟩
   |_=>cases r
def aqM{b:Nat}{u:TypeId}{v:Value}(h:Cell.okWide P w .any b u v):Hu v:=by
 cases v with
 |slice a len cap=>
  cases a with
  |none=>trivial
  |some a=>
   unfold Cell.okWide at h;cases hu:P.underlying u with
   |none=>simp[hu,Cell.ok]at h
   |some td=>cases td<;>simp[hu,Cell.ok]at h<;>exact h.2.2.2.1
 |_=>trivial
def aqN{t:TypeId}{f:Nat}{v:Value}{d:DataW H}{g:List MemPlace}{b:Nat}{fs:Array Field}(k:P.underlying t=some (.struct fs))(l:A9 P f t=true)(a:Value.okWide P w .any b t v)
  (h:DataW.Trod enc P w 0 sp held t v d g): ∃xs,an (Gh.start w) (.agg xs) v/\iI P f t d xs/\xs.length=P.cellsOf t:=by
 unfold Value.okWide at a;rw[k]at a;obtain⟨cs,rfl,e,ts,_,_,c⟩:=a;obtain⟨n,h⟩:=h;obtain⟨xs,r,q,p,o⟩:=OX f t n cs.toList d g l (λv j=>by
  obtain⟨i,m⟩:=asR.1 j;obtain⟨u,_,hu⟩:=c i v (by simpa using m);exact aqM hu) h
 exact⟨xs,⟨cs,rfl,q,p⟩,r,by rw[o];simpa using e⟩
end
end Go.Den
