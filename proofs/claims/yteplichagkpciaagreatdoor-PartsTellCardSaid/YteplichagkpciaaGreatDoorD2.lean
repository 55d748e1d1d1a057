/- An evaluator, sound; no condition. -/
import Derived.Test.YteplichagkpciaaGreatDoorD1
import Derived.Orders
import Derived.Carry
import Derived.ChangeArms
import Derived.OpenShut
import Derived.RecoverIn
import Derived.LaidHandle
import Derived.LaidMore
import Derived.WideShapes
set_option linter.all false
set_option maxRecDepth 10000
set_option maxHeartbeats 1000000
namespace Go.Den
open Go Go.RowKit
abbrev lA:=List AV
variable{l t a i j m n k sz r ak a' p nB:Nat}{v:AV}{d lo aj:oN}{e:Env}{w:World}{b:PC}{z vs:lA}{tg:Option TypeId}{gp:Gh}{f:FuncId}{x y:ao}{c ag:Bool}{pf:PF}{k':IntKind}{af:List lA}
def afN:=@List.length_set
def afO:=@List.mem_cons_of_mem
def afT:=@List.getElem?_take_of_lt
def afU:=@List.getElem?_map
def afV:=@Array.getD_eq_getD_getElem?
def afW:=@List.append_nil
def ak0:=@Option.getD_some
def ak8:=@List.pairwise_cons
def alI:=@List.mem_range
def amq:=@Bool.true_and
def amy:=@List.length_drop
def anF:=@Classical.byContradiction
def anG:=@List.mem_zipIdx_iff_getElem?
def anJ:=@List.length_nil
def anX:=@and_true
def anY:=@Option.bind_eq_some_iff
def an8:=@List.pairwise_append
def aoc:=@Nat.mod_lt
def aof:=@List.take_left'
def aog:=@List.range_succ
def aoq:=@List.set_append_right
def apN:=@Nat.not_lt_zero
def apW:=@List.getElem?_range
def ap1:=@Prod.mk.injEq
def ap6:=@Nat.le_of_ble_eq_true
def ap9:=@Array.getElem?_toList
def aqc:=@List.mem_of_find?_eq_some
def aqd:=@Array.all_eq_true_iff_forall_mem
def aqi:=@List.getElem?_cons_zero
def aqx:=@List.prefix_append
def aqG:=@List.set_append_left
def aqL:=@Nat.le_max_right
def ar6:=@List.getElem_mem
def ath:=@Bool.true_or
def ati:=@List.append_of_mem
def auu:=@Bool.false_or
def auS:=@List.length_range
def ava:=@List.mem_iff_getElem?
def awn:=@List.contains_iff_mem
def aw2:=@Nat.lt_succ_self
def aw5:=@List.getElem?_of_mem
def axH:=@Bool.and_true
def axW:=@List.getElem?_cons_succ
def axY:=@Option.getD_none
def aAz:=@true_and
def aAB:=@List.getElem?_zipIdx
def aBc:=@List.find?_eq_none
def aBe:=@not_false_eq_true
def aBh:=@Nat.lt_trichotomy
def aBk:=@List.pairwise_map
def aBn:=@Int.toNat_natCast
def aCj:=@List.isEmpty_iff
def gG{a b:Prop}(x:a)(y:b):a/\b:=⟨x,y⟩
section
variable{X:Ctx}
def jR(X:Ctx)(C:bz)(xs:Nat->aR)(F:Nat->FP):lN->Fr->AS->Fr->AS->Prop
 | [],fr,E,b,c=>b=fr/\c=E
 |i::l,fr,E,b,c=>
  (gn fr.env (xs i).g=true/\ ∃v a,exec X C (xs i).i fr.env E=some (.ok v a)/\aY (xs i).i fr.env E a=F i/\jR X C xs F l (fr.put (xs i).dst v) a b c)\/
  (gn fr.env (xs i).g=false/\F i= .no/\jR X C xs F l (fr.put (xs i).dst .undef) E b c)
def aoI{l m:lN}:C9 l m=true↔ ∀x∈l,x∉m:=by
 simp[C9,afP]
def Dw{a:Fr}{dst:oN}(h:t∉dst.toList): (a.put dst v).env t=a.env t:=by
 cases dst with
 |none=>rfl
 |some d=>
  simp only[Fr.put,Env.set]
  grind
def aoJ{f:Fr}{c:oN}{w:AV}(h: ∀x∈d.toList,x∉c.toList): (f.put d v).put c w=(f.put c w).put d v:=by
 cases d with
 |none=>rfl
 |some a=>
  cases c with
  |none=>rfl
  |some b=>
   have g:a≠b:=λe=>h a (by simp) (by grind)
   simp only[Fr.put]
   congr 1
   funext t
   simp only[Env.set]
   grind
def WS{g:Option (Nat×Bool)}{a:Env}(h: ∀t∈(match g with|some (t,_)=>[t]|none=>[]),e t=a t):gn e g=gn a g:=by
 cases g with
 |none=>rfl
 |some p=>simp only[gn];grind
def aoK{C:bz}{xs:Nat->aR}{F:Nat->FP}{l:lN}{a q:Fr}{E D:AS}(n:ko (xs i) (xs j)=true)(x: (F i).ok (F j)=true)(h:jR X C xs F (i::j::l) a E q D):jR X C xs F (j::i::l) a E q D:=by
 simp only[ko,ag9,aoI]at n;obtain⟨⟨M,L⟩,K⟩:=n;have B: ∀v,∀t∈(xs j).reads,(a.put (xs i).dst v).env t=a.env t:=λv t d=>Dw λy=>M t y d
 have ex: ∀v,∀t∈(xs i).reads,(a.put (xs j).dst v).env t=a.env t:=λv t d=>Dw λy=>L t y d
 have e: ∀v,∀t∈(xs j).i.reads,(a.put (xs i).dst v).env t=a.env t:=λv t d=>B v t (by simp[aR.reads,d])
 have f: ∀v,∀t∈(xs i).i.reads,(a.put (xs j).dst v).env t=a.env t:=λv t d=>ex v t (by simp[aR.reads,d])
 have s: ∀v,gn (a.put (xs i).dst v).env (xs j).g=gn a.env (xs j).g:=λv=>WS λt d=>B v t (by
  simp only[aR.reads,aev];grind)
 have u: ∀v,gn (a.put (xs j).dst v).env (xs i).g=gn a.env (xs i).g:=λv=>WS λt d=>ex v t (by
  simp only[aR.reads,aev];grind)
 have comm: ∀v w,(a.put (xs i).dst v).put (xs j).dst w=(a.put (xs j).dst w).put (xs i).dst v:=λv w=>aoJ K
 simp only[jR]at h⊢;rcases h with⟨o,v,c,A,m,h⟩| ⟨o,m,h⟩
 ·rcases h with⟨g1,w,b,g2,k,g⟩| ⟨g1,k,g⟩
  ·rw[s]at g1;have z:exec X C (xs j).i a.env c=some (.ok w b):=by rw[<-HD (e v)];exact g2
   have p:aY (xs j).i a.env c b=F j:=by rw[<-HE (e v)];exact k
   obtain⟨r,J,I,H,G⟩:=aoH A z (by rw[m,p];exact x);refine .inl ⟨g1,w,r,J,by rw[H];exact p,.inl ⟨by rw[u];exact o,v,b,?_,?_,by rw[<-comm];exact g⟩⟩
   ·rw[HD (f w)];exact I
   ·rw[HE (f w),G];exact m
  ·rw[s]at g1;refine .inr ⟨g1,k,.inl ⟨by rw[u];exact o,v,c,?_,?_,by rw[<-comm];exact g⟩⟩
   ·rw[HD (f _)];exact A
   ·rw[HE (f _)];exact m
 ·rcases h with⟨g1,w,b,g2,k,g⟩| ⟨g1,k,g⟩
  ·rw[s]at g1;refine .inl ⟨g1,w,b,by rw[<-HD (e _)];exact g2,by rw[<-HE (e _)];exact k,.inr ⟨by rw[u];exact o,m,by rw[<-comm];exact g⟩⟩
  ·rw[s]at g1;exact .inr ⟨g1,k,.inr ⟨by rw[u];exact o,m,by rw[<-comm];exact g⟩⟩
theorem NF{C:bz}{xs:Nat->aR}{F:Nat->FP}{j:Nat}{b:lN}: ∀ (a:lN) (fr c:Fr) (E e:AS),(∀i∈a,ko (xs i) (xs j)=true/\ (F i).ok (F j)=true)->jR X C xs F (a++j::b) fr E c e->jR X C xs F (j:: (a++b)) fr E c e
 | [],_,_,_,_,_,h=>h
 |i::a,fr,c,E,e,f,h=>by
  have g:=f i (by simp);refine aoK g.1 g.2 ?_;simp only[ahq]at h;rw[jR]at h⊢;have n:=λfr E (h:jR X C xs F (a++j::b) fr E c e)=>NF a fr c E e (λk p=>f k (by grind)) h
  rcases h with⟨m,v,d,o,l,h⟩| ⟨m,l,h⟩
  ·exact .inl ⟨m,v,d,o,l,n _ _ h⟩
  simp_all
theorem NG{C:bz}{xs:Nat->aR}: ∀ (ys:List (aR×lN)) (a:List FP) (fr:Fr) (E:AS) (res:Ex×Fr×AS),(∀q y,ys[q]?=some y->xs (a.length+q)=y.1)->gH X C a ys fr E=some res->res.1= .normal->
  ∃F:Nat->FP,(∀m,m<a.length->F m=a.getD m .all)/\res.1= .normal/\jR X C xs F ((List.range ys.length).map (a.length+ ·)) fr E res.2.1 res.2.2/\
   ∀q y,ys[q]?=some y-> ∀k∈y.2,k<a.length+q->(F k).ok (F (a.length+q))=true
 | [],a,fr,E,res,t,h,r=>by
   simp only[gH,adT]at h;subst h;exact⟨λm=>a.getD m .all,λ_ _=>rfl,rfl,⟨rfl,rfl⟩,by simp⟩
 |o::ys,a,fr,E,res,t,h,r=>by
  have b:xs a.length=o.1:=by simpa using t 0 o rfl
  have j: ∀ (f:FP) q y,ys[q]?=some y->xs ((a++[f]).length+q)=y.1:=by
   intro f q y l;have:=t (q+1) y (by simpa using l);rw[<-this];congr 1;simp;omega
  have d: ∀f:FP,(List.range (o::ys).length).map (a.length+ ·)=a.length:: (List.range ys.length).map ((a++[f]).length+ ·):=by
   intro f;simp only[afL,List.range_succ_eq_map,ak9,awm,afM]
   congr 1
   apply anI;intro k _;simp;omega
  have fin: ∀ (f:FP) (F:Nat->FP),(∀m,m< (a++[f]).length->F m=(a++[f]).getD m .all)->F a.length=f/\ ∀m,m<a.length->F m=a.getD m .all:=by
   intro f F s;refine⟨?_,λm hm=>?_⟩
   ·rw[s _ (by simp)];simp
   ·rw[s m (by simp;omega)];simp[afQ,adf hm]
  have c: ∀ (f:FP) (F:Nat->FP),(∀m,m<a.length->F m=a.getD m .all)->(∀k∈o.2,k<a.length->(a.getD k .all).ok (F a.length)=true)->
    (∀q y,ys[q]?=some y-> ∀k∈y.2,k< (a++[f]).length+q->(F k).ok (F ((a++[f]).length+q))=true)->
    ∀q y,(o::ys)[q]?=some y-> ∀k∈y.2,k<a.length+q->(F k).ok (F (a.length+q))=true:=by
   intro f F s w u q y l k n i;cases q with
   |zero=>
    simp at l;subst l;rw[afM]at i⊢;rw[s k i];exact w k n i
   |succ q=>
    have:=u q y (by simpa using l) k n (by simp;omega);have e: (a++[f]).length+q=a.length+(q+1):=by simp;omega
    rw[e]at this;exact this
  simp only[gH]at h;split at h
  ·rename_i hw;split at h
   ·rename_i v g hex;split at h
    ·rename_i p;obtain⟨F,f1,f2,f3,f4⟩:=NG ys _ _ _ res (j _) h r;obtain⟨g1,g2⟩:=fin _ F f1;refine⟨F,g2,f2,?_,c _ F g2 (λk n _=>?_) f4⟩
     ·rw[d (aY o.1.i fr.env E g)];refine .inl ⟨by rw[b];exact hw,v,g,by rw[b];exact hex,by rw[b,g1],by rw[b];exact f3⟩
     ·rw[g1];exact afP.1 p k n
    ·cases h
   ·split at h
    ·cases h;cases r
    ·cases h
   ·cases h
  ·rename_i hw;obtain⟨F,f1,f2,f3,f4⟩:=NG ys _ _ _ res (j _) h r;obtain⟨g1,g2⟩:=fin _ F f1;refine⟨F,g2,f2,?_,c _ F g2 (λk n _=>?_) f4⟩
   ·rw[d .no];exact .inr ⟨by rw[b];simpa using hw,g1,by rw[b];exact f3⟩
   ·rw[g1];cases a.getD k .all<;>rfl
theorem WT{C:bz}{xs:Nat->aR}: ∀ (ys:List (aR×lN)) (a:List FP) (fr:Fr) (E:AS) (res:Ex×Fr×AS),(∀q y,ys[q]?=some y->xs (a.length+q)=y.1)->gH X C a ys fr E=some res->res.1≠ .normal->
  ∃ (F:Nat->FP) (p:Nat) (v:AV) (b:AS) (y:aR×lN),(∀m,m<a.length->F m=a.getD m .all)/\ys[p]?=some y/\res.1= .panic v/\jR X C xs F ((List.range p).map (a.length+ ·)) fr E res.2.1 b/\
    gn res.2.1.env (xs (a.length+p)).g=true/\exec X C (xs (a.length+p)).i res.2.1.env b=some (.panic v res.2.2)/\
    (∀q y,q<p->ys[q]?=some y-> ∀k∈y.2,k<a.length+q->(F k).ok (F (a.length+q))=true)/\
    y.2=[]/\y.1.i.cls≠0/\ (y.1.i.cls=2\/ ∀m,m<a.length+p->F m≠ .no)/\ ∀q d,p<q->ys[q]?=some d->if d.1.i.cls=0 then ko y.1 d.1=false else a.length+p∉d.2
 | [],a,fr,E,res,G,h,L=>by
   simp only[gH,adT]at h
   grind
 |o::ys,a,fr,E,res,G,h,L=>by
  have c:xs a.length=o.1:=by simpa using G 0 o rfl
  have D: ∀ (f:FP) q y,ys[q]?=some y->xs ((a++[f]).length+q)=y.1:=by
   intro f q y u;have:=G (q+1) y (by simpa using u);rw[<-this];congr 1;simp;omega
  have w: ∀ (f:FP) (p:Nat),(List.range (p+1)).map (a.length+ ·)=a.length:: (List.range p).map ((a++[f]).length+ ·):=by
   intro f p;simp only[List.range_succ_eq_map,ak9,awm,afM]
   congr 1
   apply anI;intro k _;simp;omega
  have e1: ∀ (f:FP) (q:Nat),(a++[f]).length+q=a.length+(q+1):=λf q=>by simp;omega
  have fin: ∀ (f:FP) (F:Nat->FP),(∀m,m< (a++[f]).length->F m=(a++[f]).getD m .all)->F a.length=f/\ ∀m,m<a.length->F m=a.getD m .all:=by
   intro f F s;refine⟨?_,λm hm=>?_⟩
   ·rw[s _ (by simp)];simp
   ·rw[s m (by simp;omega)];simp[afQ,adf hm]
  have next: ∀ (f:FP) (g:Fr) (i:AS),gH X C (a++[f]) ys g i=some res->(∀ (F:Nat->FP) l j A,F a.length=f->jR X C xs F l g i j A->jR X C xs F (a.length::l) fr E j A)->(∀k∈o.2,(a.getD k .all).ok f=true)->
    ∃ (F:Nat->FP) (p:Nat) (v:AV) (b:AS) (y:aR×lN),(∀m,m<a.length->F m=a.getD m .all)/\ (o::ys)[p]?=some y/\res.1= .panic v/\jR X C xs F ((List.range p).map (a.length+ ·)) fr E res.2.1 b/\
      gn res.2.1.env (xs (a.length+p)).g=true/\exec X C (xs (a.length+p)).i res.2.1.env b=some (.panic v res.2.2)/\
      (∀q y,q<p->(o::ys)[q]?=some y-> ∀k∈y.2,k<a.length+q->(F k).ok (F (a.length+q))=true)/\
      y.2=[]/\y.1.i.cls≠0/\ (y.1.i.cls=2\/ ∀m,m<a.length+p->F m≠ .no)/\ ∀q d,p<q->(o::ys)[q]?=some d->if d.1.i.cls=0 then ko y.1 d.1=false else a.length+p∉d.2:=by
   intro f g i h t I;obtain⟨F,p,v,b,y,f1,f2,f3,f4,f5,f6,f7,f8,f9,f10,f11⟩:=WT ys _ _ _ res (D f) h L;obtain⟨g1,g2⟩:=fin f F f1;refine⟨F,p+1,v,b,y,g2,by simpa using f2,f3,?_,by rw[<-e1 f];exact f5,by rw[<-e1 f];exact f6,?_,f8,f9,f10.imp id λf10 m hm=>f10 m (by rw[e1];exact hm),?_⟩
   ·rw[w f];exact t F _ _ _ g1 f4
   ·intro q d u n k x r;cases q with
    |zero=>
     simp at n;subst n;rw[afM]at r⊢;rw[g1,g2 k r];exact I k x
    |succ q=>
     have:=f7 q d (by omega) (by simpa using n) k x (by rw[e1];exact r);rw[e1]at this;exact this
   ·intro q d u n;cases q with
    |zero=>omega
    |succ q=>
     have:=f11 q d (by omega) (by simpa using n);rw[e1]at this;exact this
  simp only[gH]at h;split at h
  ·rename_i hw;split at h
   ·rename_i v b hex;split at h
    ·rename_i z;exact next _ _ _ h (λF l j A s H=>.inl ⟨by rw[c];exact hw,v,b,by rw[c];exact hex,by rw[c,s],by rw[c];exact H⟩) (λk x=>afP.1 z k x)
    ·cases h
   ·rename_i v A hex;split at h
    ·rename_i K;cases h;simp only[Da,ag9,aos,asa,aCj,bne_iff_ne]at K;obtain⟨O,N,B,M⟩:=K;refine⟨λm=>a.getD m .all,0,v,E,o,λ_ _=>rfl,rfl,rfl,⟨rfl,rfl⟩,by rw[afM,c];exact hw,by rw[afM,c];exact hex,λq y u=>by omega,O,N,?_,?_⟩
     ·refine B.imp id λB m hm=>?_
      rw[afM]at hm;have:=afP.1 B a[m] (ar6 hm);simp only[afQ,aep hm,ak0];intro e;rw[e]at this;cases this
     ·intro q d u n;cases q with
      |zero=>omega
      |succ q=>
       have:=afP.1 M d (amm (by simpa using n:ys[q]?=some d));split
       ·rename_i J;rw[adY J]at this;simpa using this
       ·rename_i J;rw[adU J]at this;rw[afM];simpa using this
    ·cases h
   ·cases h
  ·rename_i hw;exact next .no _ _ h (λF l j A s H=>.inr ⟨by rw[c];simpa using hw,s,by rw[c];exact H⟩) (λk x=>by cases a.getD k .all<;>rfl)
end
section
variable{P:Program}{X:Ctx}{B:Nat}{ay:World}{dg:List Deferred}
theorem WU(f:FP):FP.ok .no f=true:=by rfl
def WV(f:FP):FP.ok f .no=true:=by cases f<;>rfl
theorem y0{C:bz}{xs:Nat->aR}{F:Nat->FP}{i:Nat}(d: (xs i).i.cls=0): ∀ (l:lN) (fr b:Fr) (E e:AS),i∈l->jR X C xs F l fr E b e->F i= .no
 | [],_,_,_,_,a,_=>by grind
 |j::l,fr,b,E,e,a,h=>by
  rcases ag7.1 a with rfl|a
  ·rcases h with⟨_,v,c,_,f,_⟩| ⟨_,f,_⟩
   ·grind [WM]
   omega
  ·rcases h with⟨_,v,c,_,_,h⟩| ⟨_,_,h⟩
   ·exact y0 d l _ _ _ _ a h
   ·exact y0 d l _ _ _ _ a h
theorem WW{rows:Bool}{ops:Array Oper}: ∀ {os:List Oper} {xs:List aR},ll P rows ops os=some xs->xs.length=os.length/\ ∀ (i:Nat) (o:Oper),os[i]?=some o-> ∃x,xs[i]?=some x/\iN P rows ops o=some x
 | [],xs,h=>by
   simp only[ll,adT]at h;grind
 |o::os,xs,h=>by
  simp only[ll]at h;split at h
  ·rename_i x a c b;obtain⟨e1,d⟩:=WW b
   grind
  grind
theorem WX{ops:Array Oper}{e:Nat}: ∀n:Nat,e<n->(vx ops n).getD (n-1-e) 0=(vx ops (e+1)).headD 0
 |0,h=>absurd h (apN _)
 |n+1,h=>by
  by_cases he:e=n
  ·subst he;simp[vx]
  ·have a:e<n:=by omega
   rw[show n+1-1-e=(n-1-e)+1 by omega,<-WX n a];simp[vx]
theorem WY{b:lN}{n a:Nat}{S:Nat->Prop}: ∀es:lN,(∀e∈es,S e)->(∀e∈es,e<n->Nat.testBit (b.getD (n-1-e) 0) a=true->S a)->Nat.testBit (AP b n es) a=true->S a
 | [],_,_,h=>by simp[AP]at h
 |e::es,f,d,h=>by
  have e1:AP b n (e::es)=(1<<<e||| (if e<n then b.getD (n-1-e) 0 else 0))|||AP b n es:=rfl;rw[e1,Nat.testBit_or,Nat.testBit_or,aos,aos]at h;rcases h with(h|h)|h
  ·simp_all[Nat.one_shiftLeft,Nat.testBit_two_pow,ai8]
  ·grind
  ·exact WY es (λx c=>f x (afO _ c)) (λx c=>d x (afO _ c)) h
def NH{ops:Array Oper}{S:Nat->Prop}(g: ∀j,S j-> ∀o,ops[j]?=some o-> ∀a∈ln o,S a)(k i:Nat)(o:Oper)(ho:ops[i]?=some o)(d: ∀a∈ln o,S a): ∀a∈hZ ops k i,S a:=by
 intro a h;unfold hZ at h;have key: ∀n i:Nat,i<n-> ∀o,ops[i]?=some o->(∀a∈ln o,S a)->Nat.testBit ((vx ops (i+1)).headD 0) a=true->S a:=by
  intro n
  induction n with
  |zero=>simp
  |succ n l=>
   intro i m o ho d f;simp only[vx,List.headD_cons,ho]at f;refine WY _ d (λe hm b c=>?_) f;rw[WX i b]at c
   grind
 grind
def WZ{a:Region.Mode}{e:Edge}(h:Region.binds .any e=true):Region.binds a e=true:=by
 unfold Region.binds at h⊢
 grind
theorem NI{a:Region.Mode}{ops:Array Oper}{l:lN}{S:Nat->Prop}(f: ∀x,x<ops.size->x∉l->S x): ∀ (ord pre:lN),Hd a ops pre ord=true->(∀x∈pre,x<ops.size/\x∉l)->(∃x∈ord,x∈l)->
  ∃x∈l,∃o,ops[x]?=some o/\ ∀e∈o.after.toList,Region.binds a e=true->S e.on
 | [],_,_,_,⟨x,c,_⟩=>by grind
 |i::ord,pre,h,b,hex=>by
  simp only[Hd,ag9]at h;obtain⟨j,g⟩:=h;split at j
  ·by_cases d:i∈l
   ·grind
   ·refine NI f ord (i::pre) g (λx c=>?_) ?_
    ·grind
    grind
  grind
def Gh.later(G:Gh)(os:List ae):Gh:={G with n:=G.n+os.length,pz:=λi=>if i<G.n then G.pz i else os[i-G.n]?}
def Gh.y3(G:Gh)(os:List ae):G.le (G.later os):=
 .mk' (λ_ _ _ h=>h) (by simp[Gh.later]) (λi a=>by simp[Gh.later,a]) (λ_ _=>afA _) (λ_ _ _=>⟨rfl,rfl,rfl,rfl⟩)
def Gh.HG{G:Gh}{os:List ae}(h: (G.later os).on i):G.on i:=by
 obtain⟨c,a⟩:=h;simp only[Gh.later]at c a;by_cases b:i<G.n
 ·rw[adY b]at a;exact⟨b,a⟩
 grind
theorem aX.later{G:Gh}{E:AS}(h:aX P B ay G E w){os:List ae}(ho: ∀o∈os,∃z tg,o= .box z tg/\aK z=0):aX P B ay (G.later os) (E.mZ os) w where
 len:=by simp[Gh.later,AS.mZ,h.len]
 bu:=h.bu
 obj id o e b:=by
  simp only[Gh.later]at b;simp only[AS.mZ]at e;by_cases a:id<G.n
  ·rw[adY a]at b;rw[adf (by rw[<-h.len];exact a)]at e;exact iO.mono (G.y3 os) ⟨a,b⟩ rfl rfl (h.obj id o e b)
  ·rw[adU a]at b;rw[afJ (by rw[<-h.len];omega),<-h.len,b]at e;cases e
 inj i j a d e:=h.inj i j (Gh.HG a) (Gh.HG d) e
 sep i a o:=h.sep i (Gh.HG a) o
 low i a:=h.low i (Gh.HG a)
 mh:=h.mh
 hB:=h.hB
 mi id o c b:=by
  simp only[Gh.later]at c b;simp only[AS.mZ];by_cases a:id<G.n
  ·rw[adY a]at b;obtain⟨g,f⟩:=h.mi id o a b
   grind
  ·rw[adU a]at b;exact⟨by rw[afJ (by rw[<-h.len];omega),<-h.len];exact b,ho o (amm b)⟩
 dV:=h.dV
theorem AS.Ext.mZ(E:AS)(os:List ae):E.Ext (E.mZ os)where
 len:=by simp[AS.mZ]
 lo _ h:=h
 obj j x e:=⟨x,by
  have:j<E.heap.length:=(adg.1 e).1;simp[AS.mZ,adf this,e],.inl λ_ k=>k.mono (by omega)⟩
def Gh.real(G:Gh)(id b:Nat):Gh:=
 {G with bf:=λi=>if i=id then b else G.bf i,ak:=λi=>if i=id then 0 else G.ak i,pz:=λi=>if i=id then none else G.pz i}
def Gh.HH{G:Gh}{id b:Nat}{o:ae}(d:G.pz id=some o):G.sub (G.real id b):=by
 have c: ∀i,G.on i->i≠id:=λi a e=>by rw[e]at a;rw[a.2]at d;cases d
 exact{bu:=λ_ _ _ h=>h,n:=afA _,on:=λi a=>⟨a.1,by simp only[Gh.real];rw[adU (c i a)];exact a.2⟩,
       ak:=λi a=>by simp only[Gh.real];grind,same:=λi a _=>by simp[Gh.real,c i a]}
def Gh.HI{G:Gh}{id b:Nat}(h: (G.real id b).on i):i=id\/ (i≠id/\G.on i):=by
 obtain⟨c,a⟩:=h;simp only[Gh.real]at c a;by_cases e:i=id
 ·omega
 ·rw[adU e]at a;exact .inr ⟨e,c,a⟩
def HJ{rows:Bool}{o:Oper}(h:lk P rows o=some (.alloc z tg)): ∃t,o.op= .alloc t/\hY P t=some z/\tg=sD z t:=by
 cases a:o.op with
 |alloc t=>
  simp only[lk,a]at h;obtain⟨e,d,b⟩:=afF.1 h;cases b;exact⟨t,rfl,d,rfl⟩
 |call c=>
  exfalso;simp only[lk,a,Db]at h
  repeat' split at h
  all_goals first| (cases h;done)| (simp only[afF]at h;obtain⟨_,_,h⟩:=h;cases h;done)|skip
 |_=>
  exfalso;simp only[lk,a]at h
  (repeat' split at h)<;>first| (cases h;done)| (simp only[afF]at h;obtain⟨_,_,h⟩:=h;first| (cases h;done)| (split at h<;>cases h))| (simp_all;done)
theorem aX.real{G:Gh}{E:AS}(h:aX P B ay G E w){id:Nat}{t:TypeId}(s:id<G.n)(H:G.pz id=some (.box z (sD z t)))(N:hY P t=some z):
  ∃w',(Instr.alloc t true (.tuple #[])).run P w= .ok (.pointer (some ⟨w.heap.size,0,none⟩)) w'/\aX P B ay (G.real id w.heap.size) E w'/\an (G.real id w.heap.size) (.ptr id 0) (.pointer (some ⟨w.heap.size,0,none⟩)):=by
 have p:G.sub (G.real id w.heap.size):=Gh.HH H;obtain⟨A,e,_,l,J,_⟩:=sG N (G.real id w.heap.size) w;obtain⟨I,_⟩:=h.mi id _ s H;have x: (G.real id w.heap.size).bf id=w.heap.size:=by simp[Gh.real]
 refine⟨w.alloc (.cells A.cells t),by simp[Instr.alloc,e,newVar,newRow],?_,⟨⟨s,by simp[Gh.real]⟩,_,rfl,λ_=>by rw[x]⟩⟩;refine{len:=h.len,bu:=λb o v K=>?_,obj:=λi o y a=>?_,inj:=λi j g L f=>?_,sep:=λi g o=>?_,low:=λi g=>?_,mh:=h.mh.alloc h.hB _,hB:=by have:=h.hB;simp;omega,mi:=λi o g a=>?_,dV:=h.dV}
 ·have m:G.bu b o=some v:=K;rw[cell?_alloc_old (h.yA P m)];exact h.bu b o v m
 ·by_cases c:i=id
  ·subst c;rw[I]at y;cases y;refine⟨by simp[Gh.real],A.cells,t,?_,l,J,λt' h=>Nm h⟩;rw[x];exact apV _ _
  ·have q:i<G.n:=by rw[h.len];exact(adg.1 y).1
   simp only[Gh.real]at a;rw[adU c]at a;exact iO.dM p ⟨q,a⟩ (by simp[Gh.real,c]) (Below.heap_alloc _ _ _ (h.low i ⟨q,a⟩).2) (h.obj i o y a)
 ·rcases Gh.HI g with d| ⟨k,d⟩<;>rcases Gh.HI L with u| ⟨D,u⟩
  ·rw[d,u]
  ·simp only[Gh.real,d,ag6,adU D]at f;have:=(h.low j u).2;omega
  ·simp only[Gh.real,u,ag6,adU k]at f;have:=(h.low i d).2;omega
  ·simp only[Gh.real,adU k,adU D]at f;exact h.inj i j d u f
 ·rcases Gh.HI g with d| ⟨k,d⟩
  ·subst d;rw[x];show G.bu w.heap.size o=none;cases M:G.bu w.heap.size o with
   |none=>rfl
   |some v=>have:=h.yA P M;omega
  ·simp only[Gh.real,adU k];exact h.sep i d o
 ·rcases Gh.HI g with d| ⟨k,d⟩
  ·subst d;rw[x];exact⟨h.hB,by simp⟩
  ·simp only[Gh.real,adU k];have:=h.low i d;exact⟨this.1,by simp;omega⟩
 ·simp only[Gh.real]at g a;by_cases c:i=id
  ·rw[adY c]at a;cases a
  ·rw[adU c]at a;exact h.mi i o g a
def Gh.W4{G:Gh}(h:gp.le G){id b:Nat}{o:ae}(a:G.pz id=some o)(c:gp.n<=id):gp.le (G.real id b):=
 {Gh.VJ h.toSub (Gh.HH a)with pz:=λi d=>by simp only[Gh.real];rw[adU (by omega)];exact h.pz i d}
section
variable{C:bz}(hC:fS P B ay C)(hg:fH X B ay){r:oN}{n nt:Nat}{rows:Bool}{ops:Array Oper}{xs:Nat->aR}{F:Nat->FP}
include hC hg
theorem go_sound(I:Region.Mode){ord:lN}(U:vy I ops ord=true)(sl:Nat->Nat)(al:Nat->Option ae)(A5: ∀i o,ops[i]?=some o->(al i=none/\iN P rows ops o=some (xs i))\/ ∃z tg g d,al i=some (.box z tg)/\iN P rows ops o=some ⟨g,d,.alloc z tg⟩/\xs i=⟨g,d,.mov (.c (.ptr (sl i) 0))⟩)
  (NJ: ∀i j bi bj,al i=some bi->al j=some bj->sl i=sl j->i=j)  {cn:AS} (wY: ∀i b,al i=some b->gp.n<=sl i) (hd: ∀i,i<ops.size-> ∀d,(xs i).dst=some d->d<nt) (aoL: ∀i o,ops[i]?=some o-> ∀a∈ln o,a<i)
  (NK: ∀i j,i<j->j<ops.size->i∉hZ ops 64 j->ko (xs i) (xs j)=true/\ (F i).ok (F j)=true):
  ∀ (fuel t:Nat) (listed:Array Bool) (l:lN) (G:Gh) (E E':AS) (w:World) (fr u:Fr) (a:Act) (Q:Exit->Act->World->Prop),
    (∀i,i∈l↔i<ops.size/\listed.getD i true=false)->listed.size=ops.size->l.Pairwise (· < ·)->(∀j o,ops[j]?=some o->listed.getD j true=true-> ∀a∈ln o,listed.getD a true=true)->l.length<=fuel->
    jR X C xs F l fr E u E'->gp.le G->cn.Ext E->(∀i∈l,∀b,al i=some b->sl i<G.n/\G.pz (sl i)=some b)->aX P B ay G E w->cK G nt fr.env a.tmps->gI dg G fr.marks a.defers->(∀e a w,m4 P B ay dg gp cn nt (.normal,u,E') e a w->Q e a w)->
    wpOpsIn (W r) n P ops Q (Region.linearise.go I ops fuel t listed []) a w:=by
 intro fuel
 induction fuel with
 |zero=>
  intro t listed l G E E' w fr u a Q hl T hp ml hf hr hle s pW hw he hm hQ;have:l=[]:=akU.1 (by omega);subst this;obtain⟨rfl,rfl⟩:=hr;exact hQ _ _ _ ⟨G,hle,hw,he,hm,s,trivial⟩
 |succ fuel ih=>
  intro t listed l G E E' w fr u a Q hl T hp ml hf hr hle s pW hw he hm hQ;simp only[Region.linearise.go]
  change wpOpsIn (W r) n P ops Q (match(Region.ready I ops listed)[t % (Region.ready I ops listed).length]? with
   |some i=>Region.linearise.go I ops fuel (t/ (Region.ready I ops listed).length) (listed.setIfInBounds i true) [i]
   |none=>[].reverse) a w
  have J: ∀i,i∈Region.ready I ops listed↔i∈l/\ ∀o,ops[i]?=some o-> ∀e∈o.after.toList,Region.binds I e=true->listed.getD e.on false=true:=by
   intro i;simp only[Region.ready,afY,alI,ag9,aBp];rw[hl];constructor
   ·rintro⟨R,H,h3⟩;refine⟨⟨R,H⟩,λo ho e Z O=>?_⟩;rw[ho]at h3;simp only[afG,ak0,aqd]at h3;have:=h3 e (by simpa using Z);rw[O]at this;simpa using this
   ·rintro⟨⟨R,H⟩,h3⟩;refine⟨R,H,?_⟩;obtain⟨o,ho⟩: ∃o,ops[i]?=some o:=⟨ops[i],by simp[R]⟩;rw[ho];simp only[afG,ak0,aqd];intro e Z;by_cases O:Region.binds I e=true
    ·rw[h3 o ho e (by simpa using Z) O];simp
    ·simp at O;simp[O]
  have NL: ∀a,listed.getD a false=true->listed.getD a true=true:=by
   intro a h;simp only[afV]at h⊢;cases h':listed[a]? with
   |none=>rw[h']at h;cases h
   |some b=>rw[h']at h;exact h
  cases hi: (Region.ready I ops listed)[t % (Region.ready I ops listed).length]? with
  |none=>
   have Dx:Region.ready I ops listed=[]:=by
    cases lr:Region.ready I ops listed with
    |nil=>rfl
    |cons x ys=>
     rw[lr]at hi;have yH:t % (x::ys).length< (x::ys).length:=aoc _ (by simp);rw[aep yH]at hi;cases hi
   cases l with
   |nil=>
    obtain⟨rfl,rfl⟩:=hr;exact hQ _ _ _ ⟨G,hle,hw,he,hm,s,trivial⟩
   |cons i l=>
    exfalso;simp only[vy,ag9]at U;obtain⟨x,p,o,ho,vD⟩:=NI (S:=λa=>listed.getD a false=true) (l:=i::l) (λx p re=>by
     cases sL:listed.getD x true with
     |true=>
      simp only[afV,axT (show x<listed.size by omega),ak0]at sL⊢;exact sL
     |false=>exact absurd ((hl x).2 ⟨p,sL⟩) re) ord [] U.2 (by simp) ⟨i,by
      have:=afP.1 U.1 i (by simpa using((hl i).1 (by simp)).1);simpa using this,by simp⟩
    have:x∈Region.ready I ops listed:=(J x).2 ⟨p,λo' D e Z O=>by rw[ho]at D;cases D;exact vD e Z O⟩;rw[Dx]at this;cases this
  |some i=>
   simp only;rw[linearise_go_acc,List.reverse_singleton,List.singleton_append];have NN:=amm hi;obtain⟨rf,NO⟩:=(J i).1 NN;have A6: ∀o,ops[i]?=some o-> ∀a∈ln o,listed.getD a true=true:=by
    intro o ho a ha;simp only[ln,afH,afY]at ha;obtain⟨e,⟨e1,e2⟩,rfl⟩:=ha;exact NL _ (NO o ho e e1 (WZ e2))
   have Y:=((hl i).1 rf).1;obtain⟨o,ho⟩: ∃o,ops[i]?=some o:=⟨ops[i],by simp[Y]⟩;obtain⟨f,m,rfl⟩:=ati rf;have A:=an8.1 hp;have q:=NF f fr u E E' (λx p=>by
    have re:=(hl x).1 (by simp[p]);refine NK x i (A.2.2 x p i (by simp)) Y (λaoM=>?_);have:=NH (S:=λa=>listed.getD a true=true) (λj hj o' D a ha=>ml j o' D hj a ha) 64 i o ho (A6 o ho) x aoM;rw[re.2]at this;cases this) hr
   rw[jR]at q;have L: ∀k,k∈f++m↔k<ops.size/\ (listed.setIfInBounds i true).getD k true=false:=by
    intro k;have V:=hl k;have HK: ∀x∈f++m,x≠i:=by
     intro x p e;subst e;rcases aev.1 p with h|h
     ·have:=A.2.2 x h x (by simp);omega
     ·have:=(ak8.1 A.2.1).1 x h;omega
    simp only[afV,amk]at V⊢;constructor
    ·intro h;have sM:=HK k h;have:=V.1 (by simp only[aev,ag7]at h⊢;rcases h with h|h;exact .inl h;exact .inr (.inr h));rw[adU (λe=>sM e.symm)];exact this
    ·rintro⟨R,H⟩;by_cases y4:i=k
     ·subst y4;rw[adY rfl,adY (by omega)]at H;simp at H
     ·rw[adU y4]at H;have:=V.2 ⟨R,H⟩;simp only[aev,ag7]at this⊢;rcases this with h|h|h
      ·exact .inl h
      ·exact absurd h.symm y4
      ·exact .inr h
   have oE: (f++m).Pairwise (· < ·):=an8.2 ⟨A.1,(ak8.1 A.2.1).2,λx p y hy=>A.2.2 x p y (by simp[hy])⟩;have N: ∀j o,ops[j]?=some o->(listed.setIfInBounds i true).getD j true=true-> ∀a∈ln o,(listed.setIfInBounds i true).getD a true=true:=by
    intro j o' D hj a ha;have key:listed.getD a true=true->(listed.setIfInBounds i true).getD a true=true:=by
     intro h;simp only[afV,amk]at h⊢;split
     ·split<;>rfl
     ·exact h
    apply key;by_cases Dy:i=j
    ·subst Dy;rw[ho]at D;cases D;exact A6 _ ho a ha
    ·refine ml j o' D ?_ a ha;simp only[afV,amk]at hj⊢;rw[adU Dy]at hj;exact hj
   have ra: (f++m).length<=fuel:=by simp at hf⊢;omega
   have NP:i∉f++m:=λhm=>by
    rcases aev.1 hm with h|h
    ·have:=A.2.2 i h i (by simp);omega
    ·have:=(ak8.1 A.2.1).1 i h;omega
   have K: ∀k∈f++m,∀b,al k=some b->sl k<G.n/\G.pz (sl k)=some b:=λk V b O=>pW k (by
    simp only[aev,ag7]at V⊢;rcases V with h|h
    ·exact .inl h
    ·exact .inr (.inr h)) b O
   rcases A5 i o ho with⟨oF,p⟩| ⟨z,tg,g,d,oF,p,y5⟩
   ·have gd:guardOf ops o=some (xs i).g:=by
      unfold iN at p;split at p
      ·rename_i H;have:=akn p;rw[<-this];exact H
      ·cases p
    have M: (xs i).dst=o.dst:=by
     unfold iN at p;split at p
     ·have:=akn p;rw[<-this]
     ·cases p
    have vF:=yO he gd;simp only[wpOpsIn,ho];rw[vF];rcases q with⟨R,v,y6,H,_,h4⟩| ⟨R,_,h4⟩
    ·rw[adY R];refine yP hC hg p (hd i Y) hw he hm H (λDz oG e G' a' w' q1 q2 q3 q4 q5=>?_) (λDz oG e=>by cases e);cases e;exact ih _ _ (f++m) G' y6 E' w' _ u a' Q L (by simpa using T) oE N ra h4 (Gh.le_trans hle q1) (s.trans q3) (λk V b O=>by
      obtain⟨p1,p2⟩:=K k V b O;exact⟨ai6 p1 q1.n,by rw[q1.pz _ p1];exact p2⟩) q2 q4 q5 hQ
    ·rw[adU (by rw[R];simp)];refine⟨λ_ _=>trivial,?_⟩;obtain⟨p1,p2,p3⟩:=qZ (a:=a) he (hd i Y) (v:=.undef) (v':=undef) yN;rw[<-M];exact ih _ _ (f++m) G E E' w _ u _ Q L (by simpa using T) oE N ra h4 hle s K hw p1 (by rw[p2,p3];exact hm) hQ
   ·rw[y5]at q;have y7: ∀d',d=some d'->d'<nt:=λd' A7=>hd i Y d' (by rw[y5];exact A7)
    have DA:lk P rows o=some (.alloc z tg)/\guardOf ops o=some g/\o.dst=d:=by
     unfold iN at p;split at p
     ·rename_i i' g' H h3;simp only[adT,aR.mk.injEq]at p;obtain⟨rfl,rfl,rfl⟩:=p;exact⟨H,h3,rfl⟩
     ·cases p
    obtain⟨NQ,gd,M⟩:=DA;have vF:=yO he gd;simp only[wpOpsIn,ho];rw[vF];rcases q with⟨R,v,y6,H,_,h4⟩| ⟨R,_,h4⟩
    ·rw[adY R];simp only[exec,ao.get,adT,Out.ok.injEq]at H;obtain⟨rfl,rfl⟩:=H;obtain⟨p1,p2⟩:=pW i (by simp) _ oF;obtain⟨t,pX,NR,rfl⟩: ∃t,o.op= .alloc t/\hY P t=some z/\tg=sD z t:=HJ NQ;obtain⟨w',e1,e2,e3⟩:=hw.real p1 p2 NR;refine⟨λ_ _=>trivial,?_⟩;have DB:o.semAt (W r).round a.eval=execOp a.eval o:=by
      apply Oper.semAt_eq;intro c e;rw[pX]at e;cases e
     have DC: (execOp a.eval o).run P w= .ok (.value (.pointer (some ⟨w.heap.size,0,none⟩))) w':=by
      unfold execOp;simp only[pX];rw[Sem.run_bind,e1];rfl
     rw[DB,DC];simp only[Oper.uponIn];have DD:=Gh.HH (b:=w.heap.size) p2;obtain⟨r1,r2,r3⟩:=qZ (a:=a) (dst:=d) (he.dM DD) y7 e3;rw[M];exact ih _ _ (f++m) _ E E' w' _ u _ Q L (by simpa using T) oE N ra h4 (Gh.W4 hle p2 (wY i _ oF)) s (λk V b O=>by
      obtain⟨p3,p4⟩:=K k V b O;refine⟨p3,?_⟩;have sM:sl k≠sl i:=λe=>NP (by rw[NJ i k _ _ oF O e.symm];exact V)
      simp only[Gh.real];rw[adU sM];exact p4) e2 r1 (by rw[r2,r3];exact hm.dM DD) hQ
    ·rw[adU (by rw[R];simp)];refine⟨λ_ _=>trivial,?_⟩;obtain⟨p1,p2,p3⟩:=qZ (a:=a) (dst:=d) he y7 (v:=.undef) (v':=undef) yN;rw[M];exact ih _ _ (f++m) G E E' w _ u _ Q L (by simpa using T) oE N ra h4 hle s K hw p1 (by rw[p2,p3];exact hm) hQ
theorem aoN(L:Region.Mode){ord:lN}(y8:vy L ops ord=true)(sl:Nat->Nat)(al:Nat->Option ae)(A5: ∀i o,ops[i]?=some o->(al i=none/\iN P rows ops o=some (xs i))\/ ∃z tg g d,al i=some (.box z tg)/\iN P rows ops o=some ⟨g,d,.alloc z tg⟩/\xs i=⟨g,d,.mov (.c (.ptr (sl i) 0))⟩)
  (NJ: ∀i j bi bj,al i=some bi->al j=some bj->sl i=sl j->i=j)  {cn:AS} (wY: ∀i b,al i=some b->gp.n<=sl i) (hd: ∀i,i<ops.size-> ∀d,(xs i).dst=some d->d<nt) (aoL: ∀i o,ops[i]?=some o-> ∀a∈ln o,a<i)
  {f:Nat} (HL:f<ops.size) (NK: ∀i j,i<j->j<f->i∉hZ ops 64 j->ko (xs i) (xs j)=true/\ (F i).ok (F j)=true) (NS: ∀i,i<f->i∈hZ ops 64 f) (NT: ∀j,f<j->j<ops.size->f∈hZ ops 64 j) {Hs:AV} {W5:AS}:
  ∀ (fuel t:Nat) (listed:Array Bool) (l:lN) (G:Gh) (E E':AS) (w:World) (fr D:Fr) (a:Act) (Q:Exit->Act->World->Prop),
    (∀i,i∈l↔i<f/\listed.getD i true=false)->listed.size=ops.size->(∀j,f<=j->j<ops.size->listed.getD j true=false)->l.Pairwise (· < ·)->(∀j o,ops[j]?=some o->listed.getD j true=true-> ∀a∈ln o,listed.getD a true=true)->l.length<fuel->
    jR X C xs F l fr E D E'->gn D.env (xs f).g=true->exec X C (xs f).i D.env E'=some (.panic Hs W5)->gp.le G->cn.Ext E->(∀i∈l,∀b,al i=some b->sl i<G.n/\G.pz (sl i)=some b)->aX P B ay G E w->cK G nt fr.env a.tmps->gI dg G fr.marks a.defers->(∀e a w,m4 P B ay dg gp cn nt (.panic Hs,D,W5) e a w->Q e a w)->
    wpOpsIn (W r) n P ops Q (Region.linearise.go L ops fuel t listed []) a w:=by
 intro fuel
 induction fuel with
 |zero=>simp
 |succ fuel ih=>
  intro t listed l G E E' w fr D a Q hl sH A1 hp ml hf hr DE K hle I pW hw he hm hQ;simp only[Region.linearise.go]
  change wpOpsIn (W r) n P ops Q (match(Region.ready L ops listed)[t % (Region.ready L ops listed).length]? with
   |some i=>Region.linearise.go L ops fuel (t/ (Region.ready L ops listed).length) (listed.setIfInBounds i true) [i]
   |none=>[].reverse) a w
  have M: ∀i,i∈Region.ready L ops listed↔(i<ops.size/\listed.getD i true=false)/\ ∀o,ops[i]?=some o-> ∀e∈o.after.toList,Region.binds L e=true->listed.getD e.on false=true:=by
   intro i;simp only[Region.ready,afY,alI,ag9,aBp];constructor
   ·rintro⟨J,A,h3⟩;refine⟨⟨J,A⟩,λo ho e DF V=>?_⟩;rw[ho]at h3;simp only[afG,ak0,aqd]at h3;have:=h3 e (by simpa using DF);rw[V]at this;simpa using this
   ·rintro⟨⟨J,A⟩,h3⟩;refine⟨J,A,?_⟩;obtain⟨o,ho⟩: ∃o,ops[i]?=some o:=⟨ops[i],by simp[J]⟩;rw[ho];simp only[afG,ak0,aqd];intro e DF;by_cases V:Region.binds L e=true
    ·rw[h3 o ho e (by simpa using DF) V];simp
    ·simp at V;simp[V]
  have NL: ∀a,listed.getD a false=true->listed.getD a true=true:=by
   intro a h;simp only[afV]at h⊢;cases h':listed[a]? with
   |none=>rw[h']at h;cases h
   |some b=>rw[h']at h;exact h
  cases hi: (Region.ready L ops listed)[t % (Region.ready L ops listed).length]? with
  |none=>
   have Dx:Region.ready L ops listed=[]:=by
    cases lr:Region.ready L ops listed with
    |nil=>rfl
    |cons x ys=>
     rw[lr]at hi;have yH:t % (x::ys).length< (x::ys).length:=aoc _ (by simp);rw[aep yH]at hi;cases hi
   exfalso;simp only[vy,ag9]at y8;obtain⟨x,p,o,ho,vD⟩:=NI (S:=λa=>listed.getD a false=true) (l:=(List.range ops.size).filter λi=>listed.getD i true==false) (λx p re=>by
    cases sL:listed.getD x true with
    |true=>
     simp only[afV,axT (show x<listed.size by omega),ak0]at sL⊢;exact sL
    |false=>exact absurd (afY.2 ⟨alI.2 p,by simpa using sL⟩) re) ord [] y8.2 (by simp) ⟨f,by
     have:=afP.1 y8.1 f (by simpa using HL);simpa using this,afY.2 ⟨alI.2 HL,by simpa using A1 f (afA _) HL⟩⟩
   have DA:x<ops.size/\listed.getD x true=false:=by simpa using afY.1 p
   have:x∈Region.ready L ops listed:=(M x).2 ⟨DA,λo' u e DF V=>by rw[ho]at u;cases u;exact vD e DF V⟩;rw[Dx]at this;cases this
  |some i=>
   simp only;rw[linearise_go_acc,List.reverse_singleton,List.singleton_append];have NN:=amm hi;obtain⟨rf,NO⟩:=(M i).1 NN;have A6: ∀o,ops[i]?=some o-> ∀a∈ln o,listed.getD a true=true:=by
    intro o ho a ha;simp only[ln,afH,afY]at ha;obtain⟨e,⟨e1,e2⟩,rfl⟩:=ha;exact NL _ (NO o ho e e1 (WZ e2))
   have Z:=rf.1;obtain⟨o,ho⟩: ∃o,ops[i]?=some o:=⟨ops[i],by simp[Z]⟩;have Y: ∀x∈hZ ops 64 i,listed.getD x true=true:=NH (S:=λa=>listed.getD a true=true) (λj hj o' u a ha=>ml j o' u hj a ha) 64 i o ho (A6 o ho);by_cases HM: ¬i<f
   ·have aoO:i=f:=by
      refine anF λsM=>?_
      have:=Y _ (NT i (by omega) Z);rw[A1 f (afA _) HL]at this;cases this
    subst aoO;have Dx:l=[]:=by
     cases l with
     |nil=>rfl
     |cons x l=>
      obtain⟨q1,q2⟩:=(hl x).1 (by simp);have:=Y _ (NS x q1);rw[q2]at this;cases this
    subst Dx;obtain⟨rfl,rfl⟩:=hr;rcases A5 i o ho with⟨oF,p⟩| ⟨z,tg,g,d,oF,p,y5⟩
    ·have gd:guardOf ops o=some (xs i).g:=by
       unfold iN at p;split at p
       ·rename_i A;have:=akn p;rw[<-this];exact A
       ·cases p
     have vF:=yO he gd;simp only[wpOpsIn,ho];rw[vF,adY DE];exact yP hC hg p (hd i Z) hw he hm K (λDz oG e=>by cases e) (λDz oG e e' a' w' h=>by cases e;exact hQ _ _ _ (h.trans hle I))
    ·rw[y5]at K;simp[exec]at K
   have HM:i<f:=Decidable.byContradiction HM;have rf:i∈l:=(hl i).2 ⟨HM,rf.2⟩;obtain⟨m,q,rfl⟩:=ati rf;have H:=an8.1 hp;have s:=NF m fr D E E' (λx p=>by
    have re:=(hl x).1 (by simp[p]);refine NK x i (H.2.2 x p i (by simp)) HM (λY=>?_);have:=NH (S:=λa=>listed.getD a true=true) (λj hj o' u a ha=>ml j o' u hj a ha) 64 i o ho (A6 o ho) x Y;rw[re.2]at this;cases this) hr
   rw[jR]at s;have O: ∀k,k∈m++q↔k<f/\ (listed.setIfInBounds i true).getD k true=false:=by
    intro k;have hk:=hl k;have HK: ∀x∈m++q,x≠i:=by
     intro x p e;subst e;rcases aev.1 p with h|h
     ·have:=H.2.2 x h x (by simp);omega
     ·have:=(ak8.1 H.2.1).1 x h;omega
    simp only[afV,amk]at hk⊢;constructor
    ·intro h;have sM:=HK k h;have:=hk.1 (by simp only[aev,ag7]at h⊢;rcases h with h|h;exact .inl h;exact .inr (.inr h));rw[adU (λe=>sM e.symm)];exact this
    ·rintro⟨J,A⟩;by_cases y4:i=k
     ·subst y4;rw[adY rfl,adY (by omega)]at A;simp at A
     ·rw[adU y4]at A;have:=hk.2 ⟨J,A⟩;simp only[aev,ag7]at this⊢;rcases this with h|h|h
      ·exact .inl h
      ·exact absurd h.symm y4
      ·exact .inr h
   have oE: (m++q).Pairwise (· < ·):=an8.2 ⟨H.1,(ak8.1 H.2.1).2,λx p y hy=>H.2.2 x p y (by simp[hy])⟩;have U: ∀j o,ops[j]?=some o->(listed.setIfInBounds i true).getD j true=true-> ∀a∈ln o,(listed.setIfInBounds i true).getD a true=true:=by
    intro j o' u hj a ha;have key:listed.getD a true=true->(listed.setIfInBounds i true).getD a true=true:=by
     intro h;simp only[afV,amk]at h⊢;split
     ·split<;>rfl
     ·exact h
    apply key;by_cases Dy:i=j
    ·subst Dy;rw[ho]at u;cases u;exact A6 _ ho a ha
    ·refine ml j o' u ?_ a ha;simp only[afV,amk]at hj⊢;rw[adU Dy]at hj;exact hj
   have ra: (m++q).length<fuel:=by simp at hf⊢;omega
   have R: ∀j,f<=j->j<ops.size->(listed.setIfInBounds i true).getD j true=false:=by
    intro j J A;have:=A1 j J A;simp only[afV,amk]at this⊢;rw[adU (by omega)];exact this
   have NP:i∉m++q:=λhm=>by
    rcases aev.1 hm with h|h
    ·have:=H.2.2 i h i (by simp);omega
    ·have:=(ak8.1 H.2.1).1 i h;omega
   have N: ∀k∈m++q,∀b,al k=some b->sl k<G.n/\G.pz (sl k)=some b:=λk hk b V=>pW k (by
    simp only[aev,ag7]at hk⊢;rcases hk with h|h
    ·exact .inl h
    ·exact .inr (.inr h)) b V
   rcases A5 i o ho with⟨oF,p⟩| ⟨z,tg,g,d,oF,p,y5⟩
   ·have gd:guardOf ops o=some (xs i).g:=by
      unfold iN at p;split at p
      ·rename_i A;have:=akn p;rw[<-this];exact A
      ·cases p
    have T: (xs i).dst=o.dst:=by
     unfold iN at p;split at p
     ·have:=akn p;rw[<-this]
     ·cases p
    have vF:=yO he gd;simp only[wpOpsIn,ho];rw[vF];rcases s with⟨J,v,y6,A,_,h4⟩| ⟨J,_,h4⟩
    ·rw[adY J];refine yP hC hg p (hd i Z) hw he hm A (λDz oG e G' a' w' q1 q2 q3 q4 q5=>?_) (λDz oG e=>by cases e);cases e;exact ih _ _ (m++q) G' y6 E' w' _ D a' Q O (by simpa using sH) R oE U ra h4 DE K (Gh.le_trans hle q1) (I.trans q3) (λk hk b V=>by
      obtain⟨p1,p2⟩:=N k hk b V;exact⟨ai6 p1 q1.n,by rw[q1.pz _ p1];exact p2⟩) q2 q4 q5 hQ
    ·rw[adU (by rw[J];simp)];refine⟨λ_ _=>trivial,?_⟩;obtain⟨p1,p2,p3⟩:=qZ (a:=a) he (hd i Z) (v:=.undef) (v':=undef) yN;rw[<-T];exact ih _ _ (m++q) G E E' w _ D _ Q O (by simpa using sH) R oE U ra h4 DE K hle I N hw p1 (by rw[p2,p3];exact hm) hQ
   ·rw[y5]at s;have y7: ∀d',d=some d'->d'<nt:=λd' A7=>hd i Z d' (by rw[y5];exact A7)
    have DA:lk P rows o=some (.alloc z tg)/\guardOf ops o=some g/\o.dst=d:=by
     unfold iN at p;split at p
     ·rename_i i' g' A h3;simp only[adT,aR.mk.injEq]at p;obtain⟨rfl,rfl,rfl⟩:=p;exact⟨A,h3,rfl⟩
     ·cases p
    obtain⟨NQ,gd,T⟩:=DA;have vF:=yO he gd;simp only[wpOpsIn,ho];rw[vF];rcases s with⟨J,v,y6,A,_,h4⟩| ⟨J,_,h4⟩
    ·rw[adY J];simp only[exec,ao.get,adT,Out.ok.injEq]at A;obtain⟨rfl,rfl⟩:=A;obtain⟨p1,p2⟩:=pW i (by simp) _ oF;obtain⟨t,pX,NR,rfl⟩: ∃t,o.op= .alloc t/\hY P t=some z/\tg=sD z t:=HJ NQ;obtain⟨w',e1,e2,e3⟩:=hw.real p1 p2 NR;refine⟨λ_ _=>trivial,?_⟩;have DB:o.semAt (W r).round a.eval=execOp a.eval o:=by
      apply Oper.semAt_eq;intro c e;rw[pX]at e;cases e
     have DC: (execOp a.eval o).run P w= .ok (.value (.pointer (some ⟨w.heap.size,0,none⟩))) w':=by
      unfold execOp;simp only[pX];rw[Sem.run_bind,e1];rfl
     rw[DB,DC];simp only[Oper.uponIn];have DD:=Gh.HH (b:=w.heap.size) p2;obtain⟨r1,r2,r3⟩:=qZ (a:=a) (dst:=d) (he.dM DD) y7 e3;rw[T];exact ih _ _ (m++q) _ E E' w' _ D _ Q O (by simpa using sH) R oE U ra h4 DE K (Gh.W4 hle p2 (wY i _ oF)) I (λk hk b V=>by
      obtain⟨p3,p4⟩:=N k hk b V;refine⟨p3,?_⟩;have sM:sl k≠sl i:=λe=>NP (by rw[NJ i k _ _ oF V e.symm];exact hk)
      simp only[Gh.real];rw[adU sM];exact p4) e2 r1 (by rw[r2,r3];exact hm.dM DD) hQ
    ·rw[adU (by rw[J];simp)];refine⟨λ_ _=>trivial,?_⟩;obtain⟨p1,p2,p3⟩:=qZ (a:=a) (dst:=d) he y7 (v:=.undef) (v':=undef) yN;rw[T];exact ih _ _ (m++q) G E E' w _ D _ Q O (by simpa using sH) R oE U ra h4 DE K hle I N hw p1 (by rw[p2,p3];exact hm) hQ
end
end
section
variable{P:Program}{X:Ctx}{B:Nat}{ay:World}{dg:List Deferred}
def DG{x:aR}{b:ae}(h:x.fP=some b): ∃z tg,x.i= .alloc z tg/\b= .box z tg:=by
 unfold aR.fP at h
 grind
def A8{x:aR}(h:x.fP=none):mg m x=x:=by unfold mg;rw[h]
def A9{x:aR}{b:ae}(h:x.fP=some b):mg m x={x with i:=.mov (.c (.ptr m 0))}:=by unfold mg;rw[h]
def HN{x:aR}: (mg m x).dst=x.dst:=by
 cases h:x.fP with
 |none=>rw[A8 h]
 |some b=>rw[A9 h]
def W7{x:aR}: (mg m x).reads=x.reads:=by
 cases h:x.fP with
 |none=>rw[A8 h]
 |some b=>
  rw[A9 h];obtain⟨z,tg,a,_⟩:=DG h;unfold aR.reads;rw[a];rfl
theorem DH: ∀ (ys:List (aR×lN)) (n q:Nat),(il n ys)[q]?=(ys[q]?).map λy=>(mg (n+(dL (ys.take q)).length) y.1,y.2)
 | [],n,q=>by rfl
 |o::os,n,0=>by rfl
 |o::os,n,q+1=>by
  simp only[il,axW,aqf];rw[DH os];cases h:o.1.fP with
  |none=>simp[dL,h]
  |some b=>
   simp only[dL,h,afL]
   grind
theorem NU: ∀ (ys:List (aR×lN)) (n:Nat),(il n ys).length=ys.length
 | [],_=>rfl
 |o::os,n=>by simp[il,NU os]
theorem NV: ∀ (ys:List (aR×lN)) (q:Nat) (y:aR×lN) (b:ae),ys[q]?=some y->y.1.fP=some b->(dL ys)[(dL (ys.take q)).length]?=some b
 | [],q,y,b,h,_=>by grind
 |o::os,0,y,b,h,a=>by
  simp at h;subst h;simp[dL,a]
 |o::os,q+1,y,b,h,a=>by
  have c:=NV os q y b (by grind) a;simp only[aqf,dL]
  grind
theorem DI: ∀ (ys:List (aR×lN)) (i j:Nat) (y:aR×lN) (b:ae),ys[i]?=some y->y.1.fP=some b->i<j->(dL (ys.take i)).length< (dL (ys.take j)).length
 | [],i,j,y,b,h,_,_=>by grind
 |o::os,0,j+1,y,b,h,a,_=>by
  simp at h;subst h;simp[dL,a]
 |o::os,i+1,j+1,y,b,h,a,c=>by
  have d:=DI os i j y b (by grind) a (by omega);simp only[aqf,dL]
  grind
 |o::os,_,0,y,b,h,a,c=>by omega
theorem HO: ∀ (ys:List (aR×lN)) (b:ae),b∈dL ys-> ∃y∈ys,y.1.fP=some b
 | [],b,h=>by trivial
 |o::os,b,h=>by
  simp only[dL]at h;cases ho:o.1.fP with
  |none=>
   rw[ho]at h;obtain⟨y,c,a⟩:=HO os b h
   grind
  |some d=>
   rw[ho]at h;rcases ag7.1 h with rfl|h
   ·grind
   ·obtain⟨y,c,a⟩:=HO os b h
    grind
def NW(hg:fH X B ay):A2 P X B ay:=by
 intro dg C hC rows r n nt id ops u ys A5 hd O G E w fr a res Q hw he hm hr hQ;obtain⟨NX,Z⟩:=WW A5;have W8:u.length=ops.size:=by omega
 unfold M5 at O;simp only at O;split at O
 ·rename_i W9;simp only[ag9]at W9;obtain⟨⟨⟨⟨Xa,Xb⟩,Xc⟩,Xd⟩,Y⟩:=W9;simp only[adT]at O
  let g:Nat->aR:=λi=>u.getD i default
  have s: ∀i,i<u.length->u[i]?=some (g i):=λi H=>by
   simp only[g,afQ,aep H,ak0]
  have DJ: ∀i,¬i<u.length->(g i).fP=none:=λi H=>by
   simp only[g,afQ,alG (Nat.le_of_not_lt H),axY];rfl
  let sl:Nat->Nat:=λi=>E.heap.length+(dL (ys.take i)).length
  let xs:Nat->aR:=λi=>mg (sl i) (g i)
  have DK:ys.length=u.length:=by rw[<-O];simp
  have I: ∀q y,ys[q]?=some y->y.1=g q:=by
   intro q y S;rw[<-O]at S;simp only[afU,aAB,afF]at S;obtain⟨p,⟨z,hz,rfl⟩,rfl⟩:=S;have K:q<u.length:=(adg.1 hz).1;have:=s q K;rw[hz]at this;simpa using this
  have Ba: ∀q,q<u.length-> ∃L,ys[q]?=some (g q,L):=λq S=>by
   have:q<ys.length:=by omega
   refine⟨(ys[q]).2,?_⟩;have e:=aep this;rw[e];have:=I q _ e;rw[<-this]
  by_cases hn:res.1= .normal
  ·obtain⟨F,f1,f2,f3,f4⟩:=NG (xs:=xs) (il E.heap.length ys) [] fr _ res (λq y S=>by
     rw[DH]at S;obtain⟨y',R,rfl⟩:=afF.1 S;have:=I q y' R;simp only[anJ,ak4,xs,sl,<-this]) hr hn
   have NY: (List.range (il E.heap.length ys).length).map (([]:List FP).length+ ·)=List.range ops.size:=by
    rw[NU,DK,W8];simp
   rw[NY]at f3;obtain⟨ex,HB,E'⟩:=res;simp only at f2 f3;subst f2;have V: ∀i o,ops[i]?=some o-> ∀a∈ln o,a<i:=by
    intro i o ho a ha;have H:i<ops.size:=(amp.1 ho).1;have:=afP.1 Xd i (by simp;omega);rw[ho]at this;simpa using afP.1 this a ha
   have T: ∀i j,i<j->j<ops.size->i∉hZ ops 64 j->ko (xs i) (xs j)=true/\ (F i).ok (F j)=true:=by
    intro i j A D c;have H:i<ops.size:=by omega
    have hb: (((List.range u.length).map λi=>(hZ ops 64 i).eraseDups).getD j []).contains i=false:=by
     simp only[afQ,afU,apW (show j<u.length by omega),afG,ak0];cases h: (hZ ops 64 j).eraseDups.contains i with
     |false=>rfl
     |true=>
      rw[awn,List.mem_eraseDups]at h;exact absurd h c
    have R:=afP.1 Y (g i,i) (by rw[anG];exact s i (by omega));have W:=afP.1 R (g j,j) (by rw[anG];exact s j (by omega));simp only[ge_iff_le,aos,ai8]at W;refine⟨?_,?_⟩
    ·have sO:ko (xs i) (xs j)=ko (g i) (g j):=by
       unfold ko;simp only[xs,HN,W7]
     rw[sO];rcases W with(h|h)|h
     ·omega
     ·rw[hb]at h;cases h
     ·exact h
    ·by_cases ci: (xs i).i.cls=0
     ·rw[y0 ci _ _ _ _ _ (by simp;omega) f3];exact WU _
     ·by_cases cj: (xs j).i.cls=0
      ·rw[y0 cj _ _ _ _ _ (by simp;omega) f3];exact WV _
      ·have same: ∀k,(xs k).i.cls≠0->xs k=g k:=by
         intro k hk;cases v: (g k).fP with
         |none=>exact A8 v
         |some b=>exact absurd (by show(mg (sl k) (g k)).i.cls=0;rw[A9 v];rfl) hk
       have ei:=same i ci;have ej:=same j cj;have NZ:ys[j]?=some (g j,sE u.zipIdx ((List.range u.length).map λi=>(hZ ops 64 i).eraseDups) (g j) j):=by
        rw[<-O];simp only[afU,aAB,s j (by omega),afG,ak4]
       have N: (il E.heap.length ys)[j]?=some (xs j,sE u.zipIdx ((List.range u.length).map λi=>(hZ ops 64 i).eraseDups) (g j) j):=by
        rw[DH,NZ];rfl
       have:=f4 j _ N i (by
        rw[ej]at cj;rw[ei]at ci;exact M4 (x:=g i) (by rw[anG];exact s i (by omega)) A ci cj hb) (by simpa using A)
       simpa using this
   refine wpIn_region_draw (λt=>?_);have J: ∃md ord t',Region.schedule (P.follows .mixedOrders) ops t=Region.linearise md ops t'/\vy md ops ord=true:=by
    unfold Region.schedule;split
    ·exact⟨.any,_,t,rfl,Xa⟩
    ·split
     ·exact⟨.text,_,_,rfl,Xb⟩
     ·exact⟨.gc,_,_,rfl,Xc⟩
   obtain⟨md,ord,t',J,y8⟩:=J;rw[J];unfold Region.linearise;have N0: ∀o∈dL ys,∃z tg,o= .box z tg/\aK z=0:=by
    intro o ho;obtain⟨y,R,W⟩:=HO ys o ho;obtain⟨z,tg,M,rfl⟩:=DG W;refine⟨z,tg,rfl,?_⟩;obtain⟨q,S⟩:=aw5 R;have K:q<ops.size:=by
     have:=(adg.1 S).1;omega
    obtain⟨x,e1,e2⟩:=Z q ops[q] (by simp[K]);have e3:=s q (by omega);rw[e1]at e3;rw[I q y S]at M;rw[akn e3]at e2;have:lk P rows ops[q]=some (.alloc z tg):=by
     unfold iN at e2;split at e2
     ·rename_i i' g' h4 h5;rw[<-akn e2]at M;simp only at M;rw[h4,M]
     ·cases e2
    obtain⟨t,_,hc,_⟩:=HJ this;obtain⟨z',_,_,l,_⟩:=sG hc (Gh.mk (λ_ _=>none) 0 (λi=>i) (λi=>i) (λi=>i) (λi=>i) (λi=>i) (λ_=>none)) w;have:=aF.refs _ _ l;simpa using this
   refine go_sound hC hg (xs:=xs) (F:=F) (rows:=rows) (nt:=nt) md y8 sl (λi=>(g i).fP) (λi o ho=>?_) (λi j bi bj H D A=>?_) (gp:=G) (cn:=E) (λi b H=>?_) (λi H d y9=>hd (g i) (amm (s i (by omega))) d (by rw[<-HN (m:=sl i)];exact y9)) V T ops.size t' _ (List.range ops.size) (G.later (dL ys)) (E.mZ (dL ys)) E' _ fr HB a Q
    (λi=>?_) (by simp) List.pairwise_lt_range (λj o ho D=>?_) (by simp) f3 (G.y3 _) (.mZ E _) (λi H b hb=>?_) (hw.later N0).drew (he.mono (G.y3 _)) (hm.mono (G.y3 _)) hQ
   ·obtain⟨x,R,W⟩:=Z i o (by simpa using ho);have M:=s i (adg.1 R).1;rw[R]at M;have M:=akn M;subst M;cases v: (g i).fP with
    |none=>exact .inl ⟨rfl,by rw[W];show _=some (mg (sl i) (g i));rw[A8 v]⟩
    |some b=>
     obtain⟨z,tg,h4,rfl⟩:=DG v;refine .inr ⟨z,tg,(g i).g,(g i).dst,rfl,?_,?_⟩
     ·rw[W,<-h4]
     ·show mg (sl i) (g i)=_;rw[A9 v]
   ·have N2:i<u.length:=by
      by_cases h:i<u.length
      ·exact h
      ·have:=DJ i h;rw[this]at H;cases H
    have N3:j<u.length:=by
     by_cases h:j<u.length
     ·exact h
     ·have:=DJ j h;rw[this]at D;cases D
    obtain⟨Li,ei⟩:=Ba i N2;obtain⟨Lj,ej⟩:=Ba j N3;have aoP: (dL (ys.take i)).length=(dL (ys.take j)).length:=by
     have:E.heap.length+(dL (ys.take i)).length=E.heap.length+(dL (ys.take j)).length:=A;omega
    rcases aBh i j with h|h|h
    ·have:=DI ys i j _ bi ei H h;omega
    ·exact h
    ·have:=DI ys j i _ bj ej D h;omega
   ·show G.n<=E.heap.length+_;rw[hw.len];omega
   ·simp only[alI,afV,axV];constructor
    ·intro h;exact⟨h,by simp[h]⟩
    ·exactλh=>h.1
   ·exfalso;have K:j<ops.size:=(amp.1 ho).1;simp[afV,K]at D
   ·have K:i<ops.size:=by simpa using H
    obtain⟨L,e⟩:=Ba i (by omega);have DL:=NV ys i _ b e hb;have Bb:=(adg.1 DL).1;have hn:=hw.len;refine⟨by show E.heap.length+_<G.n+_;omega,?_⟩;show(if E.heap.length+_<G.n then _ else _)=some b;rw[adU (by omega),hn,ahB];exact DL
  ·obtain⟨F,f,Hs,y6,aCu,f1,q1,f2,f3,f5,f6,f4,f8,f9,f10,f11⟩:=WT (xs:=xs) (il E.heap.length ys) [] fr _ res (λq y S=>by
     rw[DH]at S;obtain⟨y',R,rfl⟩:=afF.1 S;have:=I q y' R;simp only[anJ,ak4,xs,sl,<-this]) hr hn
   have NY: (List.range f).map (([]:List FP).length+ ·)=List.range f:=by simp
   rw[NY]at f3;obtain⟨ex,HB,E'⟩:=res;simp only[anJ,ak4]at f2 f3 f5 f6 f10 f11;subst f2;have U:f<ops.size:=by
    have:=(adg.1 q1).1;rw[NU,DK,W8]at this;exact this
   have V: ∀i o,ops[i]?=some o-> ∀a∈ln o,a<i:=by
    intro i o ho a ha;have H:i<ops.size:=(amp.1 ho).1;have:=afP.1 Xd i (by simp;omega);rw[ho]at this;simpa using afP.1 this a ha
   have N4: ∀i j,j<ops.size->i∉hZ ops 64 j->(((List.range u.length).map λi=>(hZ ops 64 i).eraseDups).getD j []).contains i=false:=by
    intro i j D c;simp only[afQ,afU,apW (show j<u.length by omega),afG,ak0];cases h: (hZ ops 64 j).eraseDups.contains i with
    |false=>rfl
    |true=>
     rw[awn,List.mem_eraseDups]at h;exact absurd h c
   have sO: ∀i j,i<j->j<ops.size->i∉hZ ops 64 j->ko (xs i) (xs j)=true:=by
    intro i j A D c;have hb:=N4 i j D c;have R:=afP.1 Y (g i,i) (by rw[anG];exact s i (by omega));have W:=afP.1 R (g j,j) (by rw[anG];exact s j (by omega));simp only[ge_iff_le,aos,ai8]at W;have sO:ko (xs i) (xs j)=ko (g i) (g j):=by
     unfold ko;simp only[xs,HN,W7]
    rw[sO];rcases W with(h|h)|h
    ·omega
    ·rw[hb]at h;cases h
    ·exact h
   have same: ∀k,(xs k).i.cls≠0->xs k=g k:=by
    intro k hk;cases v: (g k).fP with
    |none=>exact A8 v
    |some b=>exact absurd (by show(mg (sl k) (g k)).i.cls=0;rw[A9 v];rfl) hk
   have N: ∀j,j<ops.size->(il E.heap.length ys)[j]?=some (xs j,sE u.zipIdx ((List.range u.length).map λi=>(hZ ops 64 i).eraseDups) (g j) j):=by
    intro j D;have NZ:ys[j]?=some (g j,sE u.zipIdx ((List.range u.length).map λi=>(hZ ops 64 i).eraseDups) (g j) j):=by
     rw[<-O];simp only[afU,aAB,s j (by omega),afG,ak4]
    rw[DH,NZ];rfl
   have N5: ∀i j,i<j->j<ops.size->i∉hZ ops 64 j->(xs i).i.cls≠0->(xs j).i.cls≠0->i∈sE u.zipIdx ((List.range u.length).map λi=>(hZ ops 64 i).eraseDups) (g j) j:=by
    intro i j A D c ci cj;have hb:=N4 i j D c;rw[same i ci]at ci;rw[same j cj]at cj;exact M4 (x:=g i) (by rw[anG];exact s i (by omega)) A ci cj hb
   have wZ:=N f U;rw[q1]at wZ;have wZ:=akn wZ;subst wZ;have T: ∀i j,i<j->j<f->i∉hZ ops 64 j->ko (xs i) (xs j)=true/\ (F i).ok (F j)=true:=by
    intro i j A D c;refine⟨sO i j A (by omega) c,?_⟩;by_cases ci: (xs i).i.cls=0
    ·rw[y0 ci _ _ _ _ _ (by simp;omega) f3];exact WU _
    ·by_cases cj: (xs j).i.cls=0
     ·rw[y0 cj _ _ _ _ _ (by simp;omega) f3];exact WV _
     ·have:=f4 j _ D (N j (by omega)) i (N5 i j A (by omega) c ci cj) (by simpa using A);simpa using this
   have NS: ∀i,i<f->i∈hZ ops 64 f:=by
    intro i H;refine anF λc=>?_
    simp only at f8 f9 f10;rcases f10 with f10|f10
    ·rw[same f f9]at f10;exact amG (x:=g i) (by rw[anG];exact s i (by omega)) H f10 (N4 i f U c) f8
    ·have ci: (xs i).i.cls≠0:=λci=>f10 i H (y0 ci _ _ _ _ _ (by simp;omega) f3)
     have:=N5 i f H U c ci f9;rw[f8]at this;cases this
   have NT: ∀j,f<j->j<ops.size->f∈hZ ops 64 j:=by
    intro j D N6;refine anF λc=>?_
    have za:=f11 j _ D (N j N6);simp only at za;split at za
    ·rw[sO f j D N6 c]at za;cases za
    ·rename_i cj;exact za (N5 f j D N6 c f9 cj)
   refine wpIn_region_draw (λt=>?_);have J: ∃md ord t',Region.schedule (P.follows .mixedOrders) ops t=Region.linearise md ops t'/\vy md ops ord=true:=by
    unfold Region.schedule;split
    ·exact⟨.any,_,t,rfl,Xa⟩
    ·split
     ·exact⟨.text,_,_,rfl,Xb⟩
     ·exact⟨.gc,_,_,rfl,Xc⟩
   obtain⟨md,ord,t',J,y8⟩:=J;rw[J];unfold Region.linearise;have N0: ∀o∈dL ys,∃z tg,o= .box z tg/\aK z=0:=by
    intro o ho;obtain⟨y,R,W⟩:=HO ys o ho;obtain⟨z,tg,M,rfl⟩:=DG W;refine⟨z,tg,rfl,?_⟩;obtain⟨q,S⟩:=aw5 R;have K:q<ops.size:=by
     have:=(adg.1 S).1;omega
    obtain⟨x,e1,e2⟩:=Z q ops[q] (by simp[K]);have e3:=s q (by omega);rw[e1]at e3;rw[I q y S]at M;rw[akn e3]at e2;have:lk P rows ops[q]=some (.alloc z tg):=by
     unfold iN at e2;split at e2
     ·rename_i i' g' h4 h5;rw[<-akn e2]at M;simp only at M;rw[h4,M]
     ·cases e2
    obtain⟨t,_,hc,_⟩:=HJ this;obtain⟨z',_,_,l,_⟩:=sG hc (Gh.mk (λ_ _=>none) 0 (λi=>i) (λi=>i) (λi=>i) (λi=>i) (λi=>i) (λ_=>none)) w;have:=aF.refs _ _ l;simpa using this
   refine aoN hC hg (xs:=xs) (F:=F) (rows:=rows) (nt:=nt) md y8 sl (λi=>(g i).fP) (λi o ho=>?_) (λi j bi bj H D A=>?_) (gp:=G) (cn:=E) (λi b H=>?_) (λi H d y9=>hd (g i) (amm (s i (by omega))) d (by rw[<-HN (m:=sl i)];exact y9)) V U T NS NT ops.size t' _ (List.range f) (G.later (dL ys)) (E.mZ (dL ys)) y6 _ fr HB a Q
    (λi=>?_) (by simp) (λj _ D=>by simp[D]) List.pairwise_lt_range (λj o ho D=>?_) (by simpa using U) f3 f5 f6 (G.y3 _) (.mZ E _) (λi H b hb=>?_) (hw.later N0).drew (he.mono (G.y3 _)) (hm.mono (G.y3 _)) hQ
   ·obtain⟨x,R,W⟩:=Z i o (by simpa using ho);have M:=s i (adg.1 R).1;rw[R]at M;have M:=akn M;subst M;cases v: (g i).fP with
    |none=>exact .inl ⟨rfl,by rw[W];show _=some (mg (sl i) (g i));rw[A8 v]⟩
    |some b=>
     obtain⟨z,tg,h4,rfl⟩:=DG v;refine .inr ⟨z,tg,(g i).g,(g i).dst,rfl,?_,?_⟩
     ·rw[W,<-h4]
     ·show mg (sl i) (g i)=_;rw[A9 v]
   ·have N2:i<u.length:=by
      by_cases h:i<u.length
      ·exact h
      ·have:=DJ i h;rw[this]at H;cases H
    have N3:j<u.length:=by
     by_cases h:j<u.length
     ·exact h
     ·have:=DJ j h;rw[this]at D;cases D
    obtain⟨Li,ei⟩:=Ba i N2;obtain⟨Lj,ej⟩:=Ba j N3;have aoP: (dL (ys.take i)).length=(dL (ys.take j)).length:=by
     have:E.heap.length+(dL (ys.take i)).length=E.heap.length+(dL (ys.take j)).length:=A;omega
    rcases aBh i j with h|h|h
    ·have:=DI ys i j _ bi ei H h;omega
    ·exact h
    ·have:=DI ys j i _ bj ej D h;omega
   ·show G.n<=E.heap.length+_;rw[hw.len];omega
   ·simp only[alI,afV,axV];constructor
    ·intro h;exact⟨h,by simp[Nat.lt_trans h U]⟩
    ·exactλh=>h.1
   ·exfalso;have K:j<ops.size:=(amp.1 ho).1;simp[afV,K]at D
   ·have K:i<ops.size:=Nat.lt_trans (by simpa using H) U;obtain⟨L,e⟩:=Ba i (by omega);have DL:=NV ys i _ b e hb;have Bb:=(adg.1 DL).1;have hn:=hw.len;refine⟨by show E.heap.length+_<G.n+_;omega,?_⟩;show(if E.heap.length+_<G.n then _ else _)=some b;rw[adU (by omega),hn,ahB];exact DL
 grind
def aoQ(n:Nat):yS (iter n):=λ_ _ _ _ h=>⟨n,h⟩
theorem Xe(a:fH X B ay)(b:pV P X)(c: ∀f p,X.bW f=some p->gJ P B ay f p): ∀n,fS P B ay (iM X n)
 |0=>by intro fv args E d h;simp[iM]at h
 |n+1=>aoA (Xe a b c n) a b (NW a) (aoQ n) c
end
section
variable{P:Program}{X:Ctx}{B:Nat}{ay:World}
def Gh.start(w:World):Gh where
 bu b o:=if b<w.heap.size then w.cell? ⟨b,o,none⟩else none
 n:=0
 bf:=id
 base:=id
 ak:=id
 eD:=id
 sz:=id
theorem aX.start(w:World):aX P w.heap.size w (Gh.start w) {heap:=[],lo:=none} w where
 len:=rfl
 bu b o v h:=by
  simp only[Gh.start]at h
  grind
 obj id o h:=by grind
 inj i j a:=absurd a.1 (apN _)
 sep i a:=absurd a.1 (apN _)
 low i a:=absurd a.1 (apN _)
 mi i o a:=absurd a (apN _)
 mh:=⟨rfl,rfl,rfl,afA _,λ_ _=>rfl⟩
 hB:=afA _
 dV b o v c h:=by simp only[Gh.start];grind
end
section
variable{P:Program}{X:Ctx}{B:Nat}{ay:World}
def bz.le(C a:bz):Prop:= ∀f args E r,C f args E=some r->a f args E=some r
def rh(b a:Fr->AS->jA):Prop:= ∀fr E r,b fr E=some r->a fr E=some r
def eL.le(L c:eL):Prop:= ∀b a,rh b a->rh (L b) (c a)
theorem Bc{C c:bz}(b:bz.le C c)(i:I)(e:Env)(E:AS)(r:Out)(h:exec X C i e E=some r):exec X c i e E=some r:=by
 cases i with
 |call f args=>
  simp only[exec]at h⊢;split at h
  ·rename_i a;rw[b _ _ _ _ a];exact h
  ·rename_i a;rw[b _ _ _ _ a];exact h
  grind
 |_=>simpa only[exec]using h
theorem HP{C b:bz}(a:bz.le C b): ∀ (os:List aR),rh (fj X C os) (fj X b os)
 | [],_,_,_,h=>by trivial
 |o::os,fr,E,r,h=>by
  simp only[fj]at h⊢;split at h
  ·rename_i hw;rw[adY hw];split at h
   ·rename_i c;rw[Bc a _ _ _ _ c];exact HP a os _ _ _ h
   ·grind [Bc]
   grind
  ·rename_i hw;rw[adU hw];exact HP a os _ _ _ h
theorem HQ{C c:bz}(b:bz.le C c): ∀ (os:List (aR×lN)) (a:List FP),rh (gH X C a os) (gH X c a os)
 | [],_,_,_,_,h=>by trivial
 |o::os,a,fr,E,r,h=>by
  simp only[gH]at h⊢;split at h
  ·rename_i hw;rw[adY hw];split at h
   ·rename_i d;rw[Bc b _ _ _ _ d];simp only;split at h
    ·rename_i e;rw[adY e];exact HQ b os _ _ _ _ h
    grind
   ·grind [Bc]
   grind
  ·rename_i hw;rw[adU hw];exact HQ b os _ _ _ _ h
theorem ri{C m:bz}{L l:eL}(d:bz.le C m)(e:eL.le L l)(bR:FuncId)(rd:Bool): ∀pc,rh (bc X C L bR rd pc) (bc X m l bR rd pc)
 |.skip,_,_,_,h=>by trivial
 |.seq a b,fr,E,r,h=>by
  simp only[bc]at h⊢;split at h
  ·rename_i f;rw[ri d e bR rd a _ _ _ f];exact ri d e bR rd b _ _ _ h
  ·cases i:bc X C L bR rd a fr E with
   |none=>grind
   |some q=>
    rw[ri d e bR rd a _ _ _ i]
    grind
 |.cond c a b,fr,E,r,h=>by
  simp only[bc]at h⊢;split at h
  ·rename_i t o;split at h
   ·rename_i j;rw[adY j];exact ri d e bR rd a _ _ _ h
   ·rename_i j;rw[adU j];exact ri d e bR rd b _ _ _ h
  omega
 |.block id body,fr,E,r,h=>by
  simp only[bc]at h⊢;cases i:bc X C L bR rd body fr E with
  |none=>rw[i]at h;cases h
  |some q=>rw[ri d e bR rd body _ _ _ i];rw[i]at h;exact h
 |.loop body,fr,E,r,h=>by
  simp only[bc]at h⊢;exact e _ _ (ri d e bR rd body) _ _ _ h
 |.exit id,_,_,_,h=>by simpa only[bc]using h
 |.ret,_,_,_,h=>by simpa only[bc]using h
 |.aO ops,fr,E,r,h=>by
  simp only[bc]at h⊢;exact HP d ops _ _ _ h
 |.vo ops,fr,E,r,h=>by
  simp only[bc]at h⊢;exact HQ d _ _ _ _ _ h
 |.gS g ps as bd,fr,E,r,h=>by
  simp only[bc]at h⊢;split at h
  ·cases h
  ·rename_i k;rw[adU k];split at h
   ·rename_i n;rw[adY n];split at h
    ·rename_i f;rw[d _ _ _ _ f];exact h
    ·rename_i f;rw[d _ _ _ _ f];exact h
    ·cases h
   ·cases h
theorem aoR{C o:bz}{L n:eL}(m:bz.le C o)(k:eL.le L n)(l:Nat)(args:lA)(E:AS)(r:aU)(h:kq X C L l args E=some r):kq X o n l args E=some r:=by
 simp only[kq]at h⊢;split at h
 ·rename_i st i f env ps as bd u;split at h
  ·rename_i a;simp only[a,ag6];split at h
   ·rename_i fr d p;rw[ri m k _ _ _ _ _ _ p];simp only;split at h
    ·rename_i b t c e g jg s;cases j:bc X C L f true bd fr (d.set l (.loop .busy b t c e g jg) 0)with
     |none=>rw[j]at h;cases h
     |some q=>rw[ri m k _ _ _ _ _ _ j];grind
    omega
   grind
  grind
 omega
def Xf{C c:bz}{L b:eL}(e:bz.le C c)(d:eL.le L b):bz.le (step X C L) (step X c b):=by
 intro v args E r h;unfold step at h⊢;split at h
 ·rename_i f first cap
  split at h
  ·omega
  ·split at h
   ·rename_i pf g;split at h
    ·cases a:bc X C L f false pf.body {env:=dq (first++args++cap),marks:=[]} {E with lo:=none}with
     |none=>rw[a]at h;cases h
     |some q=>rw[ri e d _ _ _ _ _ _ a];grind
    grind
   omega
 ·grind [aoR]
 omega
theorem N7: ∀n,eL.le (iter n) (iter (n+1))
 |0,b,c,a,fr,E,r,h=>by trivial
 |n+1,b,c,a,fr,E,r,h=>by
  rw[iter]at h⊢;split at h
  ·rename_i d;rw[a _ _ _ d];exact N7 n b c a _ _ _ h
  ·rw[a _ _ _ h]
   grind
theorem Xg: ∀n,bz.le (iM X n) (iM X (n+1))
 |0=>λf args E r h=>by trivial
 |n+1=>by
  exact Xf (Xg n) (N7 n)
def bz.le_trans{A B C:bz}(h:bz.le A B)(k:bz.le B C):bz.le A C:=λf a s r e=>k f a s r (h f a s r e)
def zb(h:n<=m):bz.le (iM X n) (iM X m):=by
 induction h with
 |refl=>exactλf a s r e=>e
 |step _ b=>exact bz.le_trans b (Xg _)
def N8(h:n<=m)(b:Fr->AS->jA):rh (iter n b) (iter m b):=by
 induction h with
 |refl=>exactλfr s r e=>e
 |step _ a=>exactλfr s r e=>N7 _ b b (λ_ _ _ h=>h) _ _ _ (a fr s r e)
theorem HR: ∀n (b a:Fr->AS->jA),rh b a->rh (iter n b) (iter n a)
 |0,_,_,_=>λfr E r h=>by trivial
 |n+1,b,a,c=>λfr E r h=>by
  rw[iter]at h⊢;split at h
  ·rename_i d;rw[c _ _ _ d];exact HR n b a c _ _ _ h
  ·rw[c _ _ _ h]
   grind
def Xh(h:n<=m):eL.le (iter n) (iter m):=by
 intro b a c fr s r e;exact N8 h a _ _ _ (HR n b a c _ _ _ e)
noncomputable def D(X:Ctx):bz:=λf args E=>
 open Classical in if h: ∃r,∃n,iM X n f args E=some r then some h.choose else none
noncomputable def Lw:eL:=λb fr E=>
 open Classical in if h: ∃r,∃n,iter n b fr E=some r then some h.choose else none
def N9:bz.le (iM X n) (D X):=by
 intro f args E r h;have a: ∃r,∃n,iM X n f args E=some r:=⟨r,n,h⟩;unfold D;obtain⟨m,hm⟩:=a.choose_spec;have c:=zb (aqy n m) _ _ _ _ h;have b:=zb (aqL n m) _ _ _ _ hm
 grind
theorem zd{f:AV}{args:lA}{E:AS}{r:aU}(h:D X f args E=some r): ∃n,iM X n f args E=some r:=by
 unfold D at h;split at h
 ·grind
 grind
def Oa{b:Fr->AS->jA}:rh (iter n b) (Lw b):=by
 intro fr E r h;have a: ∃r,∃n,iter n b fr E=some r:=⟨r,n,h⟩;unfold Lw;obtain⟨m,hm⟩:=a.choose_spec;have d:=N8 (aqy n m) b _ _ _ h;have c:=N8 (aqL n m) b _ _ _ hm
 grind
def DM{b:Fr->AS->jA}{a:Fr}{E:AS}{r:Ex×Fr×AS}(h:Lw b a E=some r): ∃n,iter n b a E=some r:=by
 unfold Lw at h;split at h
 ·grind
 grind
theorem aoS(b:Fr->AS->jA)(e:Fr)(E:AS):Lw b e E=match b e E with
  |some (.normal,c,h)=>Lw b c h
  |r=>r:=by
 split
 ·rename_i c h d;cases g:Lw b c h with
  |none=>
   cases f:Lw b e E with
   |none=>rfl
   |some r=>
    obtain⟨n,a⟩:=DM f;cases n with
    |zero=>trivial
    |succ n=>rw[iter,d]at a;rw[Oa _ _ _ a]at g;cases g
  |some r=>
   obtain⟨n,a⟩:=DM g;exact Oa (n:=n+1) _ _ _ (by rw[iter,d];exact a)
 ·cases d:b e E with
  |none=>
   cases f:Lw b e E with
   |none=>rfl
   |some r=>
    obtain⟨n,a⟩:=DM f;cases n with
    |zero=>trivial
    |succ n=>rw[iter,d]at a;cases a
  |some q=>
   refine Oa (n:=1) _ _ _ ?_;rw[iter,d]
   grind
theorem HS{i:I}{E:AS}{r:Out}(h:exec X (D X) i e E=some r): ∃n,exec X (iM X n) i e E=some r:=by
 cases i with
 |call f args=>
  simp only[exec]at h⊢;split at h
  ·grind [zd]
  ·rename_i b;obtain⟨n,a⟩:=zd b;exact⟨n,by rw[a];exact h⟩
  grind
 |_=>exact⟨0,by simpa only[exec]using h⟩
theorem Ob: ∀ (os:List aR) (fr:Fr) (E:AS) (r:Ex×Fr×AS),fj X (D X) os fr E=some r-> ∃n,fj X (iM X n) os fr E=some r
 | [],_,_,_,h=>⟨0,by trivial⟩
 |o::os,fr,E,r,h=>by
  simp only[fj]at h⊢;split at h
  ·rename_i hw;simp only[hw,ag6];split at h
   ·rename_i a;obtain⟨n,b⟩:=HS a;obtain⟨m,hm⟩:=Ob os _ _ _ h;refine⟨max n m,?_⟩;rw[Bc (zb (aqy n m)) _ _ _ _ b];exact HP (zb (aqL n m)) _ _ _ _ hm
   ·grind [HS]
   grind
  ·obtain⟨m,hm⟩:=Ob os _ _ _ h
   grind
theorem Oc: ∀ (os:List (aR×lN)) (a:List FP) (fr:Fr) (E:AS) (r:Ex×Fr×AS),gH X (D X) a os fr E=some r-> ∃n,gH X (iM X n) a os fr E=some r
 | [],_,_,_,_,h=>⟨0,by trivial⟩
 |o::os,a,fr,E,r,h=>by
  simp only[gH]at h⊢;split at h
  ·rename_i hw;simp only[hw,ag6];split at h
   ·rename_i b;obtain⟨n,c⟩:=HS b;split at h
    ·rename_i d;obtain⟨m,hm⟩:=Oc os _ _ _ _ h;refine⟨max n m,?_⟩;rw[Bc (zb (aqy n m)) _ _ _ _ c];simp only;rw[adY d];exact HQ (zb (aqL n m)) _ _ _ _ _ hm
    grind
   ·rename_i b;obtain⟨n,c⟩:=HS b
    grind
   grind
  ·obtain⟨m,hm⟩:=Oc os _ _ _ _ h
   grind
def ze(h:n<=m)(bR:FuncId)(rd:Bool)(a:PC):rh (bc X (iM X n) (iter n) bR rd a) (bc X (iM X m) (iter m) bR rd a):=
 ri (zb h) (Xh h) bR rd a
theorem rj(bR:FuncId)(rd:Bool): ∀ (pc:PC) (fr:Fr) (E:AS) (r:Ex×Fr×AS),bc X (D X) Lw bR rd pc fr E=some r-> ∃n,bc X (iM X n) (iter n) bR rd pc fr E=some r
 |.skip,_,_,_,h=>⟨0,by trivial⟩
 |.seq a b,fr,E,r,h=>by
  simp only[bc]at h;split at h
  ·rename_i e;obtain⟨n,d⟩:=rj bR rd a _ _ _ e;obtain⟨m,hm⟩:=rj bR rd b _ _ _ h;refine⟨max n m,?_⟩;simp only[bc];rw[ze (aqy n m) _ _ _ _ _ _ d];exact ze (aqL n m) _ _ _ _ _ _ hm
  ·rename_i e;obtain⟨n,d⟩:=rj bR rd a _ _ _ h;refine⟨n,?_⟩;simp only[bc];rw[d];obtain⟨ex,l,v⟩:=r;cases ex with
   |normal=>exact absurd h (e _ _)
   |_=>rfl
 |.cond c a b,fr,E,r,h=>by
  simp only[bc]at h;split at h
  ·rename_i t p;split at h
   ·rename_i i;obtain⟨n,d⟩:=rj bR rd a _ _ _ h;exact⟨n,by simp only[bc,p,i,ag6];exact d⟩
   ·rename_i i;obtain⟨n,d⟩:=rj bR rd b _ _ _ h;exact⟨n,by simp only[bc,p,adU i];exact d⟩
  ·cases h
 |.block id body,fr,E,r,h=>by
  simp only[bc]at h;cases j:bc X (D X) Lw bR rd body fr E with
  |none=>rw[j]at h;cases h
  |some q=>
   obtain⟨n,d⟩:=rj bR rd body _ _ _ j;refine⟨n,?_⟩;simp only[bc];rw[d];rw[j]at h;exact h
 |.loop body,fr,E,r,h=>by
  simp only[bc]at h;obtain⟨k,u⟩:=DM h;have key: ∀k fr,∀E,iter k (bc X (D X) Lw bR rd body) fr E=some r-> ∃n,iter n (bc X (iM X n) (iter n) bR rd body) fr E=some r:=by
   intro k
   induction k with
   |zero=>intro fr E h;simp[iter]at h
   |succ k s=>
    intro fr E h;rw[iter]at h;split at h
    ·rename_i e;obtain⟨n,d⟩:=rj bR rd body _ _ _ e;obtain⟨m,hm⟩:=s _ _ h;refine⟨max n m+1,?_⟩;rw[iter];rw[ze (show n<=max n m+1 by omega) _ _ _ _ _ _ d];exact Xh (show m<=max n m by omega) _ _ (ze (show m<=max n m+1 by omega) _ _ _) _ _ _ hm
    ·rename_i e;obtain⟨n,d⟩:=rj bR rd body _ _ _ h;refine⟨n+1,?_⟩;rw[iter,ze (Nat.le_succ n) _ _ _ _ _ _ d];obtain⟨ex,l,v⟩:=r;cases ex with
     |normal=>exact absurd h (e _ _)
     |_=>rfl
  obtain⟨n,d⟩:=key k fr E u;exact⟨n,by simp only[bc];exact d⟩
 |.exit id,_,_,_,h=>⟨0,by simpa only[bc]using h⟩
 |.ret,_,_,_,h=>⟨0,by simpa only[bc]using h⟩
 |.aO ops,fr,E,r,h=>by
  simp only[bc]at h;obtain⟨n,d⟩:=Ob _ _ _ _ h;exact⟨n,by simp only[bc];exact d⟩
 |.vo ops,fr,E,r,h=>by
  simp only[bc]at h;obtain⟨n,d⟩:=Oc _ _ _ _ _ h;exact⟨n,by simp only[bc];exact d⟩
 |.gS g ps as bd,fr,E,r,h=>by
  simp only[bc]at h;split at h
  ·cases h
  ·rename_i f;split at h
   ·rename_i o;split at h
    ·rename_i e;obtain⟨n,d⟩:=zd e;exact⟨n,by simp only[bc];rw[adU f,adY o,d];exact h⟩
    ·rename_i e;obtain⟨n,d⟩:=zd e;exact⟨n,by simp only[bc];rw[adU f,adY o,d];exact h⟩
    ·cases h
   ·cases h
def aoT{args:lA}{E:AS}{r:aU}(h:kq X (D X) Lw l args E=some r): ∃n,kq X (iM X n) (iter n) l args E=some r:=by
 simp only[kq]at h⊢;split at h
 ·rename_i st i f env ps as bd t;split at h
  ·rename_i d;split at h
   ·rename_i fr c k;obtain⟨n,o⟩:=rj _ _ _ _ _ _ k;split at h
    ·rename_i a s b e g jg p;cases j:bc X (D X) Lw f true bd fr (c.set l (.loop .busy a s b e g jg) 0)with
     |none=>rw[j]at h;cases h
     |some q=>
      obtain⟨m,hm⟩:=rj _ _ _ _ _ _ j;have e1:=ze (aqy n m) _ _ _ _ _ _ o;have u:=ze (aqL n m) _ _ _ _ _ _ hm
      grind
    grind
   grind
  grind
 grind
def HT{args:lA}{E:AS}{r:aU}(h:step X (D X) Lw v args E=some r):D X v args E=some r:=by
 have key: ∃n,step X (iM X n) (iter n) v args E=some r:=by
  unfold step at h⊢;split at h
  ·rename_i f first cap
   split at h
   ·simp_all
   ·split at h
    ·rename_i pf c;split at h
     ·cases a:bc X (D X) Lw f false pf.body {env:=dq (first++args++cap),marks:=[]} {E with lo:=none}with
      |none=>rw[a]at h;cases h
      |some q=>grind [rj]
     grind
    grind
  ·exact aoT h
  grind
 obtain⟨n,b⟩:=key;exact N9 (n:=n+1) _ _ _ _ (by trivial)
def Od(b:fH X B ay)(c:pV P X)(d: ∀f p,X.bW f=some p->gJ P B ay f p):fS P B ay (D X):=by
 intro fv args E e h;obtain⟨n,a⟩:=zd h;exact Xe b c d n fv args E e a
end
def HU:Value->Prop
 |.slice (some a) _ _=>a.spot=none
 |_=>True
section
variable{H:Type}{enc:TypeId×Value->H}{P:Program}{w:World}{sp:Nat->Bool}{held:Bool}
def Oe(R:TypeId->DataW H->lA->Prop):List Field->List (DataW H)->lA->Prop
 | [],e,xs=>e=[]/\xs=[]
 |x::r,e,xs=> ∃d c a b,e=d::c/\xs=a++b/\R x.type d a/\Oe R r c b
def im(P:Program):Nat->TypeId->DataW H->lA->Prop
 |0,_,_,_=>False
 |f+1,t,d,xs=>match P.underlying t with
  |some .bool=> ∃b,d= .lit (.bool b)/\xs=[.bool b]
  |some (.int k)=> ∃n,d= .lit (.int k n)/\xs=[.int k n]/\ (Lit.int k n).wf=true
  |some .string=> ∃s:ByteArray,d= .lit (.string s.data.toList)/\xs=[.str s]/\s.size<=maxLen
  |some (.slice e)=>(d= .nil/\xs=[.aq])\/ ∃ (es rest:List (DataW H)) (af:List lA),d= .slice es rest/\xs=[.sl af false]/\es.length=af.length/\af.length<=maxLen/\
    ∀ (i:Nat) (a:DataW H) (b:lA),es[i]?=some a->af[i]?=some b->b.length=P.cellsOf e/\im P f e a b
  |some (.struct fs)=> ∃c,d= .agg c/\Oe (im P f) fs.toList c xs
  |some (.array n e)=> ∃ (c:List (DataW H)) (af:List lA),d= .agg c/\xs=af.flatten/\c.length=n/\af.length=n/\ ∀ (i:Nat) (a:DataW H) (b:lA),c[i]?=some a->af[i]?=some b->im P f e a b
  |_=>False
def Bd(P:Program)(g:TypeId->Bool):List Field->Nat->Nat->Bool
 | [],off,n=>off==n
 |x::r,off,n=>x.offset==off&&g x.type&&Bd P g r (off+P.cellsOf x.type) n
def Be(P:Program)(nest:Bool):Nat->TypeId->Bool
 |0,_=>false
 |f+1,t=>match P.underlying t with
  |some .bool=>true
  |some (.int _)=>true
  |some .string=>true
  |some (.slice e)=>nest&&Be P nest f e
  |some (.struct fs)=>Bd P (Be P nest f) fs.toList 0 (P.cellsOf t)
  |some (.array n e)=>Be P nest f e&&P.cellsOf t==n*P.cellsOf e
  |_=>false
def Xi(w:World)(b o:Nat):Option Value:=if b<w.heap.size then w.cell? ⟨b,o,none⟩else none
def aoU{b o:Nat}{v:Value}(h:w.cell? ⟨b,o,none⟩=some v):Xi w b o=some v:=by
 unfold Xi;rw[adY,h];unfold World.cell? at h
 grind
def Xj{a:Addr}(h:a.spot=none)(n:Nat):a.add n=⟨a.block,a.off+n,none⟩:=by
 unfold Addr.add;split
 ·obtain⟨b,o,s⟩:=a;grind
 ·rfl
def aoV{a:Addr}(e:a.spot=none){c:Nat}{cs:List Value}(h:w.cells? 0 (a.add k) c=some cs):cs.length=c/\ ∀ (j:Nat) (v:Value),cs[j]?=some v->w.cell? ⟨a.block,a.off+k+j,none⟩=some v:=by
 have b:=mapM_some_length h;rw[auS]at b;refine⟨b,λj v d=>?_⟩;have:=mapM_some_get h j j (by grind);rw[d]at this;rw[Xj e,Xj rfl]at this;omega
def Xk{e:TypeId}{R:DataW H->lA->Prop}{a:Addr}(A:a.spot=none)
  (D: ∀ (cs:List Value) d ps,(∀ (j:Nat) (v:Value),cs[j]?=some v-> ∃o,w.cell? ⟨a.block,o,none⟩=some v)->DataW.trod enc P w 0 sp held n e cs=some (d,ps)-> ∃xs,R d xs/\aF (Gh.start w) xs cs/\Leaves cs/\xs.length=cs.length)
  {es:List (DataW H×List MemPlace)} (len:Nat) (M:len<=es.length)
  (h: ∀i,i<len->(w.cells? 0 (a.add (i*P.cellsOf e)) (P.cellsOf e)).bind (DataW.trod enc P w 0 sp held n e)=es[i]?):
  ∃ (af:List lA) (vs:List Value),af.length=len/\ (∀ (i:Nat) (x:DataW H×List MemPlace) (b:lA),es[i]?=some x->af[i]?=some b->b.length=P.cellsOf e/\R x.1 b)/\aF (Gh.start w) af.flatten vs/\Leaves vs/\vs.length=len*P.cellsOf e/\qX (Gh.start w) a.block a.off vs:=by
 induction len with
 |zero=>exact⟨[],[],rfl,λi x b _ f=>by grind,rfl,λv c=>by grind,by simp,λj v c=>by grind⟩
 |succ m y=>
  obtain⟨af,vs,q,J,I,G,F,E⟩:=y (by omega) (λi p=>h i (by omega));have hm:=h m (aw2 m);have g:es[m]?=some es[m]:=aep (by omega);rw[g,anY]at hm;obtain⟨cs,C,z⟩:=hm;obtain⟨K,r⟩:=aoV A C;obtain⟨xs,u,t,s,L⟩:=D cs es[m].1 es[m].2 (λj v c=>⟨_,r j v c⟩) z;refine⟨af++[xs],vs++cs,by simp[q],λi x b k f=>?_,by rw[anK];simpa using I.append t,G.append s,by simp[F,K,ap2],λj v c=>?_⟩
  ·by_cases p:i<af.length
   ·rw[adf p]at f;exact J i x b k f
   ·have l:=(adg.1 f).1;rw[aer,aqB]at l;have:i=m:=by omega
    subst this;rw[afJ (by omega),q,Nat.sub_self]at f;simp only[aqi,adT]at f;rw[g]at k;cases k;cases f;exact⟨by omega,u⟩
  ·by_cases B:j<vs.length
   ·rw[adf B]at c;exact E j v c
   ·rw[afJ (by omega)]at c;have:=r _ _ c;have e1:a.off+m*P.cellsOf e+(j-vs.length)=a.off+j:=by omega
    rw[e1]at this;exact aoU this
theorem Of{n:Nat}{R:TypeId->DataW H->lA->Prop}{g:TypeId->Bool}{cs:List Value}
  (m: ∀t c d ps,g t=true->(∀v∈c,v∈cs)->DataW.trod enc P w 0 sp held n t c=some (d,ps)-> ∃xs,R t d xs/\aF (Gh.start w) xs c/\Leaves c/\xs.length=c.length)
  (N:Nat) (u:cs.length=N):
  ∀ (fs:List Field) (ys:List (DataW H×List MemPlace)) (off:Nat),Bd P g fs off N=true->ys.length=fs.length->(∀ (i:Nat) (f:Field),fs[i]?=some f->DataW.trod enc P w 0 sp held n f.type ((cs.drop f.offset).take (P.cellsOf f.type))=ys[i]?)->
    ∃xs,Oe R fs (ys.map (·.1)) xs/\aF (Gh.start w) xs (cs.drop off)/\Leaves (cs.drop off)/\xs.length=(cs.drop off).length
 | [],ys,off,j,k,_=>by
   simp only[Bd,asa]at j;have:cs.drop off=[]:=ahp (by omega);rw[this];cases ys with
   |nil=>exact⟨[],⟨rfl,rfl⟩,rfl,λv l=>by grind,rfl⟩
   |cons _ _=>grind
 |x::r,ys,off,j,k,h=>by
  simp only[Bd,ag9,asa]at j;obtain⟨⟨rfl,s⟩,p⟩:=j;cases ys with
  |nil=>grind
  |cons y ys=>
   have o:=h 0 x rfl;simp only[aqi]at o;obtain⟨a,G,F,E,D⟩:=m x.type _ y.1 y.2 s (λv l=>aou (aiy l)) o;obtain⟨b,C,B,A,z⟩:=Of m N u r ys (x.offset+P.cellsOf x.type) p (by simpa using k) (λi f q=>by have:=h (i+1) f q;simpa using this);have e:cs.drop x.offset=(cs.drop x.offset).take (P.cellsOf x.type)++cs.drop (x.offset+P.cellsOf x.type):=by
    rw[<-apU];exact(ai7 _ _).symm
   refine⟨a++b,⟨y.1,ys.map (·.1),a,b,rfl,rfl,G,C⟩,?_,?_,?_⟩
   ·rw[e];exact F.append B
   ·rw[e];exact E.append A
   ·rw[e,aer,aer,D,z]
def Xl{e:TypeId}{R:DataW H->lA->Prop}{cs:List Value}
  (A: ∀ (c:List Value) d ps,(∀v∈c,v∈cs)->DataW.trod enc P w 0 sp held n e c=some (d,ps)-> ∃xs,R d xs/\aF (Gh.start w) xs c/\Leaves c/\xs.length=c.length)
  {ys:List (DataW H×List MemPlace)} (k:Nat) (z:k*P.cellsOf e<=cs.length) (F:k<=ys.length) (h: ∀i,i<k->DataW.trod enc P w 0 sp held n e ((cs.drop (i*P.cellsOf e)).take (P.cellsOf e))=ys[i]?):
  ∃af:List lA,af.length=k/\ (∀ (i:Nat) (x:DataW H×List MemPlace) (b:lA),ys[i]?=some x->af[i]?=some b->R x.1 b)/\aF (Gh.start w) af.flatten (cs.take (k*P.cellsOf e))/\Leaves (cs.take (k*P.cellsOf e))/\af.flatten.length=k*P.cellsOf e:=by
 induction k with
 |zero=>exact⟨[],rfl,λi x b _ a=>by grind,by simp[aF],λv l=>by grind,by simp⟩
 |succ m y=>
  rw[ap2]at z;obtain⟨af,p,E,D,C,B⟩:=y (by omega) (by omega) (λi o=>h i (by omega));have hm:=h m (aw2 m);have g:ys[m]?=some ys[m]:=aep (by omega);rw[g]at hm;obtain⟨xs,u,t,s,r⟩:=A _ ys[m].1 ys[m].2 (λv l=>aou (aiy l)) hm;have f:xs.length=P.cellsOf e:=by rw[r,afS,amy];omega
  have q:cs.take ((m+1)*P.cellsOf e)=cs.take (m*P.cellsOf e)++(cs.drop (m*P.cellsOf e)).take (P.cellsOf e):=by rw[ap2,List.take_add]
  refine⟨af++[xs],by simp[p],λi x b f a=>?_,by rw[q,anK];simpa using D.append t,by rw[q];exact C.append s,by rw[anK,aer,B,ap2];simp[f]⟩;by_cases o:i<af.length
  ·rw[adf o]at a;exact E i x b f a
  ·have j:=(adg.1 a).1;rw[aer,aqB]at j;have:i=m:=by omega
   subst this;rw[afJ (by omega),p,Nat.sub_self]at a;simp only[aqi,adT]at a;rw[g]at f;cases f;cases a;exact u
theorem HV{nest:Bool}(J:nest=true-> ∀b o v,w.cell? ⟨b,o,none⟩=some v->HU v): ∀ (f:Nat) (t:TypeId) (n:Nat) (cs:List Value) (d:DataW H) (ps:List MemPlace),Be P nest f t=true->(nest=true-> ∀v∈cs,HU v)->
  DataW.trod enc P w 0 sp held n t cs=some (d,ps)-> ∃xs,im P f t d xs/\aF (Gh.start w) xs cs/\Leaves cs/\xs.length=cs.length
 |0,_,_,_,_,_,r,_,_=>by trivial
 |f+1,t,n,cs,d,ps,r,C,h=>by
  unfold Be at r;unfold im;cases B:P.underlying t with
  |none=>grind
  |some td=>
   rw[B]at r;cases td with
   |bool=>
    obtain⟨b,rfl,l⟩:=DataW.trod_bool B h;cases l;exact⟨[.bool b],⟨b,rfl,rfl⟩,aF.single.2 rfl,λv g=>by simp at g;subst g;rfl,rfl⟩
   |int k=>
    obtain⟨b,rfl,l,T⟩:=DataW.trod_int B h;cases l;exact⟨[.int k b],⟨b,rfl,rfl,T⟩,aF.single.2 rfl,λv g=>by simp at g;subst g;rfl,rfl⟩
   |string=>
    obtain⟨s,rfl,l,F⟩:=DataW.trod_string B h;cases l;exact⟨[.str s],⟨s,rfl,rfl,F⟩,aF.single.2 rfl,λv g=>by simp at g;subst g;rfl,rfl⟩
   |slice e=>
    simp only[ag9]at r;obtain⟨D,r⟩:=r;rcases DataW.trod_slice B h with⟨rfl,l⟩| ⟨a,len,cap,es,rest,m,rfl,rfl,l,_,hlc,Wp,W,V,_,_⟩
    ·cases l;exact⟨[.aq],.inl ⟨rfl,rfl⟩,aF.single.2 rfl,λv g=>by simp at g;subst g;rfl,rfl⟩
    ·cases l;have F:a.spot=none:=C D _ (List.mem_singleton_self _);obtain⟨af,vs,Q,O,N,M,h5,h6⟩:=Xk (R:=im P f e) F (λc I p u q=>HV J f e m c I p r (λ_ v g=>by
      obtain⟨j,L⟩:=ava.1 g;obtain⟨o,ho⟩:=u j v L;exact J D _ _ _ ho) q) len (by omega) V
     refine⟨[.sl af false],.inr ⟨es.map (·.1),rest.map (·.1),af,rfl,rfl,by simp[W,Q],by omega,λi x b l Y=>?_⟩,aF.single.2 ?_,λv g=>by simp at g;subst g;rfl,rfl⟩
     ·rw[afU,afF]at l;obtain⟨y,S,rfl⟩:=l;exact O i y b S Y
     ·refine⟨a.block,a.off,cap,P.cellsOf e,vs,?_,by omega,(λu=>absurd u (by decide)),λel G=>?_,h6,M,br.iff.2 N⟩
      ·rw[Q];obtain⟨b,o,s⟩:=a;simp at F;subst F;rfl
      ·obtain⟨j,L⟩:=ava.1 G;have hjl:=(adg.1 L).1;exact(O j es[j] el (aep (by omega)) L).1
   |struct fs=>
    obtain⟨ys,m,rfl,l,K,A,z⟩:=DataW.trod_struct B h;cases l;obtain⟨xs,x1,x2,x3,x4⟩:=Of (R:=im P f) (cs:=cs) (λt' c I p hg u q=>HV J f t' m c I p hg (λD v g=>C D v (u v g)) q) _ K fs.toList ys 0 r (by simpa using A) (λi fl hi=>z i fl (by simpa using hi));exact⟨xs,⟨_,rfl,x1⟩,by simpa using x2,by simpa using x3,by simpa using x4⟩
   |array k e=>
    simp only[ag9,asa]at r;obtain⟨U,u⟩:=r;obtain⟨ys,m,rfl,l,K,A,z⟩:=DataW.trod_array B h;cases l;obtain⟨af,Q,O,N,M,h5⟩:=Xl (R:=im P f e) (cs:=cs) (λc I p X q=>HV J f e m c I p U (λD v g=>C D v (X v g)) q) k (by rw[K,u];exact afA _) (by omega) z;have E:k*P.cellsOf e=cs.length:=by rw[K,u]
    rw[E,afK]at N M;exact⟨af.flatten,⟨_,af,rfl,rfl,by simpa using A,Q,λi a b Z Y=>by
     rw[afU,afF]at Z;obtain⟨y,S,rfl⟩:=Z;exact O i y b S Y⟩,N,M,by rw[h5,E]⟩
   |_=>cases r
theorem Xm{W j:World}(g:laidOutB P=true)(i:Below W.heap.size W j): ∀ {ts:List TypeId} {vs:List Value} {e:List (DataW H)} {ps:List MemPlace},(ts.all λt=>P.readableRec t&&decide (t<P.types.size))=true->
  DataW.TrodAll enc P W 0 (λ_=>true) true ts vs e ps->(∀x∈ps,x.block<W.heap.size)->DataW.TrodAll enc P j 0 (λb=>decide (b<W.heap.size)) true ts vs e ps
 | [],[],[],_,_,h,_=>h
 |t::ts,v::vs,d::e,ps,c,h,f=>by
  simp only[axE,ag9,ai8]at c;obtain⟨p,q,l,k,rfl⟩:=h;exact⟨p,q,Below.trod g c.1.1 c.1.2 l i (λx a=>f x (List.mem_append_left _ a)),Xm g i (by grind) k (λx a=>f x (List.mem_append_right _ a)),rfl⟩
 | [],[],_::_,_,_,h,_=>h.elim
 | [],_::_,_,_,_,h,_=>h.elim
 |_::_,[],_,_,_,h,_=>h.elim
 |_::_,_::_,[],_,_,h,_=>h.elim
end
def aoY{P:Program}{X:Ctx}(n:fH X w.heap.size w)(r:pV P X)(s: ∀f p,X.bW f=some p->gJ P w.heap.size w f p){fn:Func}(j:P.funcs[f]?=some fn)(q:fn.body.isSome=true)
  (d: (fn.name== "runtime.NumGoroutine")=false) {args:lA} {a:Array Value} (m:aF (Gh.start w) args a.toList)  {l:AS} (h:D X (.fn (.func f) [] []) args ⟨[],none⟩=some (.ret v l)):
  Calls P f a w λe w'=> ∃G v',e= .returned v'/\an G v v'/\Below w.heap.size w w':=by
 have k:=Od n r s _ _ _ _ h (Gh.start w) w (.func (.func f) #[] #[]) a (.start w) ⟨_,_,_,rfl,rfl,rfl,rfl⟩ m;have b: (wU (.func (.func f) #[] #[]) a).run P w= .ok (.enter f a) w:=by
  have g: ¬fn.name= "runtime.NumGoroutine" :=by grind
  obtain⟨c,o⟩:=asB.1 q;simp[wU,Deferred.ofValue,invoke,callFunc,aqv,j,g,o]
 rw[b]at k;have i:CallsIn Fence.wide 0 P f a w (Ends P w.heap.size w (Gh.start w) {heap:=[],lo:=none} (.ret v l)):=k;refine callsIn_wide.1 (i.mono λe w' he=>?_);cases e with
 |returned v'=>
  obtain⟨x,y,u,t,_⟩:=he;exact⟨x,v',rfl,t,u.mh⟩
 |panicked _=>trivial
 |outgrown=>trivial
section
abbrev bQ:=Ex->Fr->AS->Prop
variable(X:Ctx)
def wp(f:FuncId)(rd:Bool)(c:PC)(fr:Fr)(E:AS)(Q:bQ):Prop:=
 ∃ex a b,bc X (D X) Lw f rd c fr E=some (ex,a,b)/\Q ex a b
def dI(os:List aR)(fr:Fr)(E:AS)(Q:bQ):Prop:=
 ∃ex a b,fj X (D X) os fr E=some (ex,a,b)/\Q ex a b
def gU(b:List FP)(os:List (aR×lN))(fr:Fr)(E:AS)(Q:bQ):Prop:=
 ∃ex a c,gH X (D X) b os fr E=some (ex,a,c)/\Q ex a c
def rk(K Kp:AV->AS->Prop):Option Out->Prop
 |some (.ok v E)=>K v E
 |some (.panic v E)=>Kp v E
 |none=>False
def aS(i:I)(e:Env)(E:AS)(K Kp:AV->AS->Prop):Prop:=rk K Kp (exec X (D X) i e E)
def DN(f:FuncId)(rd:Bool)(b:PC)(Q:bQ):bQ
 |.normal,fr,E=>wp X f rd b fr E Q
 |ex,fr,E=>Q ex fr E
def zf(id:Nat)(Q:bQ):bQ
 |.exit i,fr,E=>if i=id then Q .normal fr E else Q (.exit i) fr E
 |ex,fr,E=>Q ex fr E
def HW(K Kp:AV->AS->Prop):Option aU->Prop
 |some (.ret v E)=>K v E
 |some (.panic v E)=>Kp v E
 |none=>False
def dW(n:Nat)(lo:oN)(b:List RV)(R:aU->Prop):bQ
 |.normal,fr,E|.ret,fr,E=> ∃a v,dU E fr.marks=some a/\fQ X a fr.env b=some v/\R (.ret (finish n lo v a).1 (finish n lo v a).2)
 |.panic v,fr,E=> ∃a,dU E fr.marks=some a/\R (.panic (finish n lo v a).1 (finish n lo v a).2)
 |.exit _,_,_=>False
def HX(c:AV)(b:Bool)(A B:Prop):Prop:=
 match c with
 |.bool t=>(t=b->A)/\ (t=(!b)->B)
 |_=>False
variable{X}{f:FuncId}{rd:Bool}{fr:Fr}{E:AS}{Q:bQ}{e:Env}{ms:lN}{K Kp:AV->AS->Prop}
def aCv{a:Ex}{b:Fr}{c:AS}: (∃ex d g,(some (a,b,c):jA)=some (ex,d,g)/\Q ex d g)↔Q a b c:=
 by grind
def zg(c:AV)(b:Bool)(A B C:Prop):Prop:=
 match c with
 |.bool t=>(t=b->A)/\ (t=(!b)->B)
 |_=>C
def wp_skip:wp X f rd .skip fr E Q=Q .normal fr E:=propext (by simp only[wp,bc];grind)
def wp_exit{id:Nat}:wp X f rd (.exit id) fr E Q=Q (.exit id) fr E:=propext (by simp only[wp,bc];grind)
def wp_ret:wp X f rd .ret fr E Q=Q .ret fr E:=propext (by simp only[wp,bc];grind)
def wp_seq{a:PC}:wp X f rd (.seq a b) fr E Q=wp X f rd a fr E (DN X f rd b Q):=by
 apply propext;simp only[wp,bc];constructor
 ·rintro⟨ex,d,j,h,c⟩;split at h
  ·rename_i g i k;exact⟨_,_,_,k,ex,d,j,h,c⟩
  ·refine⟨_,_,_,h,?_⟩;cases ex with
   |normal=>grind
   |_=>exact c
 ·rintro⟨ex,d,j,h,c⟩;rw[h];cases ex with
  |normal=>exact c
  |exit _=>exact⟨_,_,_,rfl,c⟩
  |ret=>exact⟨_,_,_,rfl,c⟩
  |panic _=>exact⟨_,_,_,rfl,c⟩
def wp_block{id:Nat}:wp X f rd (.block id b) fr E Q=wp X f rd b fr E (zf id Q):=by
 apply propext;simp only[wp,bc];constructor
 ·rintro⟨ex,c,d,h,a⟩;split at h
  ·simp only[zf]
   grind
  ·refine⟨_,_,_,h,?_⟩;cases ex with
   |exit i=>grind
   |_=>exact a
 ·rintro⟨ex,c,d,h,a⟩;rw[h];cases ex with
  |normal=>exact⟨_,_,_,rfl,a⟩
  |exit i=>
   simp only[zf]at a
   grind
  |ret=>exact⟨_,_,_,rfl,a⟩
  |panic _=>exact⟨_,_,_,rfl,a⟩
def wp_cond{c:ao}{a:PC}:wp X f rd (.cond c a b) fr E Q=HX (c.get fr.env) true (wp X f rd a fr E Q) (wp X f rd b fr E Q):=by
 apply propext;simp only[wp,bc,HX];constructor
 ·grind
 ·intro h;cases d:c.get fr.env<;>rw[d]at h<;>simp only at h<;>try rfl
  rename_i t;cases t
  ·grind
  grind
theorem Og{os:List aR}:wp X f rd (.aO os) fr E Q=dI X os fr E Q:=by rfl
theorem aoZ{os:List (aR×lN)}:wp X f rd (.vo os) fr E Q=gU X [] (il E.heap.length os) fr (E.mZ (dL os)) Q:=by rfl
def wp_loop{S:Type}(I:S->Fr->AS->Prop)(μ:S->Nat)(s:S)(k:I s fr E)
  (j: ∀s fr E,I s fr E->wp X f rd b fr E (λex a c=>match ex with|.normal=> ∃d,μ d<μ s/\I d a c|ex=>Q ex a c)):wp X f rd (.loop b) fr E Q:=by
 have key: ∀n s fr E,μ s<n->I s fr E-> ∃ex a c,Lw (bc X (D X) Lw f rd b) fr E=some (ex,a,c)/\Q ex a c:=by
  intro n
  induction n with
  |zero=>simp
  |succ n l=>
   intro s fr E m i;obtain⟨ex,a,c,g,h⟩:=j s fr E i;rw[aoS,g]
   grind
 obtain⟨ex,a,c,g,h⟩:=key _ s fr E (aw2 _) k;exact⟨ex,a,c,by trivial,h⟩
def wp_mono{c:PC}{d:bQ}(h:wp X f rd c fr E Q)(i: ∀ex fr E,Q ex fr E->d ex fr E):wp X f rd c fr E d:=by
 obtain⟨ex,b,j,g,a⟩:=h;exact⟨ex,b,j,g,i _ _ _ a⟩
theorem Xn:DN X f rd b Q .normal fr E=wp X f rd b fr E Q:=rfl
theorem Xo:DN X f rd b Q (.exit i) fr E=Q (.exit i) fr E:=rfl
theorem Xp:DN X f rd b Q .ret fr E=Q .ret fr E:=rfl
theorem Xq:DN X f rd b Q (.panic v) fr E=Q (.panic v) fr E:=rfl
theorem Xr{id:Nat}:zf id Q .normal fr E=Q .normal fr E:=rfl
theorem Xs{id:Nat}:zf id Q (.exit i) fr E=if i=id then Q .normal fr E else Q (.exit i) fr E:=rfl
theorem Xt{id:Nat}:zf id Q .ret fr E=Q .ret fr E:=rfl
theorem Xu{id:Nat}:zf id Q (.panic v) fr E=Q (.panic v) fr E:=rfl
theorem zh{b:List RV}{R:aU->Prop}:dW X n lo b R .ret fr E= ∃a v,dU E fr.marks=some a/\fQ X a fr.env b=some v/\R (.ret (finish n lo v a).1 (finish n lo v a).2):=rfl
theorem HY{t b:Bool}{A B:Prop}:HX (.bool t) b A B=((t=b->A)/\ (t=(!b)->B)):=rfl
theorem Xv:HW K Kp (some (.ret v E))=K v E:=rfl
theorem Xw:HW K Kp (some (.panic v E))=Kp v E:=rfl
def Xx:dI X [] fr E Q=Q .normal fr E:=propext (by simp only[dI,fj];grind)
theorem Fr.Xy{d:Nat}:Fr.put ⟨e,ms⟩ (some d) v=⟨e.set d v,ms⟩:=rfl
theorem Fr.Xz:Fr.put ⟨e,ms⟩ none v=⟨e,ms⟩:=rfl
def Oh{i:I}{os:List aR}:dI X (⟨none,d,i⟩::os) fr E Q=aS X i fr.env E (λv a=>dI X os (fr.put d v) a Q) (λv a=>Q (.panic v) fr a):=by
 simp only[dI,aS,fj,gn,ag6];cases b:exec X (D X) i fr.env E with
 |none=>simp[rk]
 |some o=>
  cases o with
  |ok v a=>rfl
  |panic v a=>simp only[rk];grind
def Env.Oi{e:Env}:e.set t (e t)=e:=by
 unfold Env.set;grind
def XD{b:Bool}{i:I}{os:List aR}:dI X (⟨some (t,b),d,i⟩::os) ⟨e,ms⟩ E Q=
  zg (e t) b (aS X i (e.set t (.bool b)) E (λv l=>dI X os (Fr.put ⟨e.set t (.bool b),ms⟩ d v) l Q) (λv l=>Q (.panic v) ⟨e.set t (.bool b),ms⟩ l))
   (dI X os (Fr.put ⟨e.set t (.bool (!b)),ms⟩ d .undef) E Q) (dI X os (Fr.put ⟨e,ms⟩ d .undef) E Q):=by
 cases g:e t with
 |bool c=>
  have p:c=b->dI X (⟨some (t,b),d,i⟩::os) ⟨e,ms⟩ E Q=dI X (⟨none,d,i⟩::os) ⟨e,ms⟩ E Q:=by
   intro h;subst h;simp only[dI,fj,gn,g,beq_self_eq_true,ag6]
  have o:c=(!b)->dI X (⟨some (t,b),d,i⟩::os) ⟨e,ms⟩ E Q=dI X os (Fr.put ⟨e,ms⟩ d .undef) E Q:=by
   intro h;subst h;have: ((!b)==b)=false:=by simp
   simp only[dI,fj,gn,g,this,afE,ai5]
  have m:e.set t (.bool c)=e:=by rw[<-g];exact Env.Oi
  apply propext;simp only[zg];by_cases j:c=b
  ·have n: ¬c=(!b):=by subst j;cases c<;>simp
   rw[p j,Oh];subst j;rw[m];exact⟨λh=>⟨λ_=>h,λk=>absurd k n⟩,λh=>h.1 rfl⟩
  ·have a:c=(!b):=by cases c<;>cases b<;>simp_all
   rw[o a,<-a,m];exact⟨λh=>⟨λk=>absurd k j,λ_=>h⟩,λh=>h.2 rfl⟩
 |_=>simp only[dI,fj,gn,g,zg,afE,ai5]
theorem Oj{f:FuncId}{first cap args:lA}{H:List ae}{R:aU->Prop}(j:X.bW f=none)(l:X.code f=some pf)(n: (first++args++cap).length<=pf.ntmps)
  (h:wp X f false pf.body ⟨dq (first++args++cap),[]⟩ ⟨H,none⟩ (dW X H.length lo pf.results R)): ∃b,D X (.fn (.func f) first cap) args ⟨H,lo⟩=some b/\R b:=by
 obtain⟨ex,fr,E,m,g⟩:=h;have key: ∀b,leave X H.length lo pf (some (ex,fr,E))=some b->D X (.fn (.func f) first cap) args ⟨H,lo⟩=some b:=by
  intro b k;refine HT ?_;simp only[step,j,l]
  grind
 cases ex with
 |normal=>obtain⟨a,v,d,i,c⟩:=g;exact⟨_,key _ (by simp only[leave,qW,d,i]),c⟩
 |ret=>obtain⟨a,v,d,i,c⟩:=g;exact⟨_,key _ (by simp only[leave,qW,d,i]),c⟩
 |panic v=>obtain⟨a,d,c⟩:=g;exact⟨_,key _ (by simp only[leave,d]),c⟩
 |exit _=>trivial
theorem XE{f:FuncId}{first cap args:lA}{H:List ae}{a:aU}(b:X.bW f=none)(d:X.code f=some pf)(c: (first++args++cap).length<=pf.ntmps)
 (h:wp X f false pf.body ⟨dq (first++args++cap),[]⟩ ⟨H,none⟩ (dW X H.length lo pf.results (· =a))):D X (.fn (.func f) first cap) args ⟨H,lo⟩=some a:=by grind [Oj]
end
section
variable{X:Ctx}{f:FuncId}{rd:Bool}{fr:Fr}{E:AS}{Q:bQ}{e:Env}{ms:lN}{K Kp:AV->AS->Prop}
def db{α:Type}(r:Option α)(K:α->Prop):Prop:=
 match r with
 |some a=>K a
 |none=>False
def XF{g:ao}{as:List ao}:aS X (.call g as) e E K Kp=HW K Kp (D X (g.get e) (as.map (·.get e)) E):=by
 simp only[aS,exec];cases D X (g.get e) (as.map (·.get e)) E with
 |none=>rfl
 |some r=>cases r<;>rfl
def jD{r:Option AV}:rk K Kp (ga E r)=db r (λv=>K v E):=by cases r<;>rfl
def lu(c:BinOp)(x y:AV):Option AV:=match x,y with
 |.int k a,.int _ b=>wN c k a b
 |_,_=>none
theorem aCw:aS X (.mov x) e E K Kp=(K (x.get e) E):=by
 rfl
def ao0{c:ao}{a:ao}{b:ao}:aS X (.pick c a b) e E K Kp=(db (match c.get e with|.bool t=>some t|_=>none) λt=>K (if t then a.get e else b.get e) E):=by
 simp only[aS,exec];cases c.get e<;>rfl
theorem aCx:aS X (.alloc z tg) e E K Kp=(K (.ptr E.heap.length 0) (E.push (.box z tg))):=by
 rfl
def ao1:aS X (.box x tg) e E K Kp=(((x.get e).ck=false/\K (.ptr E.heap.length 0) (E.push (.box (x.get e).cells tg)))):=by
 simp only[aS,exec];cases h: (x.get e).ck<;>simp[rk]
def ao2{a:List (Nat×Nat×ao)}:aS X (.build z a) e E K Kp=(db (eK z (a.map λp=>(p.1,p.2.1,p.2.2.get e))) λcs=>K (.agg cs) E):=by
 simp only[aS,exec];cases eK z (a.map λp=>(p.1,p.2.1,p.2.2.get e))<;>rfl
def ao3{len:Nat}{a:List (Nat×Nat×ao)}:aS X (.bslice z len a) e E K Kp=(db (eK (List.replicate len z).flatten (a.map λp=>(p.1,p.2.1,p.2.2.get e))) λcs=>K (.sl (chunks z.length len cs) true) E):=by
 simp only[aS,exec];cases eK (List.replicate len z).flatten (a.map λp=>(p.1,p.2.1,p.2.2.get e))<;>rfl
def ao4{ty:TypeId}{len:Nat}{a:List (Nat×Nat×ao)}:aS X (.sv ty z len a) e E K Kp=(db (eK (List.replicate len z).flatten (a.map λp=>(p.1,p.2.1,p.2.2.get e))) λcs=>K (.ref E.heap.length 0 z.length 0 len false) (E.push (.row 0 z.length ty (chunks z.length len cs)))):=by
 simp only[aS,exec];cases eK (List.replicate len z).flatten (a.map λp=>(p.1,p.2.1,p.2.2.get e))<;>rfl
theorem ao5{agg:Bool}{a:ao}:aS X (.load agg n a) e E K Kp=(db (cm X E agg n (a.get e)) λv=>K v E):=by
 simp only[aS,exec,jD]
theorem ao6{a:ao}{v:ao}:aS X (.store n a v) e E K Kp=(db (km E n (a.get e) (v.get e)) λb=>K .undef b):=by
 simp only[aS,exec];cases km E n (a.get e) (v.get e)<;>rfl
theorem ao7:aS X (.nilck x) e E K Kp=(db (wR (x.get e)) λv=>K v E):=by
 simp only[aS,exec,jD]
theorem ao8{a:BinOp}:aS X (.bin a x y) e E K Kp=(db (dA a (x.get e) (y.get e)) λv=>K v E):=by
 simp only[aS,exec,jD]
theorem ao9{a:BinOp}:aS X (.shf a x y) e E K Kp=(db (lu a (x.get e) (y.get e)) λv=>K v E):=by
 simp only[aS,exec,lu];cases x.get e<;>first|rfl| (cases y.get e<;>first|rfl|exact jD)
def apa{k:EK}:aS X (.eq k x y) e E K Kp=(db (dy k (x.get e) (y.get e)) λb=>K (.bool b) E):=by
 simp only[aS,exec];cases dy k (x.get e) (y.get e)<;>rfl
def apb{k:EK}:aS X (.ne k x y) e E K Kp=(db (dy k (x.get e) (y.get e)) λb=>K (.bool !b) E):=by
 simp only[aS,exec];cases dy k (x.get e) (y.get e)<;>rfl
theorem apc{a:UnOp}:aS X (.un a x) e E K Kp=(db (yu a (x.get e)) λv=>K v E):=by
 simp only[aS,exec,jD]
def apd{k:IntKind}:aS X (.conv k x) e E K Kp=(db (sw (x.get e)) λn=>K (.int k (k.wrap n)) E):=by
 simp only[aS,exec];cases x.get e<;>rfl
def ape:aS X (.s2b x) e E K Kp=(db (match x.get e with|.str s=>if s.size<=room then some s else none|_=>none) λs=>K (.sl (sx s) false) E):=by
 simp only[aS,exec];cases x.get e<;>first|rfl| (simp only[];split<;>rfl)
theorem aCy{t:TypeId}:aS X (.mki t x) e E K Kp=(K (.dt t (x.get e)) E):=by
 rfl
theorem aCz{f:Fn}{first:List ao}{cap:List ao}:aS X (.mkf f first cap) e E K Kp=(K (.fn f (first.map (·.get e)) (cap.map (·.get e))) E):=by
 rfl
theorem aCA:aS X (.oy) e E K Kp=(K (.mp E.heap.length) (E.push (.map []))):=by
 rfl
theorem apf{lo:Option ao}{a:Option ao}:aS X (.slstr x lo a) e E K Kp=(db (vq (x.get e) (lo.map (·.get e)) (a.map (·.get e))) λv=>K v E):=by
 simp only[aS,exec,jD]
theorem apg{lo:Option ao}{b:Option ao}{a:Option ao}:aS X (.slsl n x lo b a) e E K Kp=(db (gE n (x.get e) (lo.map (·.get e)) (b.map (·.get e)) (a.map (·.get e))) λv=>K v E):=by
 simp only[aS,exec,jD]
theorem aph{lo:Option ao}{a:Option ao}:aS X (.slarr n sz x lo a) e E K Kp=(db (qT X n sz (x.get e) (lo.map (·.get e)) (a.map (·.get e))) λv=>K v E):=by
 simp only[aS,exec,jD]
theorem api:aS X (.faddr n x) e E K Kp=(db (wQ X n (x.get e)) λv=>K v E):=by
 simp only[aS,exec,jD]
def apj{agg:Bool}{off:Nat}:aS X (.fld agg n off x) e E K Kp=(db (match x.get e with|.agg cs=>part agg n cs off|_=>none) λv=>K v E):=by
 simp only[aS,exec];cases x.get e<;>first|rfl|exact jD
theorem apk{i:ao}:aS X (.iaddra n sz x i) e E K Kp=(db (vt X n sz (x.get e) (i.get e)) λv=>K v E):=by
 simp only[aS,exec,jD]
theorem apl{i:ao}:aS X (.iaddrs sz x i) e E K Kp=(db (kn sz (x.get e) (i.get e)) λv=>K v E):=by
 simp only[aS,exec,jD]
theorem apm{agg:Bool}{i:ao}:aS X (.idxa agg n sz x i) e E K Kp=(db (qV agg n sz (x.get e) (i.get e)) λv=>K v E):=by
 simp only[aS,exec,jD]
theorem apn{i:ao}:aS X (.idxs x i) e E K Kp=(db (yv (x.get e) (i.get e)) λv=>K v E):=by
 simp only[aS,exec,jD]
theorem apo{b:EK}{z:AV}{m:ao}{k:ao}{a:Bool}:aS X (.lookup b z m k a) e E K Kp=(db (jz X.fZ E b z (m.get e) (k.get e) a) λv=>K v E):=by
 simp only[aS,exec,jD]
theorem apq{a:EK}{m:ao}{k:ao}{v:ao}:aS X (.pN a m k v) e E K Kp=(db (mY E a (m.get e) (k.get e) (v.get e)) λb=>K .undef b):=by
 simp only[aS,exec];cases mY E a (m.get e) (k.get e) (v.get e)<;>rfl
theorem apr{z:AV}{t:TypeId}{a:Bool}:aS X (.ta z x t a) e E K Kp=(db (AM z (x.get e) t a) λv=>K v E):=by
 simp only[aS,exec,jD]
def aps:aS X (.ext x i) e E K Kp=(db (match x.get e with|.aw vs=>vs[i]?|_=>none) λv=>K v E):=by
 simp only[aS,exec];cases x.get e<;>first|rfl|exact jD
theorem apt{k:EK}:aS X (.len k x) e E K Kp=(db (gl E k (x.get e)) λv=>K v E):=by
 simp only[aS,exec,jD]
def apu{ty:TypeId}{bytes:Nat}{s:ao}:aS X (.append ty sz bytes s x) e E K Kp=(db (elems E sz (x.get e)) λys=>db (dJ E ty sz bytes (s.get e) ys) λp=>K p.1 p.2):=by
 simp only[aS,exec];cases elems E sz (x.get e)with
 |none=>rfl
 |some ys=>simp only[db];cases dJ E ty sz bytes (s.get e) ys<;>rfl
theorem apv{d:ao}{s:ao}:aS X (.copy sz d s) e E K Kp=(db (sy E sz (d.get e) (s.get e)) λp=>K p.1 p.2):=by
 simp only[aS,exec];cases sy E sz (d.get e) (s.get e)<;>rfl
theorem apw:aS X (.clear z x) e E K Kp=(db (sA E z (x.get e)) λa=>K .undef a):=by
 simp only[aS,exec];cases sA E z (x.get e)<;>rfl
theorem apx{xs:List ao}:aS X (.max xs) e E K Kp=(db (gF qU (xs.map (·.get e))) λv=>K v E):=by
 simp only[aS,exec,jD]
theorem apy{xs:List ao}:aS X (.min xs) e E K Kp=(db (gF wP (xs.map (·.get e))) λv=>K v E):=by
 simp only[aS,exec,jD]
def apz:aS X (.panic x) e E K Kp=(db (match x.get e with|.dt t v=>some (AV.dt t v)|_=>none) λv=>Kp v E):=by
 simp only[aS,exec];cases x.get e<;>rfl
def HZ(b:Bool)(v:AV)(e:Env)(t:Nat):AV:=match b with|true=>v|false=>e t
theorem XG:HZ true v e t=v:=rfl
theorem XH:HZ false v e t=e t:=rfl
def XI{d:Nat}: (e.set d v) t=HZ (d==t) v e t:=by
 unfold Env.set HZ
 grind
theorem H4{t b:Bool}{A B C:Prop}:zg (.bool t) b A B C=((t=b->A)/\ (t=(!b)->B)):=rfl
theorem push_mk{H:List ae}{o:ae}:AS.push ⟨H,lo⟩ o=⟨H++[o],lo⟩:=rfl
theorem set_mk{H:List ae}{id:Nat}{o:ae}:AS.set ⟨H,lo⟩ id o r=⟨H.set id o,if r<=id+1 then lo else cJ lo id⟩:=rfl
end
section
variable{H L:List ae}{n k:Nat}
def dB(h:H.length=n): (H++L)[n]?=L[0]?:=by grind
def bE(h:H.length=n): (H++L)[n+k]?=L[k]?:=by grind
theorem DO{o:ae}(h:H.length=n): (H++L).set n o=H++L.set 0 o:=by grind
theorem nD{o:ae}(h:H.length=n): (H++L).set (n+k) o=H++L.set k o:=by grind
def m5(h:H.length=n): (H++L).take n=H:=by grind
end
def H5{v':AV}{H:List ae}(a: (match aj with|none=>true|some j=>decide (n<=j))=true)(b:freeze ⟨H,aj⟩ n 12 v=some v'):finish n lo v ⟨H,aj⟩=(v',⟨H.take n,lo⟩):=by
 cases aj with
 |none=>simp[finish,b]
 |some j=>simp[finish,a,b]
def zi{E:AS}(h:v.refs<=n):freeze E n (k+1) v=some v:=by
 unfold freeze;grind
def XJ{H:List ae}(a: (match aj with|none=>true|some j=>decide (n<=j))=true)(b:v.refs<=n):finish n lo v ⟨H,aj⟩=(v,⟨H.take n,lo⟩):=
 H5 a (zi b)
def wrap_i64{n:Int}(h: -9223372036854775808<=n)(a:n<=9223372036854775807):IntKind.wrap .i64 n=n:=by
 unfold IntKind.wrap IntKind.bits IntKind.signed;grind
def wrap_u64{n:Int}(h:0<=n)(a:n<=18446744073709551615):IntKind.wrap .u64 n=n:=by
 unfold IntKind.wrap IntKind.bits IntKind.signed;grind
def wrap_u32{n:Int}(h:0<=n)(a:n<=4294967295):IntKind.wrap .u32 n=n:=by
 unfold IntKind.wrap IntKind.bits IntKind.signed;grind
def wrap_i32{n:Int}(h: -2147483648<=n)(a:n<=2147483647):IntKind.wrap .i32 n=n:=by
 unfold IntKind.wrap IntKind.bits IntKind.signed;grind
def wrap_u16{n:Int}(h:0<=n)(a:n<=65535):IntKind.wrap .u16 n=n:=by
 unfold IntKind.wrap IntKind.bits IntKind.signed;grind
def wrap_u8{n:Int}(h:0<=n)(a:n<=255):IntKind.wrap .u8 n=n:=by
 unfold IntKind.wrap IntKind.bits IntKind.signed;grind
def S(l:lB):AV:=.str ⟨l.toArray⟩
theorem apA(l:lB): (⟨l.toArray⟩:ByteArray).size=l.length:=by rfl
def o(d:Nat)(i:I):aR:=⟨none,some d,i⟩
def u(i:I):aR:=⟨none,none,i⟩
def gt(t:Nat)(d:oN)(i:I):aR:=⟨some (t,true),d,i⟩
def gf(t:Nat)(d:oN)(i:I):aR:=⟨some (t,false),d,i⟩
def ci(n:Int):ao:=.c (.int .i64 n)
def cf(f:Nat):ao:=.c (.fn (.func f) [] [])
def mm(P:Program)(f:Nat)(pf:PF):Prop:= ∃rows fn,P.funcs[f]?=some fn/\Dc P rows fn=some pf
section
variable{X:Ctx}{f:FuncId}{rd:Bool}{fr:Fr}{E:AS}{Q:bQ}{e:Env}{ms:lN}{K Kp:AV->AS->Prop}
def apB{i:I}{os:List aR}:dI X (gt t d i::os) ⟨e,ms⟩ E Q=
 zg (e t) true (aS X i (e.set t (.bool true)) E (λv a=>dI X os (Fr.put ⟨e.set t (.bool true),ms⟩ d v) a Q) (λv a=>Q (.panic v) ⟨e.set t (.bool true),ms⟩ a))
  (dI X os (Fr.put ⟨e.set t (.bool false),ms⟩ d .undef) E Q) (dI X os (Fr.put ⟨e,ms⟩ d .undef) E Q):=XD
def apC{i:I}{os:List aR}:dI X (gf t d i::os) ⟨e,ms⟩ E Q=
 zg (e t) false (aS X i (e.set t (.bool false)) E (λv a=>dI X os (Fr.put ⟨e.set t (.bool false),ms⟩ d v) a Q) (λv a=>Q (.panic v) ⟨e.set t (.bool false),ms⟩ a))
  (dI X os (Fr.put ⟨e.set t (.bool true),ms⟩ d .undef) E Q) (dI X os (Fr.put ⟨e,ms⟩ d .undef) E Q):=XD
end
theorem XK:ao.get e (.t i)=e i:=rfl
theorem XL:ao.get e (.c v)=v:=rfl
theorem XM{n:Int}:ao.get e (ci n)= .int .i64 n:=rfl
theorem XN{f:Nat}:ao.get e (cf f)= .fn (.func f) [] []:=rfl
def Ol{X:Ctx}(pf:PF){args:lA}{H:List ae}{a:aU}(b:X.bW f=none)(g:X.code f=some pf)(c:Nat.ble args.length pf.ntmps=true)
 (h: ∀n,H.length=n->wp X f false pf.body ⟨dq args,[]⟩ ⟨H,none⟩ (dW X n lo pf.results (· =a))):D X (.fn (.func f) [] []) args ⟨H,lo⟩=some a:=by grind [Nat.le_of_ble_eq_true,XE]
def apD{X:Ctx}(pf:PF){args:lA}{H:List ae}{R:aU->Prop}(b:X.bW f=none)(g:X.code f=some pf)(c:Nat.ble args.length pf.ntmps=true)
 (h: ∀n,H.length=n->wp X f false pf.body ⟨dq args,[]⟩ ⟨H,none⟩ (dW X n lo pf.results R)): ∃a,D X (.fn (.func f) [] []) args ⟨H,lo⟩=some a/\R a:=by simp_all[ap6,Oj]
theorem XO{X:Ctx}{E:AS}:fQ X E e [.t t]=some (e t):=rfl
theorem apE{X:Ctx}{E:AS}{u:Nat}:fQ X E e [.t t,.t u]=some (.aw [e t,e u]):=rfl
theorem apF{X:Ctx}{E:AS}{u v:Nat}:fQ X E e [.t t,.t u,.t v]=some (.aw [e t,e u,e v]):=rfl
theorem zj{E:AS}:dU E []=some E:=rfl
def DP(x:AV)(i:Nat):Option AV:=match x with|.aw vs=>vs[i]?|_=>none
def XP(agg:Bool)(n off:Nat)(x:AV):Option AV:=match x with|.agg cs=>part agg n cs off|_=>none
def oH(E:AS)(x:AV)(tg:Option TypeId):Option (AV×AS):=if x.ck=false then some (.ptr E.heap.length 0,E.push (.box x.cells tg))else none
def Om(z:lA)(a:List (Nat×Nat×AV)):Option AV:=(eK z a).map .agg
def On(z:lA)(len:Nat)(a:List (Nat×Nat×AV)):Option AV:=(eK (List.replicate len z).flatten a).map λcs=>.sl (chunks z.length len cs) true
def Oo(E:AS)(ty:TypeId)(z:lA)(len:Nat)(a:List (Nat×Nat×AV)):Option (AV×AS):=
 (eK (List.replicate len z).flatten a).map λcs=>(.ref E.heap.length 0 z.length 0 len false,E.push (.row 0 z.length ty (chunks z.length len cs)))
def XQ(x:AV):Option AV:=match x with|.dt t v=>some (.dt t v)|_=>none
def H6(x:AV):Option AV:=match x with|.str s=>if s.size<=room then some (.sl (sx s) false)else none|_=>none
section
variable(X:Ctx)
def kV(os:List aR)(d:Nat)(e:Env)(ms:lN)(Q:bQ):AV->AS->Prop:=λv E=>dI X os ⟨e.set d v,ms⟩ E Q
def kU(os:List aR)(e:Env)(ms:lN)(Q:bQ):AV->AS->Prop:=λ_ E=>dI X os ⟨e,ms⟩ E Q
def kP(e:Env)(ms:lN)(Q:bQ):AV->AS->Prop:=λv E=>Q (.panic v) ⟨e,ms⟩ E
def okV(r:Option AV)(K:AV->AS->Prop)(E:AS):Prop:=match r with|some v=>K v E|none=>False
def w4(r:Option AS)(K:AV->AS->Prop):Prop:=match r with|some E=>K .undef E|none=>False
def vG(r:Option (AV×AS))(K:AV->AS->Prop):Prop:=match r with|some p=>K p.1 p.2|none=>False
def okB(r:Option Bool)(a:Bool)(K:AV->AS->Prop)(E:AS):Prop:=match r with|some b=>K (.bool (if a then !b else b)) E|none=>False
def XR(k:IntKind)(x:AV)(K:AV->AS->Prop)(E:AS):Prop:=match x with|.int _ n=>K (.int k (k.wrap n)) E|_=>False
def Oq(c a b:AV)(K:AV->AS->Prop)(E:AS):Prop:=match c with|.bool t=>K (if t then a else b) E|_=>False
def XS(r:Option (List lA))(ty:TypeId)(sz bytes:Nat)(s:AV)(K:AV->AS->Prop)(E:AS):Prop:=match r with|some ys=>vG (dJ E ty sz bytes s ys) K|none=>False
def oI(f:FuncId)(rd:Bool)(a b:PC)(fr:Fr)(E:AS)(Q:bQ)(c:AV):Prop:=HX c true (wp X f rd a fr E Q) (wp X f rd b fr E Q)
def gK(t:Nat)(b:Bool)(d:oN)(i:I)(os:List aR)(e:Env)(ms:lN)(E:AS)(Q:bQ)(c:AV):Prop:=
 zg c b (aS X i (e.set t (.bool b)) E (match d with|some d=>kV X os d (e.set t (.bool b)) ms Q|none=>kU X os (e.set t (.bool b)) ms Q) (kP (e.set t (.bool b)) ms Q))
  (dI X os (Fr.put ⟨e.set t (.bool (!b)),ms⟩ d .undef) E Q) (dI X os (Fr.put ⟨e,ms⟩ d .undef) E Q)
end
section
variable{X:Ctx}{f:FuncId}{rd:Bool}{fr:Fr}{E:AS}{Q:bQ}{e:Env}{ms:lN}{K Kp:AV->AS->Prop}{t:Nat}{d:oN}{i:I}{os:List aR}{dd:Nat}
theorem jE{r:Option AV}:db r (λv=>K v E)=okV r K E:=by cases r<;>rfl
theorem Ot{r:Option AS}:db r (λa=>K .undef a)=w4 r K:=by cases r<;>rfl
theorem XT{r:Option (AV×AS)}:db r (λp=>K p.1 p.2)=vG r K:=by cases r<;>rfl
def XU:dI X (o dd i::os) ⟨e,ms⟩ E Q=aS X i e E (kV X os dd e ms Q) (kP e ms Q):=Oh
def XV:dI X (u i::os) ⟨e,ms⟩ E Q=aS X i e E (kU X os e ms Q) (kP e ms Q):=Oh
def Ou:dI X (gt t d i::os) ⟨e,ms⟩ E Q=gK X t true d i os e ms E Q (e t):=by
 rw[apB];cases d<;>rfl
def Ov:dI X (gf t d i::os) ⟨e,ms⟩ E Q=gK X t false d i os e ms E Q (e t):=by
 rw[apC];cases d<;>rfl
theorem XW:kV X os dd e ms Q v E=dI X os ⟨e.set dd v,ms⟩ E Q:=rfl
theorem XX:kU X os e ms Q v E=dI X os ⟨e,ms⟩ E Q:=rfl
theorem XY:kP e ms Q v E=Q (.panic v) ⟨e,ms⟩ E:=rfl
theorem XZ:okV (some v) K E=K v E:=rfl
def X7{c:Prop}[Decidable c]{v:Option AV}:okV (if c then v else none) K E=(c/\okV v K E):=by split<;>simp[*,okV]
theorem X8:w4 (some E) K=K .undef E:=rfl
def X9{c:Prop}[Decidable c]{v:Option AS}:w4 (if c then v else none) K=(c/\w4 v K):=by split<;>simp[*,w4]
theorem Ya:vG (some (v,E)) K=K v E:=rfl
theorem Yb{b:Bool}:okB (some b) false K E=K (.bool b) E:=rfl
theorem Yc{b:Bool}:okB (some b) true K E=K (.bool (!b)) E:=rfl
theorem Yd{k:IntKind}{n:Int}:XR k (.int k' n) K E=K (.int k (k.wrap n)) E:=rfl
theorem Ye{a b:AV}:Oq (.bool true) a b K E=K a E:=rfl
theorem Yf{a b:AV}:Oq (.bool false) a b K E=K b E:=rfl
theorem Yg{ys:List lA}{ty:TypeId}{bytes:Nat}{s:AV}:XS (some ys) ty sz bytes s K E=vG (dJ E ty sz bytes s ys) K:=rfl
def Ox{c:ao}{a:PC}:wp X f rd (.cond c a b) fr E Q=oI X f rd a b fr E Q (c.get fr.env):=wp_cond
def Yh{a:PC}:oI X f rd a b fr E Q (.bool true)=wp X f rd a fr E Q:=by simp[oI,HY]
def Yi{a:PC}:oI X f rd a b fr E Q (.bool false)=wp X f rd b fr E Q:=by simp[oI,HY]
def bX{a:PC}{p:Prop}[Decidable p]:oI X f rd a b fr E Q (.bool (decide p))=((p->wp X f rd a fr E Q)/\ (¬p->wp X f rd b fr E Q)):=by simp[oI,HY]
def Yj{a:PC}:oI X f rd a b fr E Q (.bool (!c))=oI X f rd b a fr E Q (.bool c):=by cases c<;>simp[oI,HY]
theorem Yk{b:Bool}{c:lA}:gK X t b (some dd) i os e ms E Q (.aw c)=dI X os ⟨e.set dd .undef,ms⟩ E Q:=rfl
theorem Yl{b:Bool}{c:lA}:gK X t b none i os e ms E Q (.aw c)=dI X os ⟨e,ms⟩ E Q:=rfl
def Ym:gK X t true (some dd) i os e ms E Q (.bool true)=aS X i (e.set t (.bool true)) E (kV X os dd (e.set t (.bool true)) ms Q) (kP (e.set t (.bool true)) ms Q):=by simp[gK,H4]
def Yn:gK X t false (some dd) i os e ms E Q (.bool false)=aS X i (e.set t (.bool false)) E (kV X os dd (e.set t (.bool false)) ms Q) (kP (e.set t (.bool false)) ms Q):=by simp[gK,H4]
def Yo:gK X t true d i os e ms E Q (.bool false)=dI X os (Fr.put ⟨e.set t (.bool false),ms⟩ d .undef) E Q:=by simp[gK,H4]
def Yp:gK X t false d i os e ms E Q (.bool true)=dI X os (Fr.put ⟨e.set t (.bool true),ms⟩ d .undef) E Q:=by simp[gK,H4]
def Yq{b:Bool}{p:Prop}[Decidable p]:gK X t b d i os e ms E Q (.bool (decide p))=((p->gK X t b d i os e ms E Q (.bool true))/\ (¬p->gK X t b d i os e ms E Q (.bool false))):=by
 by_cases h:p<;>simp[h]
theorem Yr:aS X (.mov x) e E K Kp=(K (x.get e) E):=by rfl
def Ys{c:ao}{a:ao}{b:ao}:aS X (.pick c a b) e E K Kp=(Oq (c.get e) (a.get e) (b.get e) K E):=by
 first|rfl|rfl|rfl|rfl| (rw[ao0];cases c.get e<;>rfl)
theorem Yt:aS X (.alloc z tg) e E K Kp=(K (.ptr E.heap.length 0) (E.push (.box z tg))):=by rfl
def Yu{agg:Bool}{a:ao}:aS X (.load agg n a) e E K Kp=(okV (cm X E agg n (a.get e)) K E):=by grind [ao5,jE]
def Yv{a:ao}{v:ao}:aS X (.store n a v) e E K Kp=(w4 (km E n (a.get e) (v.get e)) K):=by grind [ao6,Ot]
def Yw:aS X (.nilck x) e E K Kp=(okV (wR (x.get e)) K E):=by grind [ao7,jE]
def Yx{a:BinOp}:aS X (.bin a x y) e E K Kp=(okV (dA a (x.get e) (y.get e)) K E):=by grind [ao8,jE]
def Yy{a:BinOp}:aS X (.shf a x y) e E K Kp=(okV (lu a (x.get e) (y.get e)) K E):=by grind [ao9,jE]
def Yz{k:EK}:aS X (.eq k x y) e E K Kp=(okB (dy k (x.get e) (y.get e)) false K E):=by
 first|rfl|rfl|rfl|rfl| (rw[apa];cases dy k (x.get e) (y.get e)<;>rfl)
def YA{k:EK}:aS X (.ne k x y) e E K Kp=(okB (dy k (x.get e) (y.get e)) true K E):=by
 first|rfl|rfl|rfl|rfl| (rw[apb];cases dy k (x.get e) (y.get e)<;>rfl)
def YB{a:UnOp}:aS X (.un a x) e E K Kp=(okV (yu a (x.get e)) K E):=by grind [apc,jE]
def YC{k:IntKind}:aS X (.conv k x) e E K Kp=(XR k (x.get e) K E):=by
 first|rfl|rfl|rfl|rfl| (rw[apd];cases x.get e<;>rfl)
theorem YD{t:TypeId}:aS X (.mki t x) e E K Kp=(K (.dt t (x.get e)) E):=by rfl
theorem YE{f:Fn}{first:List ao}{cap:List ao}:aS X (.mkf f first cap) e E K Kp=(K (.fn f (first.map (ao.get e)) (cap.map (ao.get e))) E):=by rfl
theorem YF:aS X (.oy) e E K Kp=(K (.mp E.heap.length) (E.push (.map []))):=by rfl
def YG{lo:Option ao}{a:Option ao}:aS X (.slstr x lo a) e E K Kp=(okV (vq (x.get e) (lo.map (ao.get e)) (a.map (ao.get e))) K E):=by grind [apf,jE]
def YH{lo:Option ao}{b:Option ao}{a:Option ao}:aS X (.slsl n x lo b a) e E K Kp=(okV (gE n (x.get e) (lo.map (ao.get e)) (b.map (ao.get e)) (a.map (ao.get e))) K E):=by grind [apg,jE]
def YI{lo:Option ao}{a:Option ao}:aS X (.slarr n sz x lo a) e E K Kp=(okV (qT X n sz (x.get e) (lo.map (ao.get e)) (a.map (ao.get e))) K E):=by grind [aph,jE]
def YJ:aS X (.faddr n x) e E K Kp=(okV (wQ X n (x.get e)) K E):=by grind [api,jE]
def YK{i:ao}:aS X (.iaddra n sz x i) e E K Kp=(okV (vt X n sz (x.get e) (i.get e)) K E):=by grind [apk,jE]
def YL{i:ao}:aS X (.iaddrs sz x i) e E K Kp=(okV (kn sz (x.get e) (i.get e)) K E):=by grind [apl,jE]
def YM{agg:Bool}{i:ao}:aS X (.idxa agg n sz x i) e E K Kp=(okV (qV agg n sz (x.get e) (i.get e)) K E):=by grind [apm,jE]
def YN{i:ao}:aS X (.idxs x i) e E K Kp=(okV (yv (x.get e) (i.get e)) K E):=by grind [apn,jE]
def YO{b:EK}{z:AV}{m:ao}{k:ao}{a:Bool}:aS X (.lookup b z m k a) e E K Kp=(okV (jz X.fZ E b z (m.get e) (k.get e) a) K E):=by grind [apo,jE]
def YP{a:EK}{m:ao}{k:ao}{v:ao}:aS X (.pN a m k v) e E K Kp=(w4 (mY E a (m.get e) (k.get e) (v.get e)) K):=by grind [apq,Ot]
def YQ{z:AV}{t:TypeId}{a:Bool}:aS X (.ta z x t a) e E K Kp=(okV (AM z (x.get e) t a) K E):=by grind [apr,jE]
def YR{k:EK}:aS X (.len k x) e E K Kp=(okV (gl E k (x.get e)) K E):=by grind [apt,jE]
def YS{ty:TypeId}{bytes:Nat}{s:ao}:aS X (.append ty sz bytes s x) e E K Kp=(XS (elems E sz (x.get e)) ty sz bytes (s.get e) K E):=by
 first|rfl|rfl|rfl|rfl| (rw[apu];cases elems E sz (x.get e)<;>first|rfl|exact XT)
def YT{d:ao}{s:ao}:aS X (.copy sz d s) e E K Kp=(vG (sy E sz (d.get e) (s.get e)) K):=by grind [apv,XT]
def YU:aS X (.clear z x) e E K Kp=(w4 (sA E z (x.get e)) K):=by grind [apw,Ot]
def YW{xs:List ao}:aS X (.max xs) e E K Kp=(okV (gF qU (xs.map (ao.get e))) K E):=by grind [apx,jE]
def YX{xs:List ao}:aS X (.min xs) e E K Kp=(okV (gF wP (xs.map (ao.get e))) K E):=by grind [apy,jE]
def YY{i:Nat}:aS X (.ext x i) e E K Kp=(okV (DP (x.get e) i) K E):=by
 first|rfl| (rw[aps];exact jE)|rfl|rfl|rfl
def YZ{agg:Bool}{off:Nat}:aS X (.fld agg n off x) e E K Kp=(okV (XP agg n off (x.get e)) K E):=by
 first|rfl| (rw[apj];exact jE)|rfl|rfl|rfl
def Y0:aS X (.box x tg) e E K Kp=(vG (oH E (x.get e) tg) K):=by
 first|rfl|rfl|rfl|rfl| (rw[ao1];unfold oH;cases h: (x.get e).ck<;>simp[vG])
def Y1{a:List (Nat×Nat×ao)}:aS X (.build z a) e E K Kp=(okV (Om z (a.map λp=>(p.1,p.2.1,p.2.2.get e))) K E):=by
 first|rfl|rfl|rfl|rfl| (rw[ao2];unfold Om;cases eK z (a.map λp=>(p.1,p.2.1,p.2.2.get e))<;>rfl)
def Y2{len:Nat}{a:List (Nat×Nat×ao)}:aS X (.bslice z len a) e E K Kp=(okV (On z len (a.map λp=>(p.1,p.2.1,p.2.2.get e))) K E):=by
 first|rfl|rfl|rfl|rfl| (rw[ao3];unfold On;cases eK (List.replicate len z).flatten (a.map λp=>(p.1,p.2.1,p.2.2.get e))<;>rfl)
def Y3{ty:TypeId}{len:Nat}{a:List (Nat×Nat×ao)}:aS X (.sv ty z len a) e E K Kp=(vG (Oo E ty z len (a.map λp=>(p.1,p.2.1,p.2.2.get e))) K):=by
 first|rfl|rfl|rfl|rfl| (rw[ao4];unfold Oo;cases eK (List.replicate len z).flatten (a.map λp=>(p.1,p.2.1,p.2.2.get e))<;>rfl)
def Y4:aS X (.panic x) e E K Kp=(okV (XQ (x.get e)) Kp E):=by
 first|rfl|rfl|rfl|rfl| (rw[apz];cases x.get e<;>rfl)
def Y5:aS X (.s2b x) e E K Kp=(okV (H6 (x.get e)) K E):=by
 first|rfl|rfl|rfl|rfl| (rw[ape];cases x.get e<;>first|rfl| (rename_i q;simp only[H6];by_cases a:q.size<=room<;>simp only[a,ag6,ai5]<;>rfl))
end
def R1:=gG @wp_skip<|gG @wp_exit<|gG @wp_ret<|gG @wp_seq<|gG @wp_block<|gG @Ox<|gG @Og<|gG @Xn<|gG @Xo<|gG @Xp<|gG @Xq<|gG @Xr<|gG @Xs<|gG @Xt<|gG @Xu<|gG @Xx<|gG @XU<|gG @XV<|gG @Ou<|gG @Ov<|gG @XW<|gG @XX<|gG @XY<|gG @XF<|gG @Yr<|gG @Ys<|gG @Yt<|gG @Yu<|gG @Yv<|gG @Yw<|gG @Yx<|gG @Yy<|gG @Yz<|gG @YA<|gG @YB<|gG @YC<|gG @YD<|gG @YE<|gG @YF<|gG @YG<|gG @YH<|gG @YI<|gG @YJ<|gG @YK<|gG @YL<|gG @YM<|gG @YN<|gG @YO<|gG @YP<|gG @YQ<|gG @YR<|gG @YS<|gG @YT<|gG @YU<|gG @YW<|gG @YX<|gG @YY<|gG @YZ<|gG @Y0<|gG @Y1<|gG @Y2<|gG @Y3<|gG @Y4 @Y5
def R2:=gG @Xv<|gG @Xw<|gG @XZ<|gG @X7<|gG @X8<|gG @X9<|gG @Ya<|gG @Yb<|gG @Yc<|gG @Yd<|gG @Ye<|gG @Yf<|gG @Yg<|gG @Yh<|gG @Yi<|gG @Yj<|gG @Yk<|gG @Yl<|gG @Ym<|gG @Yn<|gG @Yo<|gG @Yp<|gG @Fr.Xy<|gG @Fr.Xz<|gG @XK<|gG @XL<|gG @XM<|gG @XN<|gG @push_mk @set_mk
def R4:=gG @Yq @bX
section
variable{X:Ctx}{f:FuncId}{rd:Bool}{E:AS}{Q:bQ}{e:Env}{ms:lN}{K Kp:AV->AS->Prop}{k:IntKind}{a b c:Int}{l m:lB}{n:Nat}{lo:oN}{H L:List ae}{R:aU->Prop}
def Y6:dA .add (.int k a) (.int k b)=some (.int k (k.wrap (a+b))):=by simp[dA,mX]
def Y7:dA .sub (.int k a) (.int k b)=some (.int k (k.wrap (a-b))):=by simp[dA,mX]
def Y8:dA .mul (.int k a) (.int k b)=some (.int k (k.wrap (a*b))):=by simp[dA,mX]
def Y9:dA .quo (.int k a) (.int k b)=if b≠0 then some (.int k (k.wrap (a.tdiv b)))else none:=by
 by_cases h:b=0<;>simp[dA,mX,h]
def Za:dA .rem (.int k a) (.int k b)=if b≠0 then some (.int k (a.tmod b))else none:=by
 by_cases h:b=0<;>simp[dA,mX,h]
def Zb:dA .lss (.int k a) (.int k b)=some (.bool (decide (a<b))):=by simp[dA,mX]
def Zc:dA .leq (.int k a) (.int k b)=some (.bool (decide (a<=b))):=by simp[dA,mX]
def Zd:dA .gtr (.int k a) (.int k b)=some (.bool (decide (b<a))):=by simp[dA,mX]
def Ze:dA .geq (.int k a) (.int k b)=some (.bool (decide (b<=a))):=by simp[dA,mX]
def DQ:dA .and (.int k a) (.int k b)=some (.int k (k.wrap (BitVec.ofInt k.bits a&&&BitVec.ofInt k.bits b).toNat)):=by simp[dA,mX,wL]
def H7:dA .or (.int k a) (.int k b)=some (.int k (k.wrap (BitVec.ofInt k.bits a|||BitVec.ofInt k.bits b).toNat)):=by simp[dA,mX,wL]
def Oy:dA .xor (.int k a) (.int k b)=some (.int k (k.wrap (BitVec.ofInt k.bits a^^^BitVec.ofInt k.bits b).toNat)):=by simp[dA,mX,wL]
def Oz:dA .andNot (.int k a) (.int k b)=some (.int k (k.wrap (BitVec.ofInt k.bits a&&& ~~~ (BitVec.ofInt k.bits b)).toNat)):=by simp[dA,mX,wL]
def Bf:lu .shl (.int k a) (.int k' b)=if 0<=b then some (.int k (k.wrap (a*2^(min b.toNat k.bits))))else none:=by
 by_cases h:0<=b
 ·have: ¬b<0:=by omega
  simp[lu,wN,h,this]
 ·have:b<0:=by omega
  simp[lu,wN,h,this]
def DR:lu .shr (.int k a) (.int k' b)=if 0<=b then some (.int k (a.fdiv (2^(min b.toNat k.bits))))else none:=by
 by_cases h:0<=b
 ·have: ¬b<0:=by omega
  simp[lu,wN,h,this]
 ·have:b<0:=by omega
  simp[lu,wN,h,this]
def eq_int:dy .int (.int k a) (.int k b)=some (decide (a=b)):=by
 simp only[dy,qS,ag6];grind
theorem Zf{x y:Bool}:dy .bool (.bool x) (.bool y)=some (x==y):=rfl
theorem Zg{x:Bool}:yu .not (.bool x)=some (.bool !x):=rfl
theorem Zh:yu .neg (.int k a)=some (.int k (k.wrap (0-a))):=rfl
theorem Zi:gl E .str (S l)=some (.int .i64 l.length):=by rfl
def Zj:yv (S l) (.int k a)=if 0<=a/\a<l.length then some (.int .u8 (l.getD a.toNat 0).toNat)else none:=by
 simp only[yv,sw,S]
 grind
def apG(i j:Nat): (⟨l.toArray⟩:ByteArray).extract i j=⟨((l.take j).drop i).toArray⟩:=by
 apply ByteArray.ext;simp[ByteArray.data_extract,axR]
def H8:vq (S l) (some (.int k a)) none=if 0<=a/\a<=l.length then some (S (l.drop a.toNat))else none:=by
 simp only[vq,S,gC,mc,apA];by_cases h:0<=a/\a<=l.length
 ·simp_all[adY,apG]
 grind
theorem Zk: (S l).ck=false:=rfl
theorem Zl: (S l).cells=[S l]:=rfl
theorem Zm: (S l).refs=0:=rfl
def Zn:dW X n lo [.t t] R .ret ⟨e,[]⟩ E=R (.ret (finish n lo (e t) E).1 (finish n lo (e t) E).2):=by
 simp[dW,dU,XO]
def Zo{u:Nat}:dW X n lo [.t t,.t u] R .ret ⟨e,[]⟩ E=R (.ret (finish n lo (.aw [e t,e u]) E).1 (finish n lo (.aw [e t,e u]) E).2):=by
 simp[dW,dU,apE]
def Zp{u v:Nat}:dW X n lo [.t t,.t u,.t v] R .ret ⟨e,[]⟩ E=R (.ret (finish n lo (.aw [e t,e u,e v]) E).1 (finish n lo (.aw [e t,e u,e v]) E).2):=by
 simp[dW,dU,apF]
def Zq:dW X n lo [] R .ret ⟨e,[]⟩ E=R (.ret (finish n lo (.aw []) E).1 (finish n lo (.aw []) E).2):=by
 simp[dW,dU,fQ,kp]
def Zr:dW X n lo [] R .normal ⟨e,[]⟩ E=R (.ret (finish n lo (.aw []) E).1 (finish n lo (.aw []) E).2):=by
 simp[dW,dU,fQ,kp]
def Bg:finish n lo v ⟨H,none⟩=if v.refs<=n then(v,⟨H.take n,lo⟩)else match freeze ⟨H,none⟩ n 12 v with|some v'=>(v',⟨H.take n,lo⟩)|none=>(v,⟨H,gB lo none⟩):=by
 by_cases h:v.refs<=n
 ·rw[adY h,XJ rfl h]
 ·rw[adU h];rfl
def DS:finish n lo v ⟨H,some j⟩=if n<=j then(if v.refs<=n then(v,⟨H.take n,lo⟩)else match freeze ⟨H,some j⟩ n 12 v with|some v'=>(v',⟨H.take n,lo⟩)|none=>(v,⟨H,gB lo (some j)⟩))else(v,⟨H,gB lo (some j)⟩):=by
 by_cases d:n<=j
 ·rw[adY d];by_cases h:v.refs<=n
  ·rw[adY h,XJ (by grind) h]
  ·rw[adU h];simp only[finish,ai8,adY d];rfl
 ·simp only[finish,ai8,adU d]
def Zs(h:H.length=n):H.take n=H:=by grind
theorem Zt{agg:Bool}{m id off:Nat}{lo:oN}:cm X ⟨H,lo⟩ agg m (.ptr id off)=match H[id]? with
 |some (.box cs _)=>part agg m cs off
 |_=>none:=rfl
theorem Zu{agg:Bool}{m off:Nat}{cs:lA}:cm X E agg m (.fu cs off)=part agg m cs off:=rfl
theorem Zv{m id off:Nat}{v:AV}{lo:oN}:km ⟨H,lo⟩ m (.ptr id off) v=match H[id]? with
 |some (.box cs tg)=>if v.ck=false/\v.cells.length=m/\off+m<=cs.length then some (AS.set ⟨H,lo⟩ id (.box (aM cs off v.cells) tg) v.refs)else none
 |_=>none:=rfl
theorem Zw{m:Nat}{cs:lA}{off:Nat}:part false m cs off=cs[off]?:=rfl
theorem Zx{m:Nat}{cs:lA}{off:Nat}:part true m cs off=if off+m<=cs.length then some (.agg ((cs.drop off).take m))else none:=rfl
theorem Zy{id off:Nat}:wR (.ptr id off)=some (.ptr id off):=rfl
theorem ZA{id off:Nat}:wR (.dw id ak i off)=some (.dw id ak i off):=rfl
theorem ZB{cs:lA}{off:Nat}:wR (.fu cs off)=some (.fu cs off):=rfl
theorem ZC{id off m:Nat}:wQ X m (.ptr id off)=some (.ptr id (off+m)):=rfl
theorem ZD{id off m:Nat}:wQ X m (.dw id ak i off)=some (.dw id ak i (off+m)):=rfl
theorem ZE{cs:lA}{off m:Nat}:wQ X m (.fu cs off)=some (.fu cs (off+m)):=rfl
theorem ZF:oH E (.int k a) tg=some (.ptr E.heap.length 0,E.push (.box [.int k a] tg)):=rfl
theorem ZG{b:Bool}:oH E (.bool b) tg=some (.ptr E.heap.length 0,E.push (.box [.bool b] tg)):=rfl
theorem ZH:oH E (S l) tg=some (.ptr E.heap.length 0,E.push (.box [S l] tg)):=rfl
theorem ZI{cs:lA}:oH E (.agg cs) tg=some (.ptr E.heap.length 0,E.push (.box cs tg)):=rfl
def ZJ{cs:lA}:aM cs 0 vs=vs++cs.drop vs.length:=by simp[aM]
def ZK{cs:lA}{c:AV}{off:Nat}:aM (c::cs) (off+1) vs=c::aM cs off vs:=by
 simp[aM,Nat.add_right_comm]
theorem ZL{k:IntKind}{n:Int}:AV.ck (.int k n)=false:=rfl
theorem ZM{k:IntKind}{n:Int}:AV.cells (.int k n)=[.int k n]:=rfl
theorem ZN{b:Bool}:AV.ck (.bool b)=false:=rfl
theorem ZO{b:Bool}:AV.cells (.bool b)=[.bool b]:=rfl
theorem ZP{o:Nat}:AV.ck (.ptr i o)=false:=rfl
theorem ZQ{o:Nat}:AV.cells (.ptr i o)=[.ptr i o]:=rfl
theorem ZR{v o:Nat}:AV.ck (.dw i v j o)=false:=rfl
theorem ZS{v o:Nat}:AV.cells (.dw i v j o)=[.dw i v j o]:=rfl
theorem ZT{cs:lA}{o:Nat}:AV.ck (.fu cs o)=false:=rfl
theorem ZU{cs:lA}{o:Nat}:AV.cells (.fu cs o)=[.fu cs o]:=rfl
theorem ZV:AV.ck (.eB)=false:=rfl
theorem ZW:AV.cells (.eB)=[.eB]:=rfl
theorem ZX:AV.ck (.aq)=false:=rfl
theorem ZY:AV.cells (.aq)=[.aq]:=rfl
theorem ZZ{c:Bool}:AV.ck (.sl af c)=false:=rfl
theorem Z0{c:Bool}:AV.cells (.sl af c)=[.sl af c]:=rfl
theorem Z1{v z o l:Nat}{c:Bool}:AV.ck (.ref i v z o l c)=false:=rfl
theorem Z2{v z o l:Nat}{c:Bool}:AV.cells (.ref i v z o l c)=[.ref i v z o l c]:=rfl
theorem Z3{z o l:Nat}:AV.ck (.fA i z o l)=false:=rfl
theorem Z4{z o l:Nat}:AV.cells (.fA i z o l)=[.fA i z o l]:=rfl
theorem Z5:AV.ck (.mW)=false:=rfl
theorem Z6:AV.cells (.mW)=[.mW]:=rfl
theorem Z7:AV.ck (.mp i)=false:=rfl
theorem Z8:AV.cells (.mp i)=[.mp i]:=rfl
theorem Z9{f:Fn}{a b:lA}:AV.ck (.fn f a b)=false:=rfl
theorem aaa{f:Fn}{a b:lA}:AV.cells (.fn f a b)=[.fn f a b]:=rfl
theorem aab:AV.ck (.dx)=false:=rfl
theorem aac:AV.cells (.dx)=[.dx]:=rfl
theorem aad{t:TypeId}:AV.ck (.dt t v)=false:=rfl
theorem aae{t:TypeId}:AV.cells (.dt t v)=[.dt t v]:=rfl
theorem aaf:AV.ck (.eX)=false:=rfl
theorem aag:AV.cells (.eX)=[.eX]:=rfl
theorem aah{g:Nat}:AV.ck (.dR g)=false:=rfl
theorem aai{g:Nat}:AV.cells (.dR g)=[.dR g]:=rfl
theorem aaj{cs:lA}:AV.ck (.agg cs)=false:=rfl
theorem aak{cs:lA}:AV.cells (.agg cs)=cs:=rfl
theorem aal{k:IntKind}{n:Int}:AV.refs (.int k n)=0:=by rfl
theorem aam{b:Bool}:AV.refs (.bool b)=0:=by rfl
theorem aan{o:Nat}:AV.refs (.ptr i o)=i+1:=by rfl
theorem aao:AV.refs (.aq)=0:=by rfl
theorem aap{v z o l:Nat}{c:Bool}:AV.refs (.ref i v z o l c)=i+1:=by rfl
theorem aaq:AV.refs (.mp i)=i+1:=by rfl
theorem aar{f:Nat}{a b:lA}:AV.refs (.fn (.func f) a b)=max (aK a) (aK b):=by rfl
theorem aas{t:TypeId}:AV.refs (.dt t v)=v.refs:=by rfl
theorem aat{cs:lA}:AV.refs (.agg cs)=aK cs:=by rfl
theorem aau{cs:lA}:AV.refs (.aw cs)=aK cs:=by rfl
theorem aav{c:Bool}:AV.refs (.sl af c)=b9 af:=by rfl
theorem aaw:aK []=0:=by rfl
theorem aax{a:AV}{as:lA}:aK (a::as)=max a.refs (aK as):=by rfl
theorem aay{a:AV}{as:lA}:dq (a::as) 0=a:=rfl
theorem aaz{a:AV}{as:lA}{n:Nat}:dq (a::as) (n+1)=dq as n:=rfl
theorem aaA{n:Nat}:dq [] n= .undef:=rfl
theorem aaB: (!true)=false:=rfl
theorem aaC: (!false)=true:=rfl
end
structure Rd(E:AS)(v:AV)(sz:Nat)(af:List lA):Prop where
 kind:match v with|.aq|.sl .. |.ref .. =>True|_=>False
 eq:elems E sz v=some af
 aCB: ∀el∈af,el.length=sz
def gg(v:AV)(j off:Nat):AV:=
 match v with
 |.sl af _=>.fu (af.getD j []) off
 |.ref id ak _ o _ _=>.dw id ak (o+j) off
 |_=>.jf
section
variable{X:Ctx}{E:AS}{v:AV}{sz:Nat}{af:List lA}{k:IntKind}{a:Int}
def Rd.len(h:Rd E v sz af):gl E .sl v=some (.int .i64 af.length):=by
 obtain⟨i,d,j⟩:=h;cases v<;>simp only[]at i
 ·cases d;rfl
 ·simp only[elems]at d;split at d<;>cases d;rfl
 ·simp only[elems]at d;split at d
  ·split at d
   ·simp only[gl];grind
   grind
  grind
def Rd.addr(h:Rd E v sz af):kn sz v (.int k a)=if 0<=a/\a<af.length then some (gg v a.toNat 0)else none:=by
 obtain⟨o,d,p⟩:=h;cases v<;>simp only[]at o
 ·cases d;have: ¬(0<=a/\a< (([]:List lA).length:Int)):=by simp
  rw[adU this];rfl
 ·simp only[elems]at d;simp only[kn,sw,gg]
  grind
 ·rename_i id ak z off len cD;simp only[elems]at d;split at d
  ·split at d
   ·rename_i j;cases d;simp only[kn,sw,gg];have e: ((List.take len (List.drop off (by assumption))).length:Nat)=len:=by rw[afS,amy];omega
    rw[e];by_cases i:0<=a/\a<len
    ·rw[adY ⟨i.1,i.2,j.2.2.1⟩,adY i]
    ·rw[adU (λh=>i ⟨h.1,h.2.1⟩),adU i]
   grind
  grind
def Rd.load(h:Rd E v sz af){off:Nat}{agg:Bool}(r:j<af.length):cm X E agg n (gg v j off)=part agg n (af.getD j []) off:=by
 obtain⟨q,d,s⟩:=h;cases v<;>simp only[]at q
 ·simp only[elems]at d;grind
 ·simp only[elems]at d;split at d<;>cases d;rfl
 ·simp only[elems]at d;split at d
  ·rename_i v' o ty i p;split at d
   ·simp only[gg,cm,p]
    grind
   grind
  grind
theorem Rd.sl{af:List lA}(h: ∀el∈af,el.length=sz):Rd E (.sl af c) sz af:=
 ⟨trivial,by simp only[elems];grind,h⟩
theorem Rd.aq:Rd E .aq sz []:=⟨trivial,rfl,by simp⟩
def Rd.ext{H L:List ae}(h:Rd ⟨H,lo⟩ v sz af):Rd ⟨H++L,aj⟩ v sz af:=by
 obtain⟨i,d,j⟩:=h;refine⟨i,?_,j⟩;cases v<;>simp only[]at i
 ·exact d
 ·exact d
 ·simp only[elems]at d⊢
  grind
end
def OA{f:AV->AV->Option AV}{x:AV}:gF f [x]=some x:=by rw[gF]
def aaD{f:AV->AV->Option AV}{x y z:AV}{r:lA}(h:f x y=some z):gF f (x::y::r)=gF f (z::r):=by rw[gF,h]
def OB{k:IntKind}{a b:Int}{r:lA}:gF qU (.int k a:: .int k' b::r)=gF qU (.int k (max a b)::r):=by
 refine aaD ?_;simp only[qU];grind
def aaE{k:IntKind}{a b:Int}{r:lA}:gF wP (.int k a:: .int k' b::r)=gF wP (.int k (min a b)::r):=by
 refine aaD ?_;simp only[wP];grind
def Rd.mono{H H':List ae}(h:Rd ⟨H,lo⟩ v sz af)(d:H<+:H'):Rd ⟨H',aj⟩ v sz af:=by
 obtain⟨L,rfl⟩:=d;exact h.ext
def Rv(v:AV)(sz:Nat)(af:List lA):Prop:= ∀E,Rd E v sz af
def Rv.len(h:Rv v sz af){E:AS}:gl E .sl v=some (.int .i64 af.length):=(h E).len
def Rv.addr(h:Rv v sz af){k:IntKind}{a:Int}:kn sz v (.int k a)=if 0<=a/\a<af.length then some (gg v a.toNat 0)else none:=(h ⟨[],none⟩).addr
theorem Rv.load{X:Ctx}(h:Rv v sz af){E:AS}{off:Nat}{agg:Bool}(d:j<af.length):cm X E agg n (gg v j off)=part agg n (af.getD j []) off:=(h E).load d
theorem Rv.sl(h: ∀el∈af,el.length=sz):Rv (.sl af c) sz af:=λ_=>.sl h
theorem Rv.aq:Rv .aq sz []:=λ_=>.aq
def du{v':AV}{H H':List ae}(h:v=v')(d:H=H'):aU.ret v ⟨H,lo⟩=aU.ret v' ⟨H',lo⟩:=by grind
theorem aaF: ((k+m:Nat):Int)=(k:Int)+(m:Int):=by rfl
theorem cast_zero: ((0:Nat):Int)=0:=rfl
def aaG{α:Type}[Inhabited α]{g:α->lA}{l:List α}(h:j<l.length): (l.map g).getD j []=g (l.getD j default):=by grind
section
variable{α:Type}{g:α->lA}{l:List α}{v:AV}{sz:Nat}
def Rv.bS(h:Rv v sz (l.map g)){E:AS}:gl E .sl v=some (.int .i64 l.length):=by rw[h.len,afB]
def Rv.cp(h:Rv v sz (l.map g)){k:IntKind}{a:Int}:kn sz v (.int k a)=if 0<=a/\a<l.length then some (gg v a.toNat 0)else none:=by rw[h.addr,afB]
def Rv.c7[Inhabited α]{X:Ctx}(h:Rv v sz (l.map g)){E:AS}{off:Nat}{agg:Bool}(d:j<l.length):cm X E agg n (gg v j off)=part agg n (g (l.getD j default)) off:=by
 rw[h.load (by grind),aaG d]
def Rd.bS{E:AS}(h:Rd E v sz (l.map g)):gl E .sl v=some (.int .i64 l.length):=by rw[h.len,afB]
def Rd.cp{E:AS}(h:Rd E v sz (l.map g)){k:IntKind}{a:Int}:kn sz v (.int k a)=if 0<=a/\a<l.length then some (gg v a.toNat 0)else none:=by rw[h.addr,afB]
def Rd.c7[Inhabited α]{X:Ctx}{E:AS}(h:Rd E v sz (l.map g)){off:Nat}{agg:Bool}(d:j<l.length):cm X E agg n (gg v j off)=part agg n (g (l.getD j default)) off:=by
 rw[h.load (by grind),aaG d]
end
def V1:=gG @Y6<|gG @Y7<|gG @Y8<|gG @Y9<|gG @Za<|gG @Zb<|gG @Zc<|gG @Zd<|gG @Ze<|gG @DQ<|gG @H7<|gG @Oy<|gG @Oz<|gG @Bf<|gG @DR<|gG @eq_int<|gG @Zf<|gG @Zg<|gG @Zh<|gG @Zi<|gG @Zj<|gG @H8<|gG @Zk<|gG @Zl<|gG @Zm<|gG @Zn<|gG @Zo<|gG @Zp<|gG @Zq<|gG @Zr<|gG @Zt<|gG @Zu<|gG @Zv<|gG @Zw<|gG @Zx<|gG @Zy<|gG @ZA<|gG @ZB<|gG @ZC<|gG @ZD<|gG @ZE<|gG @ZF<|gG @ZG<|gG @ZH<|gG @ZI<|gG @ZJ<|gG @ZK<|gG @XI<|gG @XG @XH
def V3:type_of% @aay/\type_of% @cast_zero/\type_of% @aaF/\type_of% @Int.toNat_natCast/\type_of% @Int.natCast_nonneg/\type_of% @OA/\type_of% @OB/\type_of% @aaE/\type_of% @aaz/\type_of% @aaA/\type_of% @aaB/\type_of% @aaC/\type_of% @Option.map_some.{0,0}/\type_of% @Option.map_none.{0,0}/\type_of% @List.map_cons.{0,0}/\type_of% @List.map_nil.{0,0}/\type_of% @not_false_eq_true/\type_of% @true_and/\type_of% @and_true/\type_of% @Nat.zero_le/\type_of% @List.length_cons.{0}/\type_of% @List.length_nil.{0}/\type_of% @List.length_append.{0}/\type_of% @List.length_map.{0,0}/\type_of% @if_true.{1}/\type_of% @if_false.{1}/\type_of% @if_true.{0}/\type_of% @if_false.{0}/\type_of% @ne_eq.{1}/\type_of% @List.cons_append.{0}/\type_of% @List.nil_append.{0}/\type_of% @List.append_nil.{0}/\type_of% @Nat.zero_add/\type_of% @List.length_set.{0}/\type_of% @List.append_assoc.{0}/\type_of% @List.getElem?_cons_zero.{0}/\type_of% @List.getElem?_cons_succ.{0}/\type_of% @List.set_cons_zero.{0}/\type_of% @List.set_cons_succ.{0}/\type_of% @List.drop_succ_cons.{0}/\type_of% @List.drop_zero.{0}/\type_of% @List.take_succ_cons.{0}/\type_of% @List.take_zero.{0}/\type_of% @Nat.max_self/\type_of% @Nat.zero_max/\type_of% @Nat.max_zero:=
 ⟨@aay,@cast_zero,@aaF,@aBn,@Int.natCast_nonneg,@OA,@OB,@aaE,@aaz,@aaA,@aaB,@aaC,@afG.{0,0},@Option.map_none.{0,0},@ak9.{0,0},@asC.{0,0},@aBe,@aAz,@anX,@aeu,@afL.{0},@anJ.{0},@aer.{0},@afB.{0,0},@ag6.{1},@ai5.{1},@ag6.{0},@ai5.{0},@ne_eq.{1},@ahq.{0},@ahm.{0},@afW.{0},@ak4,@afN.{0},@adV.{0},@aqi.{0},@axW.{0},@List.set_cons_zero.{0},@List.set_cons_succ.{0},@apY.{0},@amA.{0},@aqf.{0},@List.take_zero.{0},@Nat.max_self,@Nat.zero_max,@Nat.max_zero⟩
def F1:=gG @Bg @DS
def V2:=gG @ZL<|gG @ZN<|gG @ZP<|gG @ZR<|gG @ZT<|gG @ZV<|gG @ZX<|gG @ZZ<|gG @Z1<|gG @Z3<|gG @Z5<|gG @Z7<|gG @Z9<|gG @aab<|gG @aad<|gG @aaf<|gG @aah<|gG @aaj<|gG @ZM<|gG @ZO<|gG @ZQ<|gG @ZS<|gG @ZU<|gG @ZW<|gG @ZY<|gG @Z0<|gG @Z2<|gG @Z4<|gG @Z6<|gG @Z8<|gG @aaa<|gG @aac<|gG @aae<|gG @aag<|gG @aai<|gG @aak<|gG @aal<|gG @aam<|gG @aan<|gG @aao<|gG @aap<|gG @aaq<|gG @aar<|gG @aas<|gG @aat<|gG @aau<|gG @aav<|gG @aaw @aax
def gV:List aR->lN
 | []=>[]
 |o::os=>match o.dst with
  |some d=>d::gV os
  |none=>gV os
def Fr.Dw{fr:Fr}(h:d≠some t): (fr.put d v).env t=fr.env t:=by
 cases d with
 |none=>rfl
 |some d=>
  simp only[Fr.put,Env.set]
  grind
section
variable{X:Ctx}{C:bz}{L:eL}
theorem OC: ∀ (os:List aR) (fr a:Fr) (E E':AS) (ex:Ex),fj X C os fr E=some (ex,a,E')-> ∀t,t∉gV os->a.env t=fr.env t
 | [],fr,a,E,E',ex,h,t,j=>by simp only[fj,adT,ap1]at h;grind
 |o::os,fr,a,E,E',ex,h,t,j=>by
  have k:o.dst≠some t:=by
   intro e;apply j;simp[gV,e]
  have g:t∉gV os:=by
   intro e;apply j;simp only[gV];grind
  simp only[fj]at h;split at h
  ·split at h
   ·rw[OC os _ _ _ _ _ h t g,Fr.Dw k]
   ·grind
   grind
  ·rw[OC os _ _ _ _ _ h t g,Fr.Dw k]
end
def sP:lN->Nat->Bool
 | [],_=>false
 |a::as,t=>a==t||sP as t
theorem aaH{t:Nat}: ∀ {W:lN},sP W t=true↔t∈W
 | []=>by simp[sP]
 |a::as=>by
  simp only[sP,aos,asa,ag7];rw[aaH]
  grind
def aaI(b:Bool)(a e:Env)(t:Nat):AV:=match b with|true=>a t|false=>e t
theorem aaJ{a:Env}:aaI true a e t=a t:=rfl
theorem aaK{a:Env}:aaI false a e t=e t:=rfl
section
variable{X:Ctx}{f:FuncId}{rd:Bool}{E oG:AS}{Q:bQ}{e:Env}{ms:lN}{t:Nat}{b c:Bool}{d:oN}{i:I}{os:List aR}
def OD(r:Nat)(v:AV)(ms:lN)(oG:AS)(Q:bQ):bQ
 |.normal,fr,E'=>fr.env r=v/\fr.marks=ms/\E'=oG
 |ex,fr,E'=>Q ex fr E'
theorem aaL{ms a:lN}:OD r v ms oG Q .normal ⟨e,a⟩ E=(e r=v/\a=ms/\E=oG):=rfl
end
def w5(e:Env):lN->Env->Env
 | [],a=>a
 |t::ts,a=>(w5 e ts a).set t (e t)
theorem aaM{W:lN}{e g:Env}(h: ∀t,t∉W->g t=e t): ∀a:lN,a.all (λk=>!sP W k)=true->w5 e a g=g
 | [],_=>rfl
 |k::a,j=>by
  simp only[axE,ag9]at j;have l:k∉W:=by grind [aaH]
  simp only[w5];rw[aaM h a j.2,<-h k l,Env.Oi]
section
variable{X:Ctx}{f:FuncId}{rd:Bool}{E:AS}{Q:bQ}{e:Env}{ms:lN}{t:Nat}{b c:Bool}{d:oN}{i:I}{os:List aR}
def apH(oG:AS)(r:Nat)(v:AV)(g:lN)(l:g.all (λk=>!sP (gV os) k)=true)(u:dI X os ⟨e,ms⟩ E (OD r v ms oG Q))(q: ∀w,Q .normal ⟨(w5 e g w).set r v,ms⟩ oG):dI X os ⟨e,ms⟩ E Q:=by
 obtain⟨ex,a,E',h,j⟩:=u;have m:=OC os _ _ _ _ _ h;refine⟨ex,a,E',h,?_⟩;cases ex with
 |normal=>
  obtain⟨p,o,n⟩:=j;have:=q a.env;rw[aaM m g l,<-p,Env.Oi,<-o,<-n]at this;omega
 |_=>exact j
def w8(r:Nat)(v:AV)(a:lN){g:AV}(l:e t=g)(j:a.all (λk=>!sP (gV (⟨none,d,i⟩::os)) k)=true)(h:gK X t b d i os e ms E (OD r v ms E Q) g)(m: ∀n,Q .normal ⟨(w5 e a n).set r v,ms⟩ E):gK X t b d i os e ms E Q g:=by
 subst l;have key: ∀Q,gK X t b d i os e ms E Q (e t)=dI X (⟨some (t,b),d,i⟩::os) ⟨e,ms⟩ E Q:=by
  intro Q;cases b
  ·exact Ov.symm
  ·exact Ou.symm
 rw[key]at h⊢;exact apH E r v a j h m
def apI(r:Nat)(v:AV)(ms:lN)(P:AS->Prop)(Q:bQ):bQ
 |.normal,fr,E'=>fr.env r=v/\fr.marks=ms/\P E'
 |ex,fr,E'=>Q ex fr E'
theorem aaN{ms a:lN}{P:AS->Prop}:apI r v ms P Q .normal ⟨e,a⟩ E=(e r=v/\a=ms/\P E):=rfl
def OE(P:Env->List ae->oN->Prop)(Q:bQ):bQ
 |.normal,fr,E'=>fr.marks=[]/\P fr.env E'.heap E'.lo
 |ex,fr,E'=>Q ex fr E'
def H9{P:Env->List ae->oN->Prop}{H:List ae}:OE P Q .normal ⟨e,[]⟩ ⟨H,lo⟩=P e H lo:=by simp[OE]
def aaO{p q:PC}{a:AV}(P:Env->List ae->oN->Prop)(g:oI X f rd p q ⟨e,[]⟩ E (OE P Q) a)(l: ∀e H lo,P e H lo->Q .normal ⟨e,[]⟩ ⟨H,lo⟩):oI X f rd p q ⟨e,[]⟩ E Q a:=by
 have key: ∀Q,oI X f rd p q ⟨e,[]⟩ E Q a=wp X f rd (.cond (.c a) p q) ⟨e,[]⟩ E Q:=λQ=>by rw[Ox];rfl
 rw[key]at g⊢;refine wp_mono g ?_;rintro ex ⟨m,ms⟩ ⟨H,lo⟩ h;cases ex with
 |normal=>obtain⟨k,j⟩:=h;grind
 |_=>exact h
end
def pY(n:Nat)(a:AV):FP:=match a with
 |.ptr id off=>.rd id off (Nat.max n 1)
 |.dw .. =>.rr
 |.fu .. =>.no
 |.dR _=>.no
 |_=>.all
def Ia(n:Nat)(a:AV):FP:=match a with
 |.ptr id off=>.wr id off n
 |.dw .. =>.app
 |_=>.all
noncomputable def OF(E E':AS):FP:=open Classical in if E'=E then .q else .all
section
variable{e:Env}{E E':AS}
theorem aaP:aY (.mov x) e E E'= .no:=rfl
theorem aaQ{c:ao}{a:ao}{b:ao}:aY (.pick c a b) e E E'= .no:=rfl
theorem aaR{a:List (Nat×Nat×ao)}:aY (.build z a) e E E'= .no:=rfl
theorem aaS{a:List (Nat×Nat×ao)}:aY (.bslice z n a) e E E'= .no:=rfl
theorem aaT:aY (.nilck x) e E E'= .no:=rfl
theorem aaU{a:BinOp}:aY (.bin a x y) e E E'= .no:=rfl
theorem aaV{a:BinOp}:aY (.shf a x y) e E E'= .no:=rfl
theorem aaW{k:EK}:aY (.eq k x y) e E E'= .no:=rfl
theorem aaX{k:EK}:aY (.ne k x y) e E E'= .no:=rfl
theorem aaY{a:UnOp}:aY (.un a x) e E E'= .no:=rfl
theorem aaZ{a:IntKind}:aY (.conv a x) e E E'= .no:=rfl
theorem aa0:aY (.s2b x) e E E'= .no:=rfl
theorem aa1{ty:TypeId}:aY (.mki ty x) e E E'= .no:=rfl
theorem aa2{fn:Fn}{g:List ao}{a:List ao}:aY (.mkf fn g a) e E E'= .no:=rfl
theorem aa3{lo:Option ao}{a:Option ao}:aY (.slstr x lo a) e E E'= .no:=rfl
theorem aa4{lo:Option ao}{g:Option ao}{a:Option ao}:aY (.slsl n x lo g a) e E E'= .no:=rfl
theorem aa5{lo:Option ao}{a:Option ao}:aY (.slarr n m x lo a) e E E'= .no:=rfl
theorem aa6:aY (.faddr n x) e E E'= .no:=rfl
theorem aa7:aY (.fld ag n m x) e E E'= .no:=rfl
theorem aa8:aY (.iaddra n m x y) e E E'= .no:=rfl
theorem aa9:aY (.iaddrs n x y) e E E'= .no:=rfl
theorem aba:aY (.idxa ag n m x y) e E E'= .no:=rfl
theorem abb:aY (.idxs x y) e E E'= .no:=rfl
theorem abc{a:AV}{ty:TypeId}{g:Bool}:aY (.ta a x ty g) e E E'= .no:=rfl
theorem abd:aY (.ext x n) e E E'= .no:=rfl
theorem abe{a:List ao}:aY (.max a) e E E'= .no:=rfl
theorem abf{a:List ao}:aY (.min a) e E E'= .no:=rfl
theorem abg{k:EK}{a:AV}{g:Bool}:aY (.lookup k a x y g) e E E'= .q:=rfl
theorem abh:aY (.len .sl x) e E E'= .no/\aY (.len .str x) e E E'= .no/\aY (.len .map x) e E E'= .q:=⟨rfl,rfl,rfl⟩
theorem abi{ty:TypeId}:aY (.append ty n m x y) e E E'= .app:=rfl
theorem abj:aY (.alloc z tg) e E E'= .all:=rfl
theorem abk:aY (.box x tg) e E E'= .all:=rfl
theorem abl{ty:TypeId}{a:List (Nat×Nat×ao)}:aY (.sv ty z n a) e E E'= .all:=rfl
theorem abm:aY (.oy) e E E'= .all:=rfl
theorem abn{k:EK}{c:ao}:aY (.pN k x y c) e E E'= .all:=rfl
theorem abo:aY (.copy n x y) e E E'= .all:=rfl
theorem abp:aY (.clear z x) e E E'= .all:=rfl
theorem abq:aY (.panic x) e E E'= .all:=rfl
theorem abr:aY (.load ag n x) e E E'=pY n (x.get e):=by rfl
theorem abt:aY (.store n x y) e E E'=Ia n (x.get e):=by rfl
theorem abu{a:List ao}:aY (.call x a) e E E'=OF E E':=rfl
def abv:OF E E= .q:=by simp[OF]
theorem abw{id off:Nat}:pY n (.ptr id off)= .rd id off (Nat.max n 1)/\pY n (.dw id ak i off)= .rr:=⟨rfl,rfl⟩
theorem abx{off:Nat}{cs:lA}:pY n (.fu cs off)= .no:=rfl
theorem aby{g:Nat}:pY n (.dR g)= .no:=rfl
theorem abz{id off:Nat}:Ia n (.ptr id off)= .wr id off n/\Ia n (.dw id ak i off)= .app:=⟨rfl,rfl⟩
theorem Rv.pY(h:Rv v sz af){off:Nat}(k:j<af.length):Den.pY n (gg v j off)= .no:=by
 obtain⟨g,a,l⟩:=h ⟨[],none⟩;cases v<;>simp only[]at g
 ·simp only[Den.elems]at a;grind
 ·rfl
 ·trivial
def Rv.apJ{α:Type}{g:α->lA}{l:List α}(h:Rv v sz (l.map g)){off:Nat}(a:j<l.length):Den.pY n (gg v j off)= .no:=h.pY (by grind)
theorem Ib{x:FP}:FP.ok .no x=true:=by rfl
def Ic{x:FP}:FP.ok x .no=true:=by cases x<;>rfl
theorem Ie{b c h g:Nat}:FP.ok (.rd a b c) (.rd a' h g)=true:=rfl
theorem Ig{b c:Nat}:FP.ok (.rd a b c) .q=true:=rfl
theorem Ih{b c:Nat}:FP.ok .q (.rd a b c)=true:=rfl
theorem Ii:FP.ok .q .q=true:=rfl
theorem abA{b c:Nat}:FP.ok .rr (.rd a b c)=true/\FP.ok (.rd a b c) .rr=true/\FP.ok .rr (.wr a b c)=true/\FP.ok (.wr a b c) .rr=true:=⟨rfl,rfl,rfl,rfl⟩
theorem abB:FP.ok .rr .q=true/\FP.ok .q .rr=true/\FP.ok .rr .rr=true:=⟨rfl,rfl,rfl⟩
theorem Ij{b c:Nat}:FP.ok (.rd a b c) .app=true:=rfl
theorem Ik{b c:Nat}:FP.ok .app (.rd a b c)=true:=rfl
theorem Il{b c g h:Nat}:FP.ok (.rd a b c) (.wr a' g h)=(a !=a'||b+c<=g||g+h<=b):=rfl
theorem Im{b c g h:Nat}:FP.ok (.wr a b c) (.rd a' g h)=(a !=a'||b+c<=g||g+h<=b):=rfl
end
def rl(bH:List FP)(x:FP):lN->Bool
 | []=>true
 |j::js=>(bH.getD j .all).ok x&&rl bH x js
theorem OG{bH:List FP}{x:FP}: ∀js:lN,js.all (λj=>(bH.getD j .all).ok x)=rl bH x js
 | []=>rfl
 |j::js=>by simp only[axE,rl,OG js]
def kD(X:Ctx)(i:I)(cn:AS)(bH:List FP)(js:lN)(os:List (aR×lN))(d:oN)(e:Env)(ms:lN)(Q:bQ):AV->AS->Prop:=λv E=>
 rl bH (aY i e cn E) js=true/\gU X (bH++[aY i e cn E]) os (Fr.put ⟨e,ms⟩ d v) E Q
def kF(bH:List FP)(i:I)(d:oN)(js:lN)(os:List (aR×lN))(e:Env)(ms:lN)(Q:bQ):AV->AS->Prop:=λv E=>Da bH (⟨none,d,i⟩,js) os=true/\Q (.panic v) ⟨e,ms⟩ E
def abC{X:Ctx}{E:AS}{Q:bQ}{ms:lN}{bH:List FP}{js:lN}{os:List (aR×lN)}{i:I}:gU X bH ((⟨none,d,i⟩,js)::os) ⟨e,ms⟩ E Q=aS X i e E (kD X i E bH js os d e ms Q) (kF bH i d js os e ms Q):=by
 apply propext;simp only[gU,aS,gH,gn,ag6];cases g:exec X (D X) i e E with
 |none=>simp[rk]
 |some o=>
  cases o with
  |ok v E'=>
   simp only[rk,OG];by_cases a:rl bH (aY i e E E') js=true
   ·rw[adY a];exact⟨λh=>⟨a,h⟩,λh=>h.2⟩
   ·simp[kD,a]
  |panic v E'=>
   simp only[rk,kF]
   grind
section
variable{X:Ctx}{f:FuncId}{rd:Bool}{E cn:AS}{Q:bQ}{e:Env}{ms:lN}{bH:List FP}{js:lN}{os:List (aR×lN)}{i:I}{d:Nat}{v:AV}
def abD:gU X bH [] ⟨e,ms⟩ E Q=Q .normal ⟨e,ms⟩ E:=propext (by simp only[gU,gH];grind)
def abE:gU X bH ((o d i,js)::os) ⟨e,ms⟩ E Q=aS X i e E (kD X i E bH js os (some d) e ms Q) (kF bH i (some d) js os e ms Q):=abC
def abF:gU X bH ((u i,js)::os) ⟨e,ms⟩ E Q=aS X i e E (kD X i E bH js os none e ms Q) (kF bH i none js os e ms Q):=abC
theorem abG:kD X i cn bH js os (some d) e ms Q v E=(rl bH (aY i e cn E) js=true/\gU X (bH++[aY i e cn E]) os ⟨e.set d v,ms⟩ E Q):=rfl
theorem abH:kD X i cn bH js os none e ms Q v E=(rl bH (aY i e cn E) js=true/\gU X (bH++[aY i e cn E]) os ⟨e,ms⟩ E Q):=rfl
theorem abI{x:FP}:rl bH x []=true:=rfl
theorem abJ{x:FP}:rl bH x (j::js)=((bH.getD j .all).ok x&&rl bH x js):=rfl
def abK{H:List ae}:wp X f rd (.vo os) ⟨e,ms⟩ ⟨H,lo⟩ Q=gU X [] (il H.length os) ⟨e,ms⟩ ⟨H++dL os,lo⟩ Q:=aoZ
theorem abL{x y:FP}{l:List FP}: (x::l).getD 0 y=x:=rfl
end
def dv:I->Option ae
 |.alloc z tg=>some (.box z tg)
 |_=>none
theorem abM{d:Nat}{i:I}:aR.fP (o d i)=dv i:=by rfl
theorem abN{i:I}:aR.fP (u i)=dv i:=by rfl
theorem abO{i:I}:aR.fP (gt t d i)=dv i:=by rfl
theorem abP{i:I}:aR.fP (gf t d i)=dv i:=by rfl
def jh(n:Nat)(x:aR)(l:lN)(os:List (aR×lN)):Option ae->List (aR×lN)
 |none=>(x,l)::il n os
 |some _=>({x with i:=.mov (.c (.ptr n 0))},l)::il (n+1) os
def zC(os:List (aR×lN)):Option ae->List ae
 |none=>dL os
 |some b=>b::dL os
theorem abQ:il n []=[]:=rfl
def abR{x:aR}{l:lN}{os:List (aR×lN)}:il n ((x,l)::os)=jh n x l os x.fP:=by
 simp only[il,mg];cases x.fP<;>rfl
theorem abS{x:aR}{l:lN}{os:List (aR×lN)}:jh n x l os none=(x,l)::il n os:=rfl
theorem abT{d:Nat}{i:I}{l:lN}{os:List (aR×lN)}{b:ae}:jh n (o d i) l os (some b)=(o d (.mov (.c (.ptr n 0))),l)::il (n+1) os:=rfl
theorem abU{i:I}{l:lN}{os:List (aR×lN)}{b:ae}:jh n (gt t d i) l os (some b)=(gt t d (.mov (.c (.ptr n 0))),l)::il (n+1) os:=rfl
theorem abV{i:I}{l:lN}{os:List (aR×lN)}{b:ae}:jh n (gf t d i) l os (some b)=(gf t d (.mov (.c (.ptr n 0))),l)::il (n+1) os:=rfl
theorem abW:dL []=[]:=rfl
def abX{x:aR}{l:lN}{os:List (aR×lN)}:dL ((x,l)::os)=zC os x.fP:=by
 simp only[dL];cases x.fP<;>rfl
theorem abY{os:List (aR×lN)}:zC os none=dL os:=rfl
theorem abZ{os:List (aR×lN)}{b:ae}:zC os (some b)=b::dL os:=rfl
theorem ab0:dv (.alloc z tg)=some (.box z tg):=rfl
theorem ab1{a:_}:dv (.mov a)=none:=rfl
theorem ab2{h:_}{g:_}{a:_}:dv (.pick h g a)=none:=rfl
theorem ab3{g:_}{a:_}:dv (.box g a)=none:=rfl
theorem ab4{g:_}{a:_}:dv (.build g a)=none:=rfl
theorem ab5{h:_}{g:_}{a:_}:dv (.bslice h g a)=none:=rfl
theorem ab6{j:_}{h:_}{g:_}{a:_}:dv (.sv j h g a)=none:=rfl
theorem ab7{h:_}{g:_}{a:_}:dv (.load h g a)=none:=rfl
theorem ab8{h:_}{g:_}{a:_}:dv (.store h g a)=none:=rfl
theorem ab9{a:_}:dv (.nilck a)=none:=rfl
theorem aca{h:_}{g:_}{a:_}:dv (.bin h g a)=none:=rfl
theorem acb{h:_}{g:_}{a:_}:dv (.shf h g a)=none:=rfl
theorem acd{h:_}{g:_}{a:_}:dv (.eq h g a)=none:=rfl
theorem ace{h:_}{g:_}{a:_}:dv (.ne h g a)=none:=rfl
theorem acf{g:_}{a:_}:dv (.un g a)=none:=rfl
theorem acg{g:_}{a:_}:dv (.conv g a)=none:=rfl
theorem ach{a:_}:dv (.s2b a)=none:=rfl
theorem aci{g:_}{a:_}:dv (.mki g a)=none:=rfl
theorem acj{h:_}{g:_}{a:_}:dv (.mkf h g a)=none:=rfl
theorem ack:dv .oy=none:=rfl
theorem acm{h:_}{g:_}{a:_}:dv (.slstr h g a)=none:=rfl
theorem acn{k:_}{j:_}{h:_}{g:_}{a:_}:dv (.slsl k j h g a)=none:=rfl
theorem aco{k:_}{j:_}{h:_}{g:_}{a:_}:dv (.slarr k j h g a)=none:=rfl
theorem acp{g:_}{a:_}:dv (.faddr g a)=none:=rfl
theorem acq{j:_}{h:_}{g:_}{a:_}:dv (.fld j h g a)=none:=rfl
theorem acr{j:_}{h:_}{g:_}{a:_}:dv (.iaddra j h g a)=none:=rfl
theorem acs{h:_}{g:_}{a:_}:dv (.iaddrs h g a)=none:=rfl
theorem acu{k:_}{j:_}{h:_}{g:_}{a:_}:dv (.idxa k j h g a)=none:=rfl
theorem acv{g:_}{a:_}:dv (.idxs g a)=none:=rfl
theorem acw{k:_}{j:_}{h:_}{g:_}{a:_}:dv (.lookup k j h g a)=none:=rfl
theorem acx{j:_}{h:_}{g:_}{a:_}:dv (.pN j h g a)=none:=rfl
theorem acy{j:_}{h:_}{g:_}{a:_}:dv (.ta j h g a)=none:=rfl
theorem acz{g:_}{a:_}:dv (.ext g a)=none:=rfl
theorem acA{g:_}{a:_}:dv (.len g a)=none:=rfl
theorem acB{k:_}{j:_}{h:_}{g:_}{a:_}:dv (.append k j h g a)=none:=rfl
theorem acC{h:_}{g:_}{a:_}:dv (.copy h g a)=none:=rfl
theorem acD{g:_}{a:_}:dv (.clear g a)=none:=rfl
theorem acE{a:_}:dv (.max a)=none:=rfl
theorem acF{a:_}:dv (.min a)=none:=rfl
theorem acG{g:_}{a:_}:dv (.call g a)=none:=rfl
theorem acH{a:_}:dv (.panic a)=none:=rfl
def N1:=gG @abM<|gG @abN<|gG @abO<|gG @abP<|gG @abQ<|gG @abR<|gG @abS<|gG @abT<|gG @abU<|gG @abV<|gG @abW<|gG @abX<|gG @abY<|gG @abZ<|gG @ab0<|gG @ab1<|gG @ab2<|gG @ab3<|gG @ab4<|gG @ab5<|gG @ab6<|gG @ab7<|gG @ab8<|gG @ab9<|gG @aca<|gG @acb<|gG @acd<|gG @ace<|gG @acf<|gG @acg<|gG @ach<|gG @aci<|gG @acj<|gG @ack<|gG @acm<|gG @acn<|gG @aco<|gG @acp<|gG @acq<|gG @acr<|gG @acs<|gG @acu<|gG @acv<|gG @acw<|gG @acx<|gG @acy<|gG @acz<|gG @acA<|gG @acB<|gG @acC<|gG @acD<|gG @acE<|gG @acF<|gG @acG @acH
def P1:=gG @abK<|gG @abD<|gG @abE<|gG @abF<|gG @abG<|gG @abH<|gG @abI<|gG @abJ<|gG @abL<|gG @abr<|gG @abt<|gG @abu<|gG @abv<|gG @abw<|gG @abx<|gG @aby<|gG @abz<|gG @Ib<|gG @Ic<|gG @Ie<|gG @Ig<|gG @Ih<|gG @Ii<|gG @abA<|gG @abB<|gG @Ij<|gG @Ik<|gG @Il<|gG @Im<|gG @aaP<|gG @aaQ<|gG @aaR<|gG @aaS<|gG @aaT<|gG @aaU<|gG @aaV<|gG @aaW<|gG @aaX<|gG @aaY<|gG @aaZ<|gG @aa0<|gG @aa1<|gG @aa2<|gG @aa3<|gG @aa4<|gG @aa5<|gG @aa6<|gG @aa7<|gG @aa8<|gG @aa9<|gG @aba<|gG @abb<|gG @abc<|gG @abd<|gG @abe<|gG @abf<|gG @abg<|gG @abh<|gG @abi<|gG @abj<|gG @abk<|gG @abl<|gG @abm<|gG @abn<|gG @abo<|gG @abp @abq
def apK{X:Ctx}(pf:PF){args cap:lA}{H:List ae}{a:aU}(g:X.bW f=none)(k:X.code f=some pf)(j:Nat.ble (args++cap).length pf.ntmps=true)
 (h: ∀n,H.length=n->wp X f false pf.body ⟨dq (args++cap),[]⟩ ⟨H,none⟩ (dW X n lo pf.results (· =a))):D X (.fn (.func f) [] cap) args ⟨H,lo⟩=some a:=by grind [Nat.le_of_ble_eq_true,XE]
def apL{X:Ctx}{rd:Bool}{E:AS}{Q:bQ}(m:Nat)(I:Nat->Env->List ae->Prop){H:List ae}(k:Nat)(g:k<=m)(n:I k e H)
  (l: ∀k,k<=m-> ∀e H,I k e H->wp X f rd b ⟨e,[]⟩ ⟨H,none⟩ (λex a E'=>match ex with|.normal=>k<m/\ ∃h H',a=⟨h,[]⟩/\E'=⟨H',none⟩/\I (k+1) h H'|ex=>Q ex a E')):wp X f rd (.loop b) ⟨e,[]⟩ ⟨H,none⟩ Q:=by
 refine wp_loop (S:=Nat) (λk fr E=>k<=m/\ ∃e H,fr=⟨e,[]⟩/\E=⟨H,none⟩/\I k e H) (λk=>m-k) k ⟨g,e,H,rfl,rfl,n⟩ ?_;rintro k fr E ⟨g,e,H,rfl,rfl,j⟩;refine wp_mono (l k g e H j) ?_
 grind
def Bh(k m:Nat)(I:Nat->Env->List ae->Prop)(Q:bQ):bQ:=λex a E'=>match ex with|.normal=>k<m/\ ∃g H',a=⟨g,[]⟩/\E'=⟨H',none⟩/\I (k+1) g H'|ex=>Q ex a E'
def acI{I:Nat->Env->List ae->Prop}{Q:bQ}{H:List ae}:Bh k m I Q .normal ⟨e,[]⟩ ⟨H,none⟩=(k<m/\I (k+1) e H):=by
 simp only[Bh]
 grind
theorem acJ{I:Nat->Env->List ae->Prop}{Q:bQ}{fr:Fr}{E:AS}:Bh k m I Q (.exit i) fr E=Q (.exit i) fr E:=rfl
theorem acK{I:Nat->Env->List ae->Prop}{Q:bQ}{fr:Fr}{E:AS}:Bh k m I Q .ret fr E=Q .ret fr E:=rfl
theorem acL{I:Nat->Env->List ae->Prop}{Q:bQ}{fr:Fr}{E:AS}:Bh k m I Q (.panic v) fr E=Q (.panic v) fr E:=rfl
def eG{X:Ctx}{rd:Bool}{Q:bQ}(m:Nat)(I:Nat->Env->List ae->Prop){H:List ae}(k:Nat)(a:k<=m)(j:I k e H)
  (h: ∀k,k<=m-> ∀e H,I k e H-> ∀n,H.length=n->wp X f rd b ⟨e,[]⟩ ⟨H,none⟩ (Bh k m I Q)):wp X f rd (.loop b) ⟨e,[]⟩ ⟨H,none⟩ Q:=
 apL (E:=⟨H,none⟩) m I k a j λk a e H g=>h k a e H g _ rfl
def Bi(k m:Nat)(I:Nat->Env->List ae->oN->Prop)(Q:bQ):bQ:=λex a E'=>match ex with|.normal=>k<m/\a.marks=[]/\I (k+1) a.env E'.heap E'.lo|ex=>Q ex a E'
def acM{I:Nat->Env->List ae->oN->Prop}{Q:bQ}{H:List ae}:Bi k m I Q .normal ⟨e,[]⟩ ⟨H,lo⟩=(k<m/\I (k+1) e H lo):=by
 simp[Bi]
theorem acN{I:Nat->Env->List ae->oN->Prop}{Q:bQ}{fr:Fr}{E:AS}:Bi k m I Q (.exit i) fr E=Q (.exit i) fr E:=rfl
theorem acO{I:Nat->Env->List ae->oN->Prop}{Q:bQ}{fr:Fr}{E:AS}:Bi k m I Q .ret fr E=Q .ret fr E:=rfl
def iq{X:Ctx}{rd:Bool}{Q:bQ}(m:Nat)(I:Nat->Env->List ae->oN->Prop){H:List ae}(k:Nat)(g:k<=m)(o:I k e H lo)
  (l: ∀k,k<=m-> ∀e H lo,I k e H lo-> ∀n,H.length=n->wp X f rd b ⟨e,[]⟩ ⟨H,lo⟩ (Bi k m I Q)):wp X f rd (.loop b) ⟨e,[]⟩ ⟨H,lo⟩ Q:=by
 refine wp_loop (S:=Nat) (λk fr E=>k<=m/\fr.marks=[]/\I k fr.env E.heap E.lo) (λk=>m-k) k ⟨g,rfl,o⟩ ?_;rintro k ⟨e,ms⟩ ⟨H,lo⟩ ⟨g,a,j⟩;subst a;refine wp_mono (l k g e H lo j _ rfl) ?_;intro ex fr E h;cases ex with
 |normal=>
  obtain⟨r,q,p⟩:=h
  grind
 |_=>exact h
section
variable{S:Type}{I:S->Env->List ae->Prop}{μ:S->Nat}{s:S}{Q:bQ}
end
def Io(X:Ctx)(f:FuncId)(rd:Bool)(b:PC)(Q:bQ):bQ
 |.normal,fr,E=>wp X f rd (.loop b) fr E Q
 |ex,fr,E=>Q ex fr E
section
variable{X:Ctx}{f:FuncId}{rd:Bool}{b:PC}{fr:Fr}{E:AS}{Q:bQ}{i:Nat}{v:AV}
theorem acP:Io X f rd b Q .normal fr E=wp X f rd (.loop b) fr E Q:=rfl
theorem acQ:Io X f rd b Q (.exit i) fr E=Q (.exit i) fr E:=rfl
theorem acR:Io X f rd b Q .ret fr E=Q .ret fr E:=rfl
theorem acS:Io X f rd b Q (.panic v) fr E=Q (.panic v) fr E:=rfl
end
theorem acT{a:Env}:w5 e [] a=a:=rfl
theorem acU{g:Env}{a:lN}:w5 e (t::a) g=(w5 e a g).set t (e t):=rfl
def acV{p:Prop}[Decidable p]: (!decide p)=decide (¬p):=by simp
theorem acW:gV []=[]:=rfl
theorem acX{i:I}{os:List aR}:gV (o a i::os)=a::gV os:=rfl
theorem acY{i:I}{os:List aR}:gV (u i::os)=gV os:=rfl
theorem acZ{i:I}{os:List aR}:gV (gt t (some a) i::os)=a::gV os:=rfl
theorem ac0{i:I}{os:List aR}:gV (gf t (some a) i::os)=a::gV os:=rfl
theorem ac1{i:I}{os:List aR}:gV (gt t none i::os)=gV os:=rfl
theorem ac2{i:I}{os:List aR}:gV (gf t none i::os)=gV os:=rfl
theorem ac3{i:I}{os:List aR}:gV (⟨none,some a,i⟩::os)=a::gV os:=rfl
theorem ac4{i:I}{os:List aR}:gV (⟨none,none,i⟩::os)=gV os:=rfl
theorem ac5:sP [] t=false:=rfl
theorem ac6{as:lN}:sP (a::as) t=(a==t||sP as t):=rfl
def ff: (false=true)=False:=by simp
def tt: (true=true)=True:=by simp
def C1:=gG @aaN<|gG @acM<|gG @acN<|gG @acO<|gG @acP<|gG @acQ<|gG @acR<|gG @acS<|gG @acI<|gG @acJ<|gG @acK<|gG @acL<|gG @aaJ<|gG @aaK<|gG @ath<|gG @auu<|gG @axH<|gG @amq<|gG @acT<|gG @acU<|gG @acV<|gG @acW<|gG @acX<|gG @acY<|gG @acZ<|gG @ac0<|gG @ac1<|gG @ac2<|gG @ac3<|gG @ac4<|gG @ac5<|gG @ac6<|gG @ff @aaL
def aH{X:Ctx}(pf:PF){args:lA}{H:List ae}{a:aU}
 (h: ∀n,H.length=n->wp X f false pf.body ⟨dq args,[]⟩ ⟨H,none⟩ (dW X n lo pf.results (· =a))) (g:X.bW f=none:=by exact rfl) (k:X.code f=some pf:=by exact rfl) (j:Nat.ble args.length pf.ntmps=true:=by exact rfl):D X (.fn (.func f) [] []) args ⟨H,lo⟩=some a:=Ol pf g k j h
def cE{X:Ctx}(pf:PF){args:lA}{H:List ae}{R:aU->Prop}
 (h: ∀n,H.length=n->wp X f false pf.body ⟨dq args,[]⟩ ⟨H,none⟩ (dW X n lo pf.results R)) (g:X.bW f=none:=by exact rfl) (k:X.code f=some pf:=by exact rfl) (j:Nat.ble args.length pf.ntmps=true:=by exact rfl): ∃a,D X (.fn (.func f) [] []) args ⟨H,lo⟩=some a/\R a:=apD pf g k j h
def fB{X:Ctx}(pf:PF){args cap:lA}{H:List ae}{a:aU}
 (h: ∀n,H.length=n->wp X f false pf.body ⟨dq (args++cap),[]⟩ ⟨H,none⟩ (dW X n lo pf.results (· =a))) (g:X.bW f=none:=by exact rfl) (k:X.code f=some pf:=by exact rfl) (j:Nat.ble (args++cap).length pf.ntmps=true:=by exact rfl):D X (.fn (.func f) [] cap) args ⟨H,lo⟩=some a:=apK pf g k j h
section
variable{P:Program}{X:Ctx}{B:Nat}{ay:World}{dg:List Deferred}
section
variable{C:bz}(hC:fS P B ay C)(hg:fH X B ay){r:oN}{n nt:Nat}{rows:Bool}
include hC hg
theorem OH{c:Array Oper}(k:lN): ∀ (os:List Oper) (is:lN) (l:List aR),is.map (c[·]?)=os.map some->ll P rows c os=some l->(∀x∈l,∀d,x.dst=some d->d<nt)->
  ∀ (G:Gh) (E:AS) (w:World) (fr:Fr) (a:Act) (res:Ex×Fr×AS) (Q:Exit->Act->World->Prop),aX P B ay G E w->cK G nt fr.env a.tmps->gI dg G fr.marks a.defers->fj X C l fr E=some res->
  (∀a w,res.1= .normal->m4 P B ay dg G E nt res .normal a w->wpOpsIn (W r) n P c Q k a w)->(∀e a w,res.1≠ .normal->m4 P B ay dg G E nt res e a w->Q e a w)->wpOpsIn (W r) n P c Q (is++k) a w
 | [],is,l,q,p,s,G,E,w,fr,a,res,Q,hw,he,hm,j,A,z=>by
   have:is=[]:=by simp_all
   subst this;simp only[ll,adT]at p;subst p;simp only[fj,adT]at j;subst j;exact A _ _ rfl ⟨G,G.le_refl,hw,he,hm,.refl E,trivial⟩
 |o::os,is,l,q,p,s,G,E,w,fr,a,res,Q,hw,he,hm,j,A,z=>by
  cases is with
  |nil=>grind
  |cons i is=>
   simp only[ak9,aAx]at q;obtain⟨H,q⟩:=q;simp only[ll]at p;split at p
   ·rename_i x xs g t;cases p;simp only[ahq,wpOpsIn,H];have I:guardOf c o=some x.g:=by
     unfold iN at g;split at g
     ·rename_i J;cases g;exact J
     ·cases g
    have u:x.dst=o.dst:=by
     unfold iN at g;split at g
     ·cases g;rfl
     ·cases g
    have F:=yO he I;simp only[fj]at j;rw[F];split at j
    ·rename_i m;rw[adY m];split at j
     ·rename_i v N hex;refine yP hC hg g (s x (by simp)) hw he hm hex (λb f e Y a' w' M J K U T=>?_) (λb f e=>by cases e);cases e;exact OH k os is xs q t (λy D=>s y (by simp[D])) Y N w' _ a' res Q J U T j (λa w e h=>A a w e (h.trans M K)) (λe a w V h=>z e a w V (h.trans M K))
     ·rename_i v N hex;cases j;exact yP hC hg g (s x (by simp)) hw he hm hex (λb f e=>by cases e) (λb f e Z a' w' h=>by cases e;exact z _ _ _ (by simp) h)
     ·cases j
    ·rename_i m;rw[adU m];refine⟨λ_ _=>trivial,?_⟩;obtain⟨S,R,O⟩:=qZ (a:=a) he (s x (by simp)) (v:=.undef) (v':=undef) yN;rw[<-u];exact OH k os is xs q t (λy D=>s y (by simp[D])) G E w _ _ res Q hw S (by rw[R,O];exact hm) j A z
   grind
end
structure w9 where
 dst:Nat
 pf:PF
 deriving Inhabited
def ac7(o:Oper):Bool:=match o.op with
 |.call c=>match c.callee,c.args.toList,o.guard with
  |.builtin .recover,[],none=>true
  |_,_,_=>false
 |_=>false
def OI(o:Oper):Bool:=match o.op,o.guard with
 |.move _,none=>true
 |.assign _,none=>true
 |_,_=>false
def ac8(P:Program)(rows:Bool)(nt:Nat):Code->Option (Nat×PC)
 |.seq (.region _ ops false) b=>match ops.toList with
  |o::os=>match o.dst,ll P rows ops os,fk P rows nt b with
   |some d,some xs,some a=>if ac7 o=true/\os.all OI=true/\d<nt/\xs.all (λx=>match x.dst with|some d=>d<nt|none=>true)then some (d,.seq (.aO xs) a)else none
   |_,_,_=>none
  | []=>none
 |_=>none
def Bj(P:Program)(rows:Bool)(fn:Func):Option w9:=
 match fn.body with
 |some c=>match ac8 P rows fn.ntmps c,pT P fn.results.toList with
  |some (d,b),some rs=>if(fn.name != "runtime.NumGoroutine")then some ⟨d,{ntmps:=fn.ntmps,results:=rs,body:=b}⟩else none
  |_,_=>none
 |none=>none
noncomputable def Ip(X:Ctx)(C:bz)(L:eL)(g:FuncId)(pr:w9)(args:lA)(rv:AV)(E:AS):Option AS:=
 if args.length<=pr.pf.ntmps then
  match bc X C L g false pr.pf.body {env:=(dq args).set pr.dst rv,marks:=[]} {E with lo:=none}with
  |some (.normal,⟨e,[]⟩,a)=>(fQ X a e pr.pf.results).map λv=>(finish E.heap.length E.lo v a).2
  |some (.ret,⟨e,[]⟩,a)=>(fQ X a e pr.pf.results).map λv=>(finish E.heap.length E.lo v a).2
  |_=>none
 else none
def ac9(G:Gh)(u:FrameMode)(rv:AV):Prop:=
 (u= .returning/\rv= .eX)\/ ∃v',u= .panicking [{v:=v',recovered:=false}]/\an G rv v'
section
variable{C:bz}(hC:fS P B ay C)(hg:fH X B ay)(hX:pV P X)(gT:A2 P X B ay){L:eL}(hL:yS L)
include hC hg hX gT hL
omit hC hg hX gT hL in
theorem ada{n nt:Nat}{rows:Bool}{b:Array Oper}{cs:List Frame}: ∀ (os:List Oper) (is:lN) (l:List aR),is.map (b[·]?)=os.map some->ll P rows b os=some l->os.all OI=true->(∀x∈l,∀d,x.dst=some d->d<nt)->
  ∀ (G:Gh) (E:AS) (w:World) (fr:Fr) (a:Act) (Q:Exit->Act->List Frame->World->Prop) (res:Ex×Fr×AS),aX P B ay G E w->cK G nt fr.env a.tmps->gI [] G fr.marks a.defers->fj X C l fr E=some res->
  (∀a' m,res=(.normal,m,E)->cK G nt m.env a'.tmps->gI [] G m.marks a'.defers->Q .normal a' cs w)->wpOpsSIn (W none) n P b Q is a cs w
 | [],is,l,k,h,_,J,G,E,w,fr,a,Q,res,hw,he,hm,q,K=>by
   have:is=[]:=by simpa using k
   subst this;simp only[ll,adT]at h;subst h;simp only[fj,adT]at q;exact K a fr q.symm he hm
 |o::os,is,l,k,h,e,J,G,E,w,fr,a,Q,res,hw,he,hm,q,K=>by
  cases is with
  |nil=>simp at k
  |cons i is=>
   simp only[ak9,aAx]at k;obtain⟨I,k⟩:=k;simp only[axE,ag9]at e;obtain⟨j,e⟩:=e;simp only[ll]at h;split at h
   ·rename_i x xs c D;cases h;have s: (∃z,(o.op= .move z\/o.op= .assign z))/\o.guard=none:=by
     unfold OI at j;split at j
     ·rename_i z v u;exact⟨⟨_,.inl v⟩,u⟩
     ·rename_i z v u;exact⟨⟨_,.inr v⟩,u⟩
     ·cases j
    obtain⟨⟨z,f⟩,t⟩:=s;have F: ∃y,bK z=some y/\x={g:=none,dst:=o.dst,i:=.mov y}:=by
     unfold iN at c;have v:guardOf b o=some none:=by unfold guardOf;rw[t]
     rw[v]at c;have u:lk P rows o=(bK z).map .mov:=by
      rcases f with f|f<;>simp only[lk,f]
     rw[u]at c;cases A:bK z with
     |none=>rw[A]at c;cases c
     |some y=>rw[A]at c;cases c;exact⟨y,rfl,rfl⟩
    obtain⟨y,A,rfl⟩:=F;have p: (execOp a.eval o).run P w= .ok (.value (a.eval z)) w:=by
     rcases f with f|f<;>(unfold execOp;simp only[f];rfl)
    simp only[wpOpsSIn,I];have H:Region.wanted o (yielded b a.tmps)=true:=by simp[Region.wanted,t]
    rw[adY H,p];refine⟨λ_ _=>trivial,?_⟩;simp only[fj,gn,ag6,exec]at q;obtain⟨O,N,M⟩:=qZ (a:=a) (dst:=o.dst) he (J {g:=none,dst:=o.dst,i:=.mov y} (by simp)) (cz he A);exact ada os is xs k D e (λx c=>J x (by simp[c])) G E w _ _ Q res hw O (by rw[N,M];exact hm) q K
   ·cases h
theorem apM{g:FuncId}{fn:Func}{pr:w9}{rows:Bool}(hfn:P.funcs[g]?=some fn)(q:Bj P rows fn=some pr){args:lA}{E f:AS}{rv:AV}
  (h:Ip X C L g pr args rv E=some f) {G:Gh}  {a:Array Value} (hw:aX P B ay G E w) (hl:aF G args a.toList) {u:FrameMode} (hu:ac9 G u rv):
  CallsDIn (W none) n P g a u w (λe A w'=>settle A= .returning/\ ∃v K,e= .returned v/\G.le K/\aX P B ay K f w'/\E.Ext f):=by
 unfold Bj at q;split at q
 case h_2=>grind
 rename_i c hb;split at q
 case h_2=>grind
 rename_i d b rs p DT;split at q
 case isFalse=>grind
 cases q;unfold ac8 at p;split at p
 case h_2=>cases p
 rename_i id ops b';split at p
 case h_2=>cases p
 rename_i o os y;split at p
 case h_2=>cases p
 rename_i d' xs pb OJ xa hpb;split at p
 case isFalse=>cases p
 rename_i U;cases p;obtain⟨I,hmv,hdn,y9⟩:=U;unfold Ip at h;split at h
 case isFalse=>cases h
 rename_i z;simp only at z h;cases H:bc X C L g false (.seq (.aO xs) pb) {env:=(dq args).set d rv,marks:=[]} {E with lo:=none}with
 |none=>rw[H]at h;cases h
 |some res=>
 have k:=H;simp only[bc]at k;cases s:fj X C xs {env:=(dq args).set d rv,marks:=[]} {E with lo:=none}with
 |none=>rw[s]at k;cases k
 |some Y=>
 rw[s]at k;refine callsDIn_of_wpSIn hfn hb trivial λl cs T=>?_
 refine wpSIn_seq (wpSIn_region ?_);have aCC:0<ops.size:=by rw[<-amj,y];simp
 have M:List.range ops.size=0:: (List.range' 1 (ops.size-1)):=by
  rw[aAA,show ops.size=(ops.size-1)+1 by omega,List.range'_succ];simp
 have h0:ops[0]?=some o:=by rw[<-ap9,y];rfl
 rw[M];simp only[wpOpsSIn,h0];have apR: (∃c,o.op= .call c/\c.callee= .builtin .recover/\c.args.toList=[])/\o.guard=none:=by
  unfold ac7 at I;split at I
  ·rename_i c R;split at I
   ·rename_i h1 h2 h3;exact⟨⟨c,R,h1,h2⟩,h3⟩
   ·cases I
  ·cases I
 obtain⟨⟨cc,R,OK,aCD⟩,gd⟩:=apR;have OM: ∀t:Array Value,Region.wanted o (yielded ops t)=true:=λt=>by simp[Region.wanted,gd]
 have S: ∀ρ,(execOp ρ o).run P w= .ok .recover w:=by
  intro ρ;unfold execOp;simp only[R,resolve,OK];simp[invoke,builtin]
 rw[adY (OM _),S];refine⟨λ_ _=>trivial,?_⟩;have he0:cK G fn.ntmps (dq args) (a++Array.replicate (fn.ntmps-a.size) undef):=Hz hl z;have ON: (List.range' 1 (ops.size-1)).map (ops[·]?)=os.map some:=by
  apply anZ;intro j;have hos:os.length=ops.size-1:=by
   have:ops.toList.length=os.length+1:=by rw[y];rfl
   rw[amj]at this;omega
  by_cases hj:j<os.length
  ·have e1: (List.range' 1 (ops.size-1))[j]?=some (1+j):=by
     rw[List.getElem?_range' (by omega)];simp
   simp only[afU,e1,afG,aep hj];rw[<-ap9,y,Nat.add_comm,axW,aep hj]
  ·rw[alG (by simp;omega),alG (by simp;omega)]
 have apT: ∀x∈xs,∀d,x.dst=some d->d<fn.ntmps:=by
  intro x hx d Z;have:=afP.1 y9 x hx;rw[Z]at this;simpa using this
 have key: ∀ (v':Value) (N:List Frame) (A:FrameMode),an G rv v'->settle A= .returning->N={l with mode:=A}::cs->
   wpOpsSIn (W none) n P ops (Exit.thenS (b'.wpSIn (W none) n P (bodyPostS P fn l cs (λe A w'=>settle A= .returning/\ ∃v K,e= .returned v/\G.le K/\aX P B ay K f w'/\E.Ext f))) (bodyPostS P fn l cs (λe A w'=>settle A= .returning/\ ∃v K,e= .returned v/\G.le K/\aX P B ay K f w'/\E.Ext f)))
    (List.range' 1 (ops.size-1)) (Act.put {tmps:=a++Array.replicate (fn.ntmps-a.size) undef,defers:=[]} o.dst v') N w:=by
  intro v' N A hv O yL;rw[OJ];have he1:cK G fn.ntmps ((dq args).set d rv) (Act.put {tmps:=a++Array.replicate (fn.ntmps-a.size) undef,defers:=[]} (some d) v').tmps:=he0.set hdn hv;refine ada os _ xs ON xa hmv apT G {E with lo:=none} w {env:=(dq args).set d rv,marks:=[]} _ _ Y (hw.lo none) he1 rfl s (λa1 Iq Q he2 hm2=>?_);subst Q;simp only at k;simp only[Exit.thenS];refine wpSIn_of_wpIn rfl (wV hC hg hX gT hL (r:=none) rfl b' pb hpb G {E with lo:=none} w Iq a1 res _ (hw.lo none) he2 hm2 k (λe a2 w2 apX=>?_));obtain⟨G2,q1,q2,q3,q4,q5,q6⟩:=apX;obtain⟨ex,⟨e2,ms⟩,V⟩:=res;rw[H]at h;have fin:ms=[]->(∃v,fQ X V e2 rs=some v/\ (finish E.heap.length E.lo v V).2=f)->(e= .normal\/e= .ret)->bodyPostS P fn l cs (λe A w'=>settle A= .returning/\ ∃v K,e= .returned v/\G.le K/\aX P B ay K f w'/\E.Ext f) e a2 N w2:=by
   intro hms ⟨v,F,D⟩ hee;subst hms;obtain⟨v2,r1,r2⟩:=Dt hg q2 q3 DT F;obtain⟨G3,p1,p2,p3,p4⟩:=yM hw q1 q2 q5 r2;rw[D]at p2 p4;have hd2:a2.defers=[]:=q4;rcases hee with rfl|rfl
   ·exact⟨hd2,A,yL,v2,r1,O,v2,G3,rfl,p1,p2,p4⟩
   ·exact⟨hd2,A,yL,v2,r1,O,v2,G3,rfl,p1,p2,p4⟩
  cases ex with
  |normal=>
   cases ms with
   |cons m ms=>cases h
   |nil=>
    obtain⟨v,F,D⟩:=afF.1 h;cases e<;>simp[gb]at q6;exact fin rfl ⟨v,F,D⟩ (.inl rfl)
  |ret=>
   cases ms with
   |cons m ms=>cases h
   |nil=>
    obtain⟨v,F,D⟩:=afF.1 h;cases e<;>simp[gb]at q6;exact fin rfl ⟨v,F,D⟩ (.inr rfl)
  |exit i=>cases h
  |panic v=>cases h
 rcases hu with⟨rfl,rfl⟩| ⟨v',rfl,hv⟩
 ·have J:recoverD (l::cs)=none:=by simp[recoverD,T]
  simp only[J];refine key .nilIface (l::cs) .returning (by simp[an]) rfl ?_;rw[<-T]
 ·have J:recoverD (l::cs)=some (v',{l with mode:=.panicking [{v:=v',recovered:=true}]}::cs):=by simp[recoverD,T]
  simp only[J];exact key v' _ _ hv rfl rfl
end
end
section
variable{P:Program}{X:Ctx}{B:Nat}{ay:World}{dg:List Deferred}
inductive DU where
 |here(ops:List aR)(lC:ao)(fJ:List ao)(rest:PC)
 |later(pre:PC)(d:DU)
 deriving Inhabited
structure vH where
 ntmps:Nat
 results:List RV
 body:DU
 deriving Inhabited
def ade(P:Program)(rows:Bool)(nt:Nat):Code->Option (List aR×ao×List ao)
 |.region _ ops false=>match ops.toList.getLast? with
  |some o=>match o.op,o.guard,o.dst with
   |.defer c,none,none=>match c.callee with
    |.value f=>match ll P rows ops ops.toList.dropLast,bK f,oz c.args.toList with
     |some xs,some a,some as=>if xs.all (λx=>match x.dst with|some d=>d<nt|none=>true)then some (xs,a,as)else none
     |_,_,_=>none
    |_=>none
   |_,_,_=>none
  |none=>none
 |_=>none
def DV(P:Program)(rows:Bool)(nt:Nat):Code->Option DU
 |.seq a b=>match ade P rows nt a with
  |some (xs,f,as)=>(fk P rows nt b).map (.here xs f as)
  |none=>match fk P rows nt a,DV P rows nt b with
   |some d,some c=>some (.later d c)
   |_,_=>none
 |_=>none
def Bk(P:Program)(rows:Bool)(fn:Func):Option vH:=
 match fn.body with
 |some c=>match DV P rows fn.ntmps c,pT P fn.results.toList with
  |some b,some rs=>if(fn.name != "runtime.NumGoroutine")then some {ntmps:=fn.ntmps,results:=rs,body:=b}else none
  |_,_=>none
 |none=>none
def AV.Ir:AV->Bool
 |.fn .. =>true
 |_=>false
noncomputable def xb(X:Ctx)(C:bz)(L:eL)(bR:FuncId):DU->Fr->AS->Option (Option (AV×lA)×(Ex×Fr×AS))
 |.here ops a c rest,fr,E=>match fj X C ops fr E with
  |some (.normal,⟨e,[]⟩,f)=>if(a.get e).Ir then(bc X C L bR false rest ⟨e,[]⟩ f).map λr=>(some (a.get e,c.map (·.get e)),r)else none
  |some (.normal,_,_)=>none
  |some r=>some (none,r)
  |none=>none
 |.later pre d,fr,E=>match bc X C L bR false pre fr E with
  |some (.normal,b,f)=>xb X C L bR d b f
  |some r=>some (none,r)
  |none=>none
abbrev pZ:=FuncId->Option w9
noncomputable def Bl(X:Ctx)(C:bz)(L:eL)(R:pZ)(b:AV)(a:lA)(rv:AV)(E:AS):Option AS:=
 match b with
 |.fn (.func g) first cap=>(R g).bind λpr=>Ip X C L g pr (first++a++cap) rv E
 |_=>none
def Ex.OO:Ex->Option AV
 |.normal=>some .eX
 |.ret=>some .eX
 |.panic v=>some v
 |.exit _=>none
noncomputable def OP(X:Ctx)(C:bz)(L:eL)(R:pZ)(n:Nat)(dS:oN)(c:vH):Option (Option (AV×lA)×(Ex×Fr×AS))->Option aU
 |some (none,r)=>leave X n dS {ntmps:=c.ntmps,results:=c.results,body:=.skip} (some r)
 |some (some (tv,d),(ex,fr,E))=>match ex.OO,dU E fr.marks with
  |some rv,some b=>(Bl X C L R tv d rv b).bind λa=>(fQ X a fr.env c.results).map λv=>.ret (finish n dS v a).1 (finish n dS v a).2
  |_,_=>none
 |none=>none
noncomputable def xc(X:Ctx)(C:bz)(L:eL)(R:pZ)(f:FuncId)(a:vH)(args:lA)(E:AS):Option aU:=
 if args.length<=a.ntmps then OP X C L R E.heap.length E.lo a (xb X C L f a.body {env:=dq args,marks:=[]} {E with lo:=none})else none
def OQ(P:Program)(R:pZ):Prop:= ∀g pr,R g=some pr-> ∃rows fn,P.funcs[g]?=some fn/\Bj P rows fn=some pr
section
variable{C:bz}(hC:fS P B ay C)(hg:fH X B ay)(hX:pV P X)(gT:A2 P X B ay){L:eL}(hL:yS L)
include hC hg hX gT hL
theorem ap0{rows:Bool}{nt:Nat}{bR:FuncId}: ∀ (c:Code) (pd:DU),DV P rows nt c=some pd->
  ∀ (G:Gh) (E:AS) (w:World) (fr:Fr) (a:Act) (O:Option (AV×lA)) (r:Ex×Fr×AS) (Q:Exit->Act->World->Prop),aX P B ay G E w->cK G nt fr.env a.tmps->gI [] G fr.marks a.defers->xb X C L bR pd fr E=some (O,r)->
  (O=none-> ∀e a w,m4 P B ay [] G E nt r e a w->Q e a w)->
  (∀tv J,O=some (tv,J)-> ∀A s G1,G.le G1->an G1 tv A->aF G1 J s.toList-> ∀d,(∀w:World,(Deferred.ofValue A s).run P w= .ok d w)-> ∀e a w,m4 P B ay [d] G1 E nt r e a w->Q e a w)->c.wpIn (W none) n P Q a w:=by
 intro c
 induction c with
 |seq x y ihx ihy=>
  intro pd h G E w fr a O r Q hw he hm i hN hD;rw[DV]at h;split at h
  ·rename_i xs f' as g;obtain⟨rest,M,rfl⟩:=afF.1 h;unfold ade at g;split at g
   case h_2=>cases g
   rename_i id ops;split at g
   case h_2=>cases g
   rename_i o v;split at g
   case h_2=>cases g
   rename_i cc pX gd OJ;split at g
   case h_2=>cases g
   rename_i fop OK;split at g
   case h_2=>cases g
   rename_i xs' f'' Hy xa hfo has;split at g
   case isFalse=>cases g
   rename_i vD;cases g;have hd: ∀x∈xs,∀d,x.dst=some d->d<nt:=by
    intro x hx d y9;have:=afP.1 vD x hx;rw[y9]at this;simpa using this
   have q:ops.toList=ops.toList.dropLast++[o]:=by
    rw[List.getLast?_eq_some_iff]at v;obtain⟨ys,OR⟩:=v;rw[OR];simp
   have sH:ops.size=ops.toList.dropLast.length+1:=by
    rw[<-amj];conv=>lhs;rw[q]
    simp
   have D:List.range ops.size=List.range (ops.size-1)++[ops.size-1]:=by
    conv=>lhs;rw[show ops.size=(ops.size-1)+1 by omega,aog]
   have ON: (List.range (ops.size-1)).map (ops[·]?)=ops.toList.dropLast.map some:=by
    apply anZ;intro j;by_cases hj:j<ops.toList.dropLast.length
    ·have e1: (List.range (ops.size-1))[j]?=some j:=by rw[apW (by omega)]
     simp only[afU,e1,afG,aep hj];rw[<-ap9]
     conv=>lhs;rw[q]
     rw[adf hj,aep hj]
    ·rw[alG (by simp;simp at hj;omega),alG (by simpa using hj)]
   have H:ops[ops.size-1]?=some o:=by
    rw[<-ap9]
    conv=>lhs;rw[q]
    rw[afJ (by omega)];rw[show ops.size-1-ops.toList.dropLast.length=0 by omega];rfl
   refine aAR (wpIn_region ?_);rw[D];simp only[xb]at i;cases b:fj X C xs fr E with
   |none=>rw[b]at i;cases i
   |some k=>
   refine OH hC hg [ops.size-1] _ _ xs ON xa hd G E w fr a k _ hw he hm b (λl w1 F f=>?_) (λe l w1 F f=>?_)
   ·obtain⟨ex,⟨e1,ms⟩,t⟩:=k;simp only at F;subst F;obtain⟨G1,q1,q2,S,q4,q5,q6⟩:=f;rw[b]at i;cases ms with
    |cons m ms=>cases i
    |nil=>
    simp only at i;split at i
    case isFalse=>cases i
    rename_i z;obtain⟨r',OS,sQ⟩:=afF.1 i;cases sQ;have OT:l.defers=[]:=q4;have ap3:=yB S has;have I:=cz S hfo;simp only[wpOpsIn,H];have OM:Region.wanted o (yielded ops l.tmps)=true:=by simp[Region.wanted,gd]
    rw[adY OM];refine⟨λ_ _=>trivial,?_⟩;have DB:o.semAt (W none).round l.eval=execOp l.eval o:=Oper.semAt_none _ _;rw[DB];have ap4: ∀d,(∀w:World,(Deferred.ofValue (l.eval fop) (cc.args.map l.eval)).run P w= .ok d w)->(execOp l.eval o).run P w1= .ok (.defer d) w1:=by
     intro d u;unfold execOp;simp only[pX,resolve,OK];rw[Sem.run_bind,u w1];rfl
    have ap5: ∃d,∀w:World,(Deferred.ofValue (l.eval fop) (cc.args.map l.eval)).run P w= .ok d w:=by
     cases htv:f'.get e1<;>rw[htv]at z<;>simp only[AV.Ir,afE]at z;rw[htv]at I;simp only[an]at I;obtain⟨f0,fs0,OU,hfe,_⟩:=I;rw[hfe];exact⟨_,λw=>rfl⟩
    obtain⟨d,u⟩:=ap5;rw[ap4 d u];simp only[Oper.uponIn,OJ,Act.put,OT];refine wV hC hg hX gT hL (r:=none) (dg:=[d]) rfl y rest M G1 t w1 ⟨e1,[]⟩ {l with defers:=[d]} r _ q2 S rfl OS (λe a2 R p=>?_);refine hD _ _ rfl _ _ G1 q1 I (by simpa using ap3) d u e a2 R ?_;obtain⟨G2,Z,Y,V,U,T,K⟩:=p;exact⟨G2,Z,Y,V,U,q5.trans T,K⟩
   ·rw[b]at i;obtain⟨ex,⟨e1,ms⟩,t⟩:=k;have N:some (none,(ex,⟨e1,ms⟩,t))=some (O,r):=by
     cases ex with
     |normal=>exact absurd rfl F
     |_=>exact i
    cases N;have N:=hN rfl e l w1 f;obtain⟨G2,Z,Y,V,U,T,K⟩:=f;cases e<;>first|exact N| (exfalso;cases ex<;>simp[gb]at K;exact F rfl)
  ·split at h
   ·rename_i px pd' hx hy;cases h;simp only[xb]at i;cases b:bc X C L bR false px fr E with
    |none=>rw[b]at i;cases i
    |some k=>
    rw[b]at i;obtain⟨ex,Iq,t⟩:=k;by_cases F:ex= .normal
    ·subst F;simp only at i;refine aAR (wV hC hg hX gT hL (r:=none) rfl x px hx G E w fr a _ _ hw he hm b (λe l w1 f=>?_));obtain⟨G1,q1,q2,S,q4,q5,q6⟩:=f;cases e<;>simp[gb]at q6;refine ihy pd' hy G1 t w1 Iq l O r Q q2 S q4 i (λap8 e a2 R hh=>hN ap8 e a2 R (hh.trans q1 q5)) (λtv J u A s G2 hG2 hv hl d hd e a2 R p=>?_);refine hD tv J u A s G2 (Gh.le_trans q1 hG2) hv hl d hd e a2 R ?_;obtain⟨G3,Z,Y,V,U,T,K⟩:=p;exact⟨G3,Z,Y,V,U,q5.trans T,K⟩
    ·have N:some (none,(ex,Iq,t))=some (O,r):=by
       cases ex with
       |normal=>exact absurd rfl F
       |_=>exact i
     cases N;refine aAR (wV hC hg hX gT hL (r:=none) rfl x px hx G E w fr a _ _ hw he hm b (λe l w1 f=>?_));have N:=hN rfl e l w1 f;obtain⟨G2,Z,Y,V,U,T,K⟩:=f;cases e<;>first|exact N| (exfalso;cases ex<;>simp[gb]at K;exact F rfl)
   ·cases h
 |_=>intro pd h;simp[DV]at h
omit hC hX gT hL in
theorem aqa{fn:Func}{G:Gh}{E:AS}{w':World}{r:Ex×Fr×AS}{k:aU}{e:Exit}{a:Act}(g:pT P fn.results.toList=some pf.results)(y:aX P B ay G E w)
  (h:leave X E.heap.length E.lo pf (some r)=some k) (F:m4 P B ay [] G {heap:=E.heap,lo:=none} fn.ntmps r e a w'):bodyPostM (W none) 0 P fn (Ends P B ay G E k) e a w':=by
 obtain⟨H,x,u,A,t,s,j⟩:=F;obtain⟨ex,fr,q⟩:=r;have f:qW X E.heap.length E.lo pf fr q=some k->LeavesInM (W none) 0 P fn a.tmps (Ends P B ay G E k) a.defers .returning w':=by
  intro h;unfold qW at h;split at h
  ·rename_i d i;split at h
   ·rename_i v D;cases h;refine yY (by simp) fr.marks a.defers q d w' t u i (λl b=>?_);obtain⟨v',e1,z⟩:=Dt hg b A g D;refine⟨v',e1,?_⟩;obtain⟨c,p,o,n,m⟩:=yM y x b (s.trans (yT _ _ _ i)) z;exact⟨c,p,o,n,m⟩
   ·cases h
  ·cases h
 cases ex with
 |normal=>cases e<;>simp[gb]at j;exact f h
 |ret=>cases e<;>simp[gb]at j;exact f h
 |exit id=>simp[leave]at h
 |panic v=>
  cases e<;>simp[gb]at j;rename_i chain;obtain⟨v',rfl,rv⟩:=j;simp only[leave]at h;split at h
  ·rename_i d i;cases h;refine yY (by simp) fr.marks a.defers q d w' t u i (λl b=>?_);obtain⟨c,p,o,n,m⟩:=yM y x b (s.trans (yT _ _ _ i)) rv;exact⟨c,v',rfl,p,o,n,m⟩
  ·cases h
theorem aqb{R:pZ}(hR:OQ P R){fn:Func}{pd:vH}{rows:Bool}(O:P.funcs[f]?=some fn)(n:Bk P rows fn=some pd):gJ P B ay f (xc X C L R f pd):=by
 intro args E cr h G w l hw hl;unfold Bk at n;split at n
 case h_2=>grind
 rename_i c hb;split at n
 case h_2=>grind
 rename_i bd rs D y;split at n
 case isFalse=>grind
 rename_i aCJ;cases n;unfold xc at h;split at h
 case isFalse=>cases h
 rename_i q;simp only at q h;have x: ¬fn.name= "runtime.NumGoroutine" :=by grind
 have Q: (callFunc f l).run P w= .ok (.enter f l) w:=by
  simp[callFunc,aqv,O,x,hb]
 rw[Q];show CallsIn (W none) 0 P f l w _;have he:cK G fn.ntmps (dq args) (l++Array.replicate (fn.ntmps-l.size) undef):=Hz hl q;cases t:xb X C L f bd {env:=dq args,marks:=[]} {E with lo:=none}with
 |none=>rw[t]at h;cases h
 |some res=>
 obtain⟨dr,r⟩:=res;rw[t]at h;refine ayX O hb trivial (ap0 hC hg hX gT hL c bd D G {E with lo:=none} w {env:=dq args,marks:=[]} _ dr r _ (hw.lo none) he rfl t ?_ ?_) rfl
 ·rintro rfl e a w' hr;exact aqa hg (pf:={ntmps:=fn.ntmps,results:=rs,body:=.skip}) y hw h hr
 ·rintro tv T rfl tv' m G1 hG1 hv hld d hd e a w' ⟨G',Y,q2,q3,q4,q5,V⟩;obtain⟨ex,fr,I⟩:=r;simp only[OP]at h;have ai: ∀ (rv:AV) (j:AS) (u:FrameMode),dU I fr.marks=some j->ac9 G' u rv->u≠ .run->
    ((Bl X C L R tv T rv j).bind λs=>(fQ X s fr.env rs).map λv=>aU.ret (finish E.heap.length E.lo v s).1 (finish E.heap.length E.lo v s).2)=some cr->
    LeavesInM (W none) 0 P fn a.tmps (Ends P B ay G E cr) a.defers u w':=by
   intro rv j u o A hu DW;refine yY hu fr.marks a.defers I j w' q4 q2 o (λw'' J=>?_);obtain⟨s,p,N⟩:=anY.1 DW;obtain⟨v,hv1,rfl⟩:=afF.1 N;unfold Bl at p;split at p
   case h_2=>cases p
   rename_i g first cap
   obtain⟨pr,hpr,sQ⟩:=anY.1 p;obtain⟨an9,S,z,b⟩:=hR g pr hpr;have hgb: ∃Z,S.body=some Z/\ ¬S.name= "runtime.NumGoroutine" :=by
    unfold Bj at b;split at b
    case h_2=>cases b
    rename_i Z F;split at b
    case h_2=>cases b
    split at b
    case isFalse=>cases b
    rename_i hn;exact⟨Z,F,by simpa using hn⟩
   obtain⟨Z,F,hgn⟩:=hgb;have K:=hv;simp only[an,nC]at K;obtain⟨f',i,k,rfl,rfl,hf,hc⟩:=K;have y7:d={target:=.fn (.func g) k,args:=i++m}:=by
    have h1:=hd w;have h2: (Deferred.ofValue (.func (.func g) i k) m).run P w= .ok {target:=.fn (.func g) k,args:=i++m} w:=rfl;rw[h2]at h1;simpa using h1.symm
   subst y7;have H:aF G' (first++T++cap) (i++m++k).toList:=by
    simp only[Array.toList_append];exact((hf.mono Y).append (hld.mono Y)).append (hc.mono Y)
   refine⟨hu,.inr ⟨λh=>by simp[W]at h,.func g,k,g,i++m++k,rfl,?_,λ_ _=>trivial,?_⟩⟩
   ·show(callFunc g (i++m++k)).run P w''=_;simp[callFunc,aqv,z,hgn,F]
   ·refine(apM hC hg hX gT hL z b sQ J H A).mono ?_;rintro e2 u2 w3 ⟨M,v3,G3,rfl,g1,g2,g3⟩;show LeavesInM (W none) 0 P fn a.tmps _ [] (settle u2) w3;rw[M];obtain⟨v',e1,r1⟩:=Dt hg g2 (q3.mono g1) y hv1;refine⟨v',e1,?_⟩;obtain⟨U,p1,p2,p3,p4⟩:=yM hw (Gh.le_trans hG1 (Gh.le_trans Y g1)) g2 ((q5.trans (yT _ _ _ o)).trans g3) r1;exact⟨U,p1,p2,p3,p4⟩
  cases ex with
  |normal=>
   cases e<;>simp[gb]at V;cases o:dU I fr.marks with
   |none=>rw[o]at h;cases h
   |some j=>rw[o]at h;exact ai .eX j .returning o (.inl ⟨rfl,rfl⟩) (by simp) h
  |ret=>
   cases e<;>simp[gb]at V;cases o:dU I fr.marks with
   |none=>rw[o]at h;cases h
   |some j=>rw[o]at h;exact ai .eX j .returning o (.inl ⟨rfl,rfl⟩) (by simp) h
  |exit id=>
   cases o:dU I fr.marks<;>rw[o]at h<;>cases h
  |panic v=>
   cases e<;>simp[gb]at V;obtain⟨v',rfl,rv⟩:=V;cases o:dU I fr.marks with
   |none=>rw[o]at h;cases h
   |some j=>rw[o]at h;exact ai v j (.panicking [{v:=v',recovered:=false}]) o (.inr ⟨v',rfl,rv⟩) (by simp) h
end
def adh:yS Lw:=λ_ _ _ _ h=>DM h
def OV(hg:fH X B ay)(hX:pV P X)(e: ∀f p,X.bW f=some p->gJ P B ay f p){R:pZ}(d:OQ P R){fn:Func}{c:vH}{rows:Bool}(b:P.funcs[f]?=some fn)(a:Bk P rows fn=some c):
 gJ P B ay f (xc X (D X) Lw R f c):=aqb (Od hg hX e) hg hX (NW hg) adh d b a
end
def aQ(N:Nat)(H:List ae)(v:AV)(sz:Nat)(ty:TypeId)(af:List lA):Prop:=
 (∀el∈af,el.length=sz)/\ ((v= .aq/\af=[])\/ ∃id ak,N<=id/\v= .ref id ak sz 0 af.length false/\H[id]?=some (.row ak sz ty af))
def bu(v:AV)(af:List lA):AV:=match v with
 |.aq=>.aq
 |_=>.sl af false
section
variable{N:Nat}{H H':List ae}{v:AV}{sz bytes:Nat}{ty:TypeId}{af ys:List lA}{lo:oN}
theorem aQ.aq:aQ N H .aq sz ty []:=⟨by simp,.inl ⟨rfl,rfl⟩⟩
def aQ.mono(h:aQ N H v sz ty af)(b:H<+:H'):aQ N H' v sz ty af:=by
 obtain⟨c,a⟩:=h;refine⟨c,?_⟩;rcases a with a| ⟨id,ak,f,d,e⟩
 ·grind
 ·obtain⟨L,rfl⟩:=b
  grind
def aQ.ext{L:List ae}(h:aQ N H v sz ty af):aQ N (H++L) v sz ty af:=h.mono (aqx _ _)
def aQ.rd(h:aQ N H v sz ty af):Rd ⟨H,lo⟩ v sz af:=by
 obtain⟨c,b⟩:=h;rcases b with⟨rfl,rfl⟩| ⟨id,ak,d,rfl,a⟩
 ·exact .aq
 ·refine⟨trivial,?_,c⟩;simp only[elems,a,aAz]
  grind
def aqj{H0:List ae}{id:Nat}{o:ae}(a:H0<+:H)(b:H0.length<=id):H0<+:H.set id o:=by
 obtain⟨L,rfl⟩:=a
 grind
def aQ.append{H0:List ae}(h:aQ N H v sz ty af)(b:H0<+:H)(o:H0.length=N)(i:0<sz)(k: ∀el∈ys,el.length=sz)(l:b9 ys=0)(f: (af.length+ys.length)*bytes<=room):
  ∃v' H',dJ ⟨H,lo⟩ ty sz bytes v ys=some (v',⟨H',lo⟩)/\aQ N H' v' sz ty (af++ys)/\H0<+:H'/\H.length<=H'.length/\ (∀id,id<N->H'[id]?=H[id]?):=by
 have e:0<sz/\ys.all (λel=>el.length==sz)=true:=⟨i,by grind⟩;obtain⟨q,g⟩:=h;have p: ∀el∈af++ys,el.length=sz:=by grind
 by_cases he:ys.length=0
 ·have d:ys=[]:=akU.1 he;subst d;refine⟨v,H,?_,by simpa using⟨q,g⟩,b,afA _,λ_ _=>rfl⟩;unfold dJ
  grind
 rcases g with⟨rfl,rfl⟩| ⟨id,ak,m,rfl,a⟩
 ·refine⟨.ref H.length 0 sz 0 ys.length false,H++[.row 0 sz ty ys],?_,⟨by simpa using k,.inr ⟨H.length,0,?_,by simp,by simp⟩⟩,b.trans (aqx _ _),by simp,λid n=>?_⟩
  ·unfold dJ;rw[adY e];simp only[adU he];rw[adY (by simpa using f)];rfl
  ·rw[<-o];exact b.length_le
  ·rw[adf (by have:=b.length_le;omega)]
 ·have c:=(adg.1 a).1;refine⟨.ref id (ak+1) sz 0 (af.length+ys.length) false,H.set id (.row (ak+1) sz ty (af++ys)),?_,⟨p,.inr ⟨id,ak+1,m,by simp,by simp[c]⟩⟩,aqj b (by omega),by simp,λj r=>?_⟩
  ·unfold dJ;rw[adY e];simp only[a];rw[adY ⟨trivial,trivial,trivial,trivial,by omega,f⟩,adU he];simp[AS.set,l]
  ·rw[adb (by omega)]
def rm{K:AV->AS->Prop}{H0:List ae}(h:aQ N H v sz ty af)(d:H0<+:H)(f:H0.length=N)(a:0<sz)(b: ∀el∈ys,el.length=sz)(c:b9 ys=0)(e: (af.length+ys.length)*bytes<=room)
  (g: ∀v' H',aQ N H' v' sz ty (af++ys)->H0<+:H'->K v' ⟨H',lo⟩):vG (dJ ⟨H,lo⟩ ty sz bytes v ys) K:=by
 obtain⟨v',H',k,j,i,_⟩:=h.append d f a b c e;rw[k];exact g v' H' j i
def aQ.adi(h:aQ N H v sz ty af)(w:N<=H.length)(k:0<sz)(l: ∀el∈ys,el.length=sz)(m:b9 ys=0)(q: (af.length+ys.length)*bytes<=room):
  ∃v' H',dJ ⟨H,lo⟩ ty sz bytes v ys=some (v',⟨H',lo⟩)/\aQ N H' v' sz ty (af++ys)/\H.length<=H'.length/\ (∀id,id<N->H'[id]?=H[id]?)/\ (∀ (id:Nat) o,(∀a d,o≠ .row a sz ty d)->H[id]?=some o->H'[id]?=some o):=by
 have n:H.take N<+:H:=List.take_prefix _ _;obtain⟨v',H',b,t,x,s,r⟩:=h.append n (by grind) k l m q;refine⟨v',H',b,t,s,r,λid o f e=>?_⟩;have p:=(adg.1 e).1;unfold dJ at b;have i:0<sz/\ys.all (λel=>el.length==sz)=true:=⟨k,by grind⟩;rw[adY i]at b;rcases h.2 with⟨rfl,rfl⟩| ⟨j,ak,u,rfl,c⟩
 ·simp only at b;split at b
  ·grind
  ·split at b
   ·simp only[AS.push,adT,ap1,AS.mk.injEq]at b
    grind
   grind
 ·simp only[c]at b;split at b
  ·split at b
   ·simp only[adT,ap1,AS.mk.injEq]at b;rw[<-b.2.1];exact e
   ·simp only[afE,ai5,AS.set,adT,ap1,AS.mk.injEq]at b;rw[<-b.2.1];have g:j≠id:=by rintro rfl;rw[c]at e;cases e;exact f _ _ rfl
    rw[adb g];exact e
  ·cases b
def Is{E:AS}:freeze E n (k+1) (.aw vs)=if(AV.aw vs).refs<=n then some (.aw vs)else match iL E n k vs with|some a=>some (.aw a)|none=>none:=by
 rw[freeze]
 grind
theorem OW{E:AS}{n k:Nat}: ∀l:lA,aK l<=n->iL E n (k+2) l=some l
 | [],_=>by rw[iL]
 |b::bs,a=>by
  simp only[aK]at a;rw[iL,zi (by omega)];rw[OW bs (by omega)]
theorem OX{E:AS}{n k:Nat}: ∀af:List lA,b9 af<=n->sB E n (k+3) af=some af
 | [],_=>by rw[sB]
 |a::as,h=>by
  simp only[b9]at h;rw[sB,OW a (by omega)];rw[OX as (by omega)]
theorem aQ.freeze(h:aQ N H v sz ty af)(c:b9 af<=N):Den.freeze ⟨H,lo⟩ N (k+4) v=some (bu v af):=by
 obtain⟨f,d⟩:=h;rcases d with⟨rfl,rfl⟩| ⟨id,ak,e,rfl,a⟩
 ·exact zi (aeu _)
 ·have b: ¬(AV.ref id ak sz 0 af.length false).refs<=N:=by simp only[AV.refs];omega
  rw[Den.freeze,adU b];simp only[a];rw[adY ⟨trivial,trivial,by omega⟩];simp only[amA,afK];rw[OX af c];rfl
theorem aQ.OY(h:aQ N H v sz ty af)(a:b9 af<=N):finish N lo v ⟨H,none⟩=(bu v af,⟨H.take N,lo⟩):=
 H5 rfl (h.freeze a)
def aQ.adj{b:AV}(h:aQ N H v sz ty af)(d:b9 af<=N)(e:b.refs<=N):finish N lo (.aw [v,b]) ⟨H,none⟩=(.aw [bu v af,b],⟨H.take N,lo⟩):=by
 refine H5 rfl ?_;rw[Is];have e1:iL ⟨H,none⟩ N 11 [v,b]=some [bu v af,b]:=by
  rw[iL,h.freeze d];rw[iL,zi e];rw[iL]
 rw[e1];split
 ·rename_i hle;have a:bu v af=v:=by
   obtain⟨i,f⟩:=h;rcases f with⟨rfl,rfl⟩| ⟨id,ak,g,rfl,c⟩
   ·rfl
   ·simp only[AV.refs,aK]at hle;omega
  rw[a]
 ·rfl
def aQ.sR(h:aQ N H v sz ty af):Rv (bu v af) sz af:=by
 obtain⟨c,b⟩:=h;rcases b with⟨rfl,rfl⟩| ⟨id,ak,d,rfl,a⟩
 ·exact .aq
 ·exact .sl c
theorem bB{α:Type}{g:α->lA}(a: ∀x,aK (g x)=0): ∀l:List α,b9 (l.map g)=0
 | []=>rfl
 |x::xs=>by simp only[ak9,b9,a,bB a xs];rfl
def aqk{E:AS}(h:af.all (λel=>el.length==sz)=true):Den.elems E sz (.sl af c)=some af:=by
 simp only[Den.elems];grind
end
def OZ{k:IntKind}{a b:Int}{c:List EK}{as bs:lA}:jy (.int::c) (.int k a::as) (.int k b::bs)=if a=b then jy c as bs else some false:=by
 simp only[jy,qS,ag6]
 grind
def aql{a b:Bool}{c:List EK}{as bs:lA}:jy (.bool::c) (.bool a::as) (.bool b::bs)=if a=b then jy c as bs else some false:=by
 simp only[jy,qS]
 grind
theorem O0:jy [] [] []=some true:=rfl
def adk{N:Nat}{H:List ae}(b: ¬v.refs<=N)(a:freeze ⟨H,none⟩ N 12 v=none):finish N lo v ⟨H,none⟩=(v,⟨H,lo⟩):=by
 rw[Bg,adU b,a];rfl
def O2{N id o:Nat}{E:AS}(h:N<=id):freeze E N k (.ptr id o)=none:=by
 cases k with
 |zero=>rw[freeze]
 |succ k=>
  have a: ¬(AV.ptr id o).refs<=N:=by simp only[AV.refs];omega
  simp[freeze,a]
def DX{X:Ctx}{p:lA->AS->Option aU}{args:lA}{E:AS}{a:aU}(b:X.bW f=some p)(h:p args E=some a):D X (.fn (.func f) [] []) args E=some a:=by
 refine HT ?_;simp only[step,b,ahm,afW];exact h
theorem adl{cs:lA}:eK cs []=some cs:=rfl
theorem adm{cs:lA}{off:Nat}{r:List (Nat×Nat×AV)}:eK cs ((off,n,v)::r)=if v.ck=false/\v.cells.length=n/\off+n<=cs.length then eK (aM cs off v.cells) r else none:=rfl
theorem adn{len:Nat}{a:List (Nat×Nat×AV)}:On z len a=(eK (List.replicate len z).flatten a).map λcs=>.sl (chunks z.length len cs) true:=rfl
theorem ado{E:AS}{ty:TypeId}{len:Nat}{a:List (Nat×Nat×AV)}:Oo E ty z len a=(eK (List.replicate len z).flatten a).map λcs=>(.ref E.heap.length 0 z.length 0 len false,E.push (.row 0 z.length ty (chunks z.length len cs))):=rfl
theorem adp{a:List (Nat×Nat×AV)}:Om z a=(eK z a).map .agg:=rfl
theorem adq{cs:lA}:chunks sz 0 cs=[]:=rfl
theorem adr{cs:lA}:chunks sz (k+1) cs=cs.take sz::chunks sz k (cs.drop sz):=rfl
theorem ads{E:AS}:Den.elems E sz (.sl af c)=if af.all (λel=>el.length==sz)then some af else none:=rfl
theorem adt{X:Ctx}{id off:Nat}{k:IntKind}{a:Int}:vt X n sz (.ptr id off) (.int k a)=if 0<=a/\a<n then some (.ptr id (off+a.toNat*sz))else none:=rfl
theorem adu{X:Ctx}{id off:Nat}{k:IntKind}{a:Int}:vt X n sz (.dw id ak j off) (.int k a)=if 0<=a/\a<n then some (.dw id ak j (off+a.toNat*sz))else none:=rfl
theorem adv{X:Ctx}{off:Nat}{cs:lA}{k:IntKind}{a:Int}:vt X n sz (.fu cs off) (.int k a)=if 0<=a/\a<n then some (.fu cs (off+a.toNat*sz))else none:=rfl
theorem adw{X:Ctx}{g:Nat}{k:IntKind}{a:Int}:vt X n sz (.dR g) (.int k a)=if 0<=a/\a<n then(match X.dR g with|some cs=>some (.fu cs (a.toNat*sz))|none=>none)else none:=rfl
theorem adx{off:Nat}{cs:lA}:XP ag n off (.agg cs)=Den.part ag n cs off:=rfl
theorem ady:DP (.aw vs) i=vs[i]?:=rfl
theorem adz{E:AS}:gl E .sl (.sl af c)=some (.int .i64 af.length):=rfl
theorem adA{E:AS}:gl E .sl .aq=some (.int .i64 0):=rfl
theorem adB{E:AS}{id v z o:Nat}:gl E .sl (.ref id v z o n c)=some (.int .i64 n):=rfl
theorem adC{E:AS}{id off:Nat}:gl E .sl (.fA id sz off n)=some (.int .i64 n):=rfl
theorem O3{id off:Nat}{k:IntKind}{a:Int}:kn m (.fA id sz off n) (.int k a)=if 0<=a/\a<n/\sz=m then some (.ptr id (off+a.toNat*m))else none:=rfl
def adD{X:Ctx}{id off:Nat}{b:Int}:qT X n sz (.ptr id off) none (some (.int k' b))=if 0<=b/\b<=n then some (.fA id sz off b.toNat)else none:=by
 simp only[qT,gC,mc]
 grind
theorem adE{H:List ae}{lo:oN}{id sz m off n:Nat}:Den.elems ⟨H,lo⟩ m (.fA id sz off n)=match H[id]? with
 |some (.box cs _)=>if sz=m/\off+n*m<=cs.length then some (chunks m n (cs.drop off))else none
 |_=>none:=rfl
theorem adF:wO []=some []:=rfl
theorem adG{n:Int}{r:List lA}:wO ([.int .u8 n]::r)=(wO r).map (UInt8.ofNat n.toNat:: ·):=rfl
def adH{H:List ae}{x:ae}(h:H.length=n)(a:m=n+1): (H++[x]).take m=H++[x]:=by grind
def dT{h:Decidable True}: @decide True h=true:=by simp
def dF{h:Decidable False}: @decide False h=false:=by simp
def O1:=gG @adl<|gG @adm<|gG @adn<|gG @ado<|gG @adp<|gG @adq<|gG @adr<|gG @ads<|gG @adx<|gG @adC<|gG @adz<|gG @adA<|gG @adB<|gG @O3<|gG @adD<|gG @adE<|gG @adF<|gG @adG<|gG @dT<|gG @dF<|gG @List.getD_cons_zero.{0}<|gG @List.getD_cons_succ.{0}<|gG @adt<|gG @adu<|gG @adv<|gG @adw<|gG @Nat.mul_one<|gG @ady<|gG @ar7.{0}<|gG @List.replicate_zero.{0}<|gG @aoW.{0}<|gG @List.flatten_nil.{0}<|gG @axE.{0} @List.all_nil.{0}
section
variable{X:Ctx}{n:Nat}{lo:oN}{e:Env}{E:AS}{R:aU->Prop}{a b c d m k:Nat}{ag ah:Bool}
def oJ(n:Nat)(lo:oN)(R:aU->Prop):AV->AS->Prop:=λv E=>R (.ret (finish n lo v E).1 (finish n lo v E).2)
theorem adI:oJ n lo R v E=R (.ret (finish n lo v E).1 (finish n lo v E).2):=rfl
def Bm:dW X n lo [.cell a ag m] R .ret ⟨e,[]⟩ E=okV (cm X E ag m (e a)) (oJ n lo R) E:=by
 simp only[zh,zj,fQ,kp,pQ];cases h:cm X E ag m (e a)with
 |none=>simp[okV,h]
 |some v=>simp[okV,oJ,h]
def p7:dW X n lo [.cell a ag m,.t b] R .ret ⟨e,[]⟩ E=okV (cm X E ag m (e a)) (λv E=>oJ n lo R (.aw [v,e b]) E) E:=by
 simp only[zh,zj,fQ,kp,pQ];cases h:cm X E ag m (e a)with
 |none=>simp[okV,h]
 |some v=>simp[okV,oJ,h]
def adJ:dW X n lo [.cell a ag m,.t b,.t c] R .ret ⟨e,[]⟩ E=okV (cm X E ag m (e a)) (λv E=>oJ n lo R (.aw [v,e b,e c]) E) E:=by
 simp only[zh,zj,fQ,kp,pQ];cases h:cm X E ag m (e a)with
 |none=>simp[okV,h]
 |some v=>simp[okV,oJ,h]
def adK:dW X n lo [.cell a ag m,.cell b ah k] R .ret ⟨e,[]⟩ E=okV (cm X E ag m (e a)) (λv E=>okV (cm X E ah k (e b)) (λu E=>oJ n lo R (.aw [v,u]) E) E) E:=by
 simp only[zh,zj,fQ,kp,pQ];cases h:cm X E ag m (e a)with
 |none=>simp[okV,h]
 |some v=>
  cases f:cm X E ah k (e b)with
  |none=>simp[okV,h,f]
  |some u=>simp[okV,oJ,h,f]
def Q1:=gG @adI<|gG @Bm<|gG @p7<|gG @adJ @adK
end
section
variable{X:Ctx}{R:pZ}
def rn(X:Ctx)(R:pZ)(tv:AV)(fJ:lA)(rv:AV)(E:AS)(K:AS->Prop):Prop:= ∃a,Bl X (D X) Lw R tv fJ rv E=some a/\K a
def dK(X:Ctx)(R:pZ)(n:Nat)(lo:oN)(res:List RV)(P:aU->Prop)(tv:AV)(fJ:lA):bQ
 |.normal,fr,E=> ∃a,dU E fr.marks=some a/\rn X R tv fJ .eX a λb=>dW X n lo res P .ret ⟨fr.env,[]⟩ b
 |.ret,fr,E=> ∃a,dU E fr.marks=some a/\rn X R tv fJ .eX a λb=>dW X n lo res P .ret ⟨fr.env,[]⟩ b
 |.panic v,fr,E=> ∃a,dU E fr.marks=some a/\rn X R tv fJ v a λb=>dW X n lo res P .ret ⟨fr.env,[]⟩ b
 |.exit _,_,_=>False
section
variable{n:Nat}{lo:oN}{res:List RV}{P:aU->Prop}{tv:AV}{fJ:lA}{e:Env}{E:AS}{v:AV}
def DY:dK X R n lo res P tv fJ .ret ⟨e,[]⟩ E=rn X R tv fJ .eX E λa=>dW X n lo res P .ret ⟨e,[]⟩ a:=by
 simp[dK,dU]
def oK:dK X R n lo res P tv fJ (.panic v) ⟨e,[]⟩ E=rn X R tv fJ v E λa=>dW X n lo res P .ret ⟨e,[]⟩ a:=by
 simp[dK,dU]
end
def It(X:Ctx)(R:pZ)(f:FuncId)(n:Nat)(lo:oN)(res:List RV)(P:aU->Prop)(lC:ao)(fJ:List ao)(rest:PC):bQ:=λex fr E=>
 ex= .normal/\fr.marks=[]/\ (lC.get fr.env).Ir=true/\wp X f false rest ⟨fr.env,[]⟩ E (dK X R n lo res P (lC.get fr.env) (fJ.map (·.get fr.env)))
def O4(X:Ctx)(R:pZ)(f:FuncId)(n:Nat)(lo:oN)(res:List RV)(P:aU->Prop)(ops:List aR)(lC:ao)(fJ:List ao)(rest:PC):bQ:=λex fr E=>
 ex= .normal/\wp X f false (.aO ops) fr E (It X R f n lo res P lC fJ rest)
section
variable{f:FuncId}{n:Nat}{lo:oN}{res:List RV}{P:aU->Prop}{ops:List aR}{lC:ao}{fJ:List ao}{rest:PC}{e:Env}{fr:Fr}{E:AS}
def kr:It X R f n lo res P lC fJ rest .normal ⟨e,[]⟩ E=((lC.get e).Ir=true/\wp X f false rest ⟨e,[]⟩ E (dK X R n lo res P (lC.get e) (fJ.map (·.get e)))):=by simp[It]
def ku:O4 X R f n lo res P ops lC fJ rest .normal fr E=wp X f false (.aO ops) fr E (It X R f n lo res P lC fJ rest):=by simp[O4]
end
def O5(i:vH){k:PC}{ops:List aR}{lC:ao}{fJ:List ao}{rest:PC}(y:i.body= .later k (.here ops lC fJ rest)){args:lA}{H:List ae}{P:aU->Prop}(w:Nat.ble args.length i.ntmps=true)
  (h: ∀n,H.length=n->wp X f false k ⟨dq args,[]⟩ ⟨H,none⟩ (O4 X R f n lo i.results P ops lC fJ rest)): ∃m,xc X (D X) Lw R f i args ⟨H,lo⟩=some m/\P m:=by
 obtain⟨ex,fr,E,u,rfl,hw⟩:=h _ rfl;rw[Og]at hw;obtain⟨B,⟨j,t⟩,s,p,rfl,hm,x,d,c,g,o,q⟩:=hw;subst hm;have l:xb X (D X) Lw f i.body ⟨dq args,[]⟩ ⟨H,none⟩=some (some (lC.get j,fJ.map (·.get j)),(d,c,g)):=by
  rw[y];simp only[xb,u,p,x,ag6,o,afG]
 unfold xc;rw[adY (ap6 w)];simp only[l,OP];have key: ∀rv,d.OO=some rv->(∃b,dU g c.marks=some b/\rn X R (lC.get j) (fJ.map (·.get j)) rv b λa=>dW X H.length lo i.results P .ret ⟨c.env,[]⟩ a)->
   ∃m,(match d.OO,dU g c.marks with
    |some rv,some b=>(Bl X (D X) Lw R (lC.get j) (fJ.map (·.get j)) rv b).bind λa=>(fQ X a c.env i.results).map λv=>aU.ret (finish H.length lo v a).1 (finish H.length lo v a).2
    |_,_=>none)=some m/\P m:=by
  rintro rv C ⟨b,J,a,I,A⟩;obtain⟨r,v,z,G,F⟩:=A;simp only[dU,adT]at z
  grind
 cases d with
 |normal=>exact key _ rfl q
 |ret=>exact key _ rfl q
 |panic v=>exact key _ rfl q
 |exit _=>trivial
def Iu{g:FuncId}{pr:w9}(c:R g=some pr){cap fJ:lA}{rv:AV}{H:List ae}{K:AS->Prop}(b:Nat.ble (fJ++cap).length pr.pf.ntmps=true)
  (h: ∀n,H.length=n->wp X g false pr.pf.body ⟨(dq (fJ++cap)).set pr.dst rv,[]⟩ ⟨H,none⟩ (λex fr E=>fr.marks=[]/\ (ex= .normal\/ex= .ret)/\ ∃v,fQ X E fr.env pr.pf.results=some v/\K (finish n lo v E).2)):
  rn X R (.fn (.func g) [] cap) fJ rv ⟨H,lo⟩ K:=by
 obtain⟨ex,⟨e,ms⟩,E,i,hm,hex,v,j,d⟩:=h _ rfl;have a:=ap6 b;refine⟨_,?_,d⟩;simp only[Bl,c,apP,Ip,ahm]
 grind
end
section
structure Ext(X X':Ctx):Prop where
 dR:X'.dR=X.dR
 fZ:X'.fZ=X.fZ
 code:X'.code=X.code
 bW: ∀f,X'.bW f=X.bW f\/ (X.bW f=none/\X.code f=none)
variable{X X':Ctx}
def aqm(h:Ext X X'):cm X'=cm X:=by
 unfold cm;rw[h.dR]
def adL(h:Ext X X'){C:bz}(i:I)(e:Env)(E:AS):exec X' C i e E=exec X C i e E:=by
 obtain⟨g,j,c,m'⟩:=X';obtain⟨b,a,f,d⟩:=h;subst b a;cases i<;>rfl
theorem adM(h:Ext X X'){C:bz}: ∀ (os:List aR),fj X' C os=fj X C os
 | []=>by rfl
 |o::os=>by
  simp only[fj,adL h,adM h os]
theorem adN(h:Ext X X'){C:bz}: ∀ (os:List (aR×lN)) (a:List FP),gH X' C a os=gH X C a os
 | [],a=>by rfl
 |o::os,a=>by
  simp only[gH,adL h,adN h os]
def aqn(h:Ext X X')(a:pP X v=true):pP X' v=true:=by
 unfold pP at a⊢;split at a
 ·rename_i f _ _;rw[h.code];rcases h.bW f with b| ⟨_,c⟩
  ·grind
  grind
 omega
theorem sS(h:Ext X X'){C:bz}{L:eL}(e:eL.le L L)(bR:FuncId)(rd:Bool): ∀pc,rh (bc X C L bR rd pc) (bc X' C L bR rd pc)
 |.skip,_,_,_,d=>by trivial
 |.seq a b,fr,E,r,d=>by
  simp only[bc]at d⊢;split at d
  ·rename_i k;rw[sS h e bR rd a _ _ _ k];exact sS h e bR rd b _ _ _ d
  ·cases f:bc X C L bR rd a fr E with
   |none=>grind
   |some q=>
    rw[sS h e bR rd a _ _ _ f]
    grind
 |.cond c a b,fr,E,r,d=>by
  simp only[bc]at d⊢;split at d
  ·rename_i t m;split at d
   ·rename_i i;rw[adY i];exact sS h e bR rd a _ _ _ d
   ·rename_i i;rw[adU i];exact sS h e bR rd b _ _ _ d
  omega
 |.block id body,fr,E,r,d=>by
  simp only[bc]at d⊢;cases f:bc X C L bR rd body fr E with
  |none=>rw[f]at d;cases d
  |some q=>rw[sS h e bR rd body _ _ _ f];rw[f]at d;exact d
 |.loop body,fr,E,r,d=>by
  simp only[bc]at d⊢;exact e _ _ (sS h e bR rd body) _ _ _ d
 |.exit id,_,_,_,d=>by simpa only[bc]using d
 |.ret,_,_,_,d=>by simpa only[bc]using d
 |.aO ops,fr,E,r,d=>by
  simp only[bc]at d⊢;rw[adM h];exact d
 |.vo ops,fr,E,r,d=>by
  simp only[bc]at d⊢;rw[adN h];exact d
 |.gS g ps as bd,fr,E,r,d=>by
  simp only[bc]at d⊢;split at d
  ·cases d
  ·rename_i j;rw[adU j];split at d
   ·rename_i l;rw[adY (aqn h l)];exact d
   ·cases d
def aqo(h:Ext X X'){C:bz}{L:eL}(m:eL.le L L)(l:Nat)(args:lA)(E:AS)(r:aU)(c:kq X C L l args E=some r):kq X' C L l args E=some r:=by
 simp only[kq]at c⊢;split at c
 ·rename_i st j f env ps as bd s;split at c
  ·rename_i a;simp only[a,ag6];split at c
   ·rename_i fr e n;rw[sS h m _ _ _ _ _ _ n];simp only;split at c
    ·rename_i b p d g i jg o;cases k:bc X C L f true bd fr (e.set l (.loop .busy b p d g i jg) 0)with
     |none=>rw[k]at c;cases c
     |some q=>rw[sS h m _ _ _ _ _ _ k];grind
    omega
   grind
  grind
 omega
theorem adO(h:Ext X X')(E:AS)(e:Env): ∀rs,kp X' E e rs=kp X E e rs
 | []=>rfl
 |r::rs=>by
  have:pQ X' E e r=pQ X E e r:=by
   cases r with
   |t i=>rfl
   |cell a ag n=>simp only[pQ,aqm h]
  simp only[kp,this,adO h E e rs]
def aqp(h:Ext X X')(n:Nat)(lo:oN)(pf:PF)(r:jA):leave X' n lo pf r=leave X n lo pf r:=by
 have e1: ∀fr E,qW X' n lo pf fr E=qW X n lo pf fr E:=λfr E=>by
  simp only[qW,fQ,adO h]
 rcases r with _| ⟨ex,fr,E⟩
 ·rfl
 ·cases ex<;>simp only[leave,e1]
def aqq(h:Ext X X'){C:bz}{L:eL}(d:eL.le L L):bz.le (step X C L) (step X' C L):=by
 intro v args E r b;unfold step at b⊢;split at b
 ·rename_i f first cap
  split at b
  ·rename_i p g;have:X'.bW f=some p:=by
    rcases h.bW f with q| ⟨q,_⟩
    ·grind
    grind
   grind
  ·split at b
   ·rename_i pf e;split at b
    ·rename_i a;have:X'.bW f=none:=by
      rcases h.bW f with q| ⟨_,q⟩
      ·grind
      grind
     rw[this,h.code,e];simp only;rw[adY a,aqp h];cases c:bc X C L f false pf.body {env:=dq (first++args++cap),marks:=[]} {E with lo:=none}with
     |none=>rw[c]at b;cases b
     |some q=>rw[sS h d _ _ _ _ _ _ c];grind
    grind
   grind
 ·exact aqo h d _ _ _ _ b
 omega
theorem adP(h:Ext X X'): ∀n,bz.le (iM X n) (iM X' n)
 |0=>λf args E r h=>by trivial
 |n+1=>by
  exact bz.le_trans (aqq h (HR n)) (Xf (adP h n) (HR n))
def adQ(h:Ext X X'):bz.le (D X) (D X'):=λf a s r b=>by
 obtain⟨n,c⟩:=zd b;exact N9 (n:=n) _ _ _ _ (adP h n _ _ _ _ c)
end
def sT(a:List (Nat×lB×Nat)):List (AV×AV):=a.map λx=>(.int .u8 x.1,.fn (.func x.2.2) [] [])
theorem O6{n:Int}: ∀l:List (AV×AV),(∀p∈l,∃m:Int,p.1= .int .u8 m)->eC (.int .u8 n) l=some ((l.find? λp=>match p.1 with|.int _ m=>n==m|_=>false).map (·.2))
 | [],_=>rfl
 | (k,v)::l,h=>by
   obtain⟨m,hm⟩:=h (k,v) (by simp);have a:=O6 (n:=n) l (λp b=>h p (by grind));simp only[eC,pO,List.find?_cons]
   grind
theorem adR: ∀ {l:List (AV×AV)} {p q:AV×AV},(l.Pairwise λp q=>p.1≠q.1)->p∈l->q∈l->p≠q->p.1≠q.1
 |a::l,p,q,h,f,e,b=>by
  rw[ak8]at h;rcases ag7.1 f with d|d
  ·grind
  ·rcases ag7.1 e with c|c
   ·grind
   ·exact adR h.2 d c b
def aqr{α β:Type}{F:α->β}{l g:List β}(h:l.Perm g): ∀m:List α,m.map F=l-> ∃m':List α,m'.Perm m/\m'.map F=g:=by
 induction h with
 |nil=>simp
 |cons x _ j=>
  intro m hm;cases m with
  |nil=>grind
  |cons a m=>
   simp only[ak9,aAx]at hm;obtain⟨m',f,i⟩:=j m hm.2;exact⟨a::m',f.cons a,by grind⟩
 |swap x y l=>
  intro m hm
  match m,hm with
  |a::b::m,hm=>
   exact⟨b::a::m,.swap a b m,by grind⟩
 |trans _ _ e d=>
  intro m hm;obtain⟨m',f,i⟩:=e m hm;obtain⟨c,n,k⟩:=d m' i;exact⟨c,n.trans f,k⟩
def aqs{l e:List (AV×AV)}(h: ∀p∈l,∃m:Int,p.1= .int .u8 m)(o:l.Perm e)(u:l.Pairwise λp q=>p.1≠q.1){k:AV}{v:Option AV}(f:eC k l=some v):eC k e=some v:=by
 have w: ∀p∈e,∃m:Int,p.1= .int .u8 m:=λp j=>h p (o.mem_iff.2 j)
 cases l with
 |nil=>simp_all
 |cons a l=>
  obtain⟨m,hm⟩:=h a (by simp);obtain⟨z,r⟩:=a;simp only at hm;subst hm;cases k with
  |int q n=>
   by_cases t:q= .u8
   ·subst t;rw[O6 _ h]at f;rw[O6 _ w];rw[<-f]
    congr 2
    have hu: ∀p q:AV×AV,p∈((AV.int .u8 m,r)::l)->q∈((AV.int .u8 m,r)::l)->(match p.1 with|.int _ m=>n==m|_=>false)=true->(match q.1 with|.int _ m=>n==m|_=>false)=true->p=q:=by
     intro p q c b e1 d;obtain⟨g,y⟩:=h p c;obtain⟨s,x⟩:=h q b;have e3:p.1=q.1:=by grind
     by_cases i:p=q
     ·omega
     ·exact absurd e3 (adR u c b i)
    cases e1: ((AV.int .u8 m,r)::l).find? (λp=>match p.1 with|.int _ m=>n==m|_=>false)with
    |none=>grind
    |some p=>
     have g:=aqc e1;have t1:=List.find?_some e1;cases d:e.find? (λp=>match p.1 with|.int _ m=>n==m|_=>false)with
     |none=>
      rw[aBc]at d;exact absurd t1 (d p (o.mem_iff.1 g))
     |some q=>
      have s:=o.mem_iff.2 (aqc d);have t2:=List.find?_some d;rw[hu q p s g t2 t1]
   ·exfalso;simp[eC,pO,t]at f
  |_=>exfalso;simp[eC,pO]at f
section
variable{P:Program}{W:World}
theorem adS{α β:Type}{f:α->Option β}: ∀ {l:List α} {r:List β},l.mapM f=some r->l.length=r.length/\ ∀ (i:Nat) a b,l[i]?=some a->r[i]?=some b->f a=some b
 | [],r,h=>by grind
 |x::l,r,h=>by
  rw[aAC]at h;simp only[bind,anY,pure,adT]at h;obtain⟨y,e,d,c,rfl⟩:=h;obtain⟨j,g⟩:=adS c
  grind
def aqt{n:String}{d:DataW Unit}{g e:Nat}{ps rs:Array TypeId}{va:Bool}{a:List (Nat×lB×Nat)}(hfa:funcsAt P W n d)(hd:d.funcsOut= .map (a.map λx=>(.int .u8 x.1,.held x.2.1)))
  (hg:P.globalNamed n=some g) (ht: (P.globals[g]?).map (·.type)=some t) (hu:P.underlying t=some (.map k e)) (hk:P.underlying k=some (.int .u8)) (he:P.underlying e=some (.func ps rs va))
  (S: ∀x∈a,((List.range P.funcs.size).filter λf=>(P.funcs[f]?).any (·.name.toUTF8.data.toList==x.2.1))=[x.2.2]) (sM: ∀x∈a,x.2.1≠[]) (D:a.Pairwise λx y=>x.1≠y.1):
  g<W.heap.size/\ ∃es' r ms clock,r<W.heap.size/\W.cell? ⟨g,0,none⟩=some (.map (some r))/\W.heap[r]?=some (.map ms clock)/\fR (G0 W.heap.size W) es' ms.toList/\ ∀k v,eC k (sT a)=some v->eC k es'=some v:=by
 obtain⟨g',t',cs,fuel,p,h1,h2,h3,u⟩:=hfa;obtain rfl:g'=g:=akn (h1.symm.trans hg);obtain rfl:t'=t:=akn (h2.symm.trans ht);rw[hd]at u;cases fuel with
 |zero=>simp[DataW.trod]at u
 |succ fuel=>
 unfold DataW.trod at u;rw[hu]at u;obtain⟨b,K⟩: ∃b,cs.toList=[.map (some b)]:=by
  split at u<;>simp_all
 rw[K]at u;simp only at u;split at u
 case h_2=>cases u
 rename_i es clock hb;split at u
 case isFalse=>cases u
 obtain⟨entries,hm,hs⟩:=anY.1 u;split at hs
 case isFalse=>cases hs
 rename_i aCL;simp only[adT,ap1,DataW.map.injEq]at hs;obtain⟨G,_⟩:=hs;obtain⟨E,Bn⟩:=adS hm;have z: (entries.map (·.1)).Perm (a.map λx=>(Lit.int .u8 x.1,DataW.held x.2.1)):=by
  rw[<-G];exact(WideShapes.sorted_perm _).symm
 have B: ∀ (i:Nat) (m:MapEntry),es.toList[i]?=some m-> ∃x∈a,(entries.map (·.1))[i]?=some (Lit.int .u8 x.1,DataW.held x.2.1)/\m.key= .int .u8 x.1/\m.val= .func (.func x.2.2) #[] #[]:=by
  intro i m J;have I:i<entries.length:=by rw[<-E];exact(adg.1 J).1
  have B:=Bn i m entries[i] J (aep I);obtain⟨key,l,s⟩:=anY.1 B;have U:entries[i].1∈a.map λx=>(Lit.int .u8 x.1,DataW.held x.2.1):=z.mem_iff.1 (afH.2 ⟨entries[i],ar6 I,rfl⟩)
  obtain⟨x,C,q⟩:=afH.1 U;refine⟨x,C,by rw[afU,aep I,afG,<-q],?_⟩;split at s
  case isFalse=>cases s
  rename_i A;obtain⟨y,F,N⟩:=afF.1 s;have hk1:key= .int .u8 x.1:=by rw[<-N]at q;simp only[ap1]at q;exact q.1.symm
  have V:y.1= .held x.2.1:=by rw[<-N]at q;simp only[ap1]at q;exact q.2.symm
  constructor
  ·subst hk1;unfold keyOf at l;rw[hk]at l;simp only at l;unfold mapKey at l;rw[hk]at l;split at l<;>simp_all
  ·have L:m.val.cells.toList=[m.val]:=by
     cases hv:m.val<;>first|rfl| (rw[hv]at A;simp[Value.formed,he]at A)
   rw[L]at F;obtain⟨y1,y2⟩:=y;simp only at V;subst V;cases H:x.2.1 with
   |nil=>exact absurd H (sM x C)
   |cons c r=>
    rw[H]at F;have ho:=S x C;rw[H]at ho;exact func_of_trod he ho F
 obtain⟨w,R,Q⟩:=aqr z.symm a rfl;have O:g'<W.heap.size:=by
  have hc:W.cell? ⟨g',0,none⟩=some (.map (some b)):=by rw[World.var?_cell hg h3,<-ap9,K];rfl
  unfold World.cell? at hc;cases hh:W.heap[g']? with
  |none=>rw[hh]at hc;cases hc
  |some o=>exact(amp.1 hh).1
 have Z: ∀x∈a,∀y∈a,x.1=y.1->x=y:=by
  intro x C y F e;obtain⟨i,J⟩:=aw5 C;obtain⟨j,Y⟩:=aw5 F;rw[List.pairwise_iff_getElem]at D;have hi1:=(adg.1 J).1;have X:=(adg.1 Y).1;rcases aBh i j with h|h|h
  ·have:=D i j hi1 X h;rw[(adg.1 J).2,(adg.1 Y).2]at this;exact absurd e this
  ·subst h;rw[J]at Y;cases Y;rfl
  ·have:=D j i X hi1 h;rw[(adg.1 J).2,(adg.1 Y).2]at this;exact absurd e.symm this
 refine⟨O,sT w,b,es,clock,(amp.1 hb).1,?_,hb,?_,?_⟩
 ·rw[World.var?_cell hg h3,<-ap9,K];rfl
 ·have hl':w.length=es.toList.length:=by
    have:=ahl List.length Q;simp only[afB]at this;omega
  have key: ∀ (T:List (Nat×lB×Nat)) (M:List MapEntry),T.length=M.length->(∀ (i:Nat) x m,T[i]?=some x->M[i]?=some m->m.key= .int .u8 x.1/\m.val= .func (.func x.2.2) #[] #[])->fR (G0 W.heap.size W) (sT T) M:=by
   intro T
   induction T with
   |nil=>
    intro M hM _;cases M with
    |nil=>rfl
    |cons m M=>simp at hM
   |cons x T ih=>
    intro M hM hh;cases M with
    |nil=>simp at hM
    |cons m M=>
     obtain⟨e1,e2⟩:=hh 0 x m rfl rfl;refine⟨m,M,rfl,rfl,by rw[e1];rfl,by rw[e2];exact⟨.func x.2.2,#[],#[],rfl,rfl,rfl,rfl⟩,ih M (by simpa using hM) λi x' m' C hm=>hh (i+1) x' m' (by simpa using C) (by simpa using hm)⟩
  refine key w es.toList hl' λi x m C hm=>?_
  obtain⟨y,F,hy1,hy2,hy3⟩:=B i m hm;have e1: (entries.map (·.1))[i]?=some (Lit.int .u8 x.1,DataW.held x.2.1):=by
   rw[<-Q,afU,C];rfl
  rw[hy1]at e1;simp only[adT,ap1,Lit.int.injEq,aAz]at e1;have e2:y.1=x.1:=by have:=e1.1;omega
  have:y=x:=Z y F x (R.mem_iff.1 (amm C)) e2;subst this;exact⟨hy2,hy3⟩
 ·intro k v hf;refine aqs (λp hp=>?_) (R.symm.map _) ?_ hf
  ·obtain⟨x,_,rfl⟩:=afH.1 hp;exact⟨x.1,rfl⟩
  ·rw[aBk];refine D.imp λhab=>?_
   simp only[ne_eq,AV.int.injEq,aAz];omega
end
section
variable{X:Ctx}
def Iv{args:lA}{E:AS}{r:aU}(h:kq X (D X) Lw l args E=some r):D X (.fn (.yield l) [] []) args E=some r:=
 HT (by trivial)
def adW(X:Ctx)(y:AV)(a k:Nat)(x:lA)(P:List ae->List ae->Prop)(Q:Bool->List ae->List ae->Prop):Prop:=
 ∀A M,P A M->A.length=a-> ∀G L lo,G.length=k-> ∃b A' c,A'.length=a/\c.length=M.length/\D X y x ⟨A++(G++(M++L)),lo⟩=some (.ret (.bool b) ⟨A'++(G++(c++L)),lo⟩)/\Q b A' c
def adX(X:Ctx)(g:AV)(a:Nat)(G:List ae)(xs:List lA):Prop:=
 ∀ (y:AV) (I:Nat->List ae->List ae->Prop) (J:List ae->List ae->Prop),
   (∀j x,xs[j]?=some x->adW X y a G.length x (I j) (λb A M=>if b=true then I (j+1) A M else J A M))->
   ∀A M,A.length=a->I 0 A M-> ∀lo,∃A' d c,A'.length=a/\d.length=G.length/\c.length=M.length/\
    D X g [y] ⟨A++(G++M),lo⟩=some (.ret (.aw []) ⟨A'++(d++c),lo⟩)/\ (I xs.length A' c\/J A' c)
def O7(a:Nat)(R:List ae)(I:List ae->Prop)(J:Ex->List ae->Prop):bQ:=λex _ E=>
 E.lo=none/\ ∃b jf,E.heap=b++(R++jf)/\b.length=a/\ (match ex with|.normal=>I b|.panic _=>False|ex=>J ex b)
def Ex.code:Ex->PC
 |.ret=>.ret
 |.exit id=>.exit id
 |_=>.skip
def aqA{g:ao}{a:lN}{as c:PC}{Q:bQ}(xs:List lA)(A G:List ae)
  (hg:pP X (g.get e)=true) (Iw:adX X (g.get e) A.length G xs) (I:Nat->List ae->Prop) (J:Ex->List ae->Prop) (h0:I 0 A)
  (hb: ∀j x,xs[j]?=some x->x.length=a.length/\ ∀k,k.length=A.length->I j k-> ∀R,
    wp X f true as ⟨hU e a x,[]⟩ ⟨k++R,none⟩ (λex fr N=>ex= .normal/\ ∃R1,N=⟨k++(R++R1),none⟩/\
     ∀R',R'.length=R.length->wp X f true c fr ⟨k++(R'++R1),none⟩ (O7 A.length R' (I (j+1)) J)))
  (h1: ∀A' i o,A'.length=A.length->i.length=G.length->I xs.length A'->Q .normal ⟨e,[(A++G).length]⟩ ⟨A'++(i++[.bt,o]),none⟩)
  (h2: ∀ex A' i o,A'.length=A.length->i.length=G.length->J ex A'->Q ex ⟨e,[(A++G).length]⟩ ⟨A'++(i++[.bt,o]),none⟩):
  wp X f false (.gS g a as c) ⟨e,[]⟩ ⟨A++G,none⟩ Q:=by
 obtain⟨l,hl⟩: ∃l,l=A.length+G.length+1:=⟨_,rfl⟩;have w: ∀ (A' i:List ae) (d o:ae) (L:List ae),A'.length=A.length->i.length=G.length->(A'++(i++([d,o]++L)))[l]?=some o:=by
  intro A' i d o L ha E;rw[afJ (by omega),afJ (by omega),ha,E,hl];rw[show A.length+G.length+1-A.length-G.length=1 by omega];rfl
 have z: ∀ (A' i:List ae) (d o o':ae) (L:List ae),A'.length=A.length->i.length=G.length->(A'++(i++([d,o]++L))).set l o'=A'++(i++([d,o']++L)):=by
  intro A' i d o o' L ha E;rw[aoq _ _ (by omega),aoq _ _ (by omega),ha,E,hl];rw[show A.length+G.length+1-A.length-G.length=1 by omega];rfl
 have n: ∀ (H:List ae) (o:ae),AS.set ⟨H,none⟩ l o 0=⟨H.set l o,none⟩:=λH o=>by simp[AS.set]
 let I':Nat->List ae->List ae->Prop:=λj k M=>M=[.bt,.loop .ready none f e a as c]/\I j k
 let J':List ae->List ae->Prop:=λk M=> ∃ex,M=[.bt,.loop .done (some ex.code) f e a as c]/\wS ex.code=some ex/\J ex k
 have C: ∀j x,xs[j]?=some x->adW X (.fn (.yield l) [] []) A.length G.length x (I' j) (λb A M=>if b=true then I' (j+1) A M else J' A M):=by
  intro j x hx k M ⟨T,hI⟩ q G1 L lo y;subst T;obtain⟨Z,hbj⟩:=hb j x hx;have h:=hbj k q hI (G1++([.bt,.loop .ready none f e a as c]++L));obtain⟨ex,fr,N,D0,rfl,R1,rfl,F⟩:=h;have F:=F (G1++([.bt,.loop .busy none f e a as c]++L)) (by simp);obtain⟨V,fr2,Y,O8,B,t,jf,S,m,hex⟩:=F;obtain⟨h2',m6⟩:=Y;simp only at B S;subst B S;have hn: (k++(G1++([ae.bt,.loop .ready none f e a as c]++L))).length=(t++(G1++([ae.bt,.loop .busy none f e a as c]++L))).length:=by
   simp[q,m]
  have u: ∀ (O:Option PC),pR V=some O->kq X (D X) Lw l x ⟨k++(G1++([ae.bt,.loop .ready none f e a as c]++L)),lo⟩=some (.ret (.bool O.isNone) ⟨t++(G1++([ae.bt,.loop (if O.isNone then .ready else .done) O f e a as c]++L)),lo⟩):=by
   intro O D1;unfold kq;simp only[w k G1 _ _ L q y];rw[adY Z,D0];simp only;have e1:k++((G1++([ae.bt,.loop .ready none f e a as c]++L))++R1)=k++(G1++([ae.bt,.loop .ready none f e a as c]++(L++R1))):=by simp
   rw[e1,w k G1 _ _ (L++R1) q y];simp only[n,z k G1 _ _ _ (L++R1) q y];have e2:k++(G1++([ae.bt,.loop .busy none f e a as c]++(L++R1)))=k++((G1++([ae.bt,.loop .busy none f e a as c]++L))++R1):=by simp
   rw[e2,O8];have e3:t++((G1++([ae.bt,.loop .busy none f e a as c]++L))++jf)=t++(G1++([ae.bt,.loop .busy none f e a as c]++(L++jf))):=by simp
   simp only[endRound,D1,e3,w t G1 _ _ (L++jf) m y,n,z t G1 _ _ _ (L++jf) m y];have e4: ∀o:ae,(t++(G1++([ae.bt,o]++(L++jf)))).take (k++(G1++([ae.bt,.loop .ready none f e a as c]++L))).length=t++(G1++([ae.bt,o]++L)):=by
    intro o;have:t++(G1++([ae.bt,o]++(L++jf)))=(t++(G1++([ae.bt,o]++L)))++jf:=by simp
    rw[this];exact aof (by simp[q,m])
   simp only[finish,freeze,AV.refs,aeu,ag6,e4]
  cases V with
  |normal=>
   exact⟨true,t,_,m,rfl,Iv (u none rfl),by simp only[ag6];exact⟨rfl,hex⟩⟩
  |ret=>
   exact⟨false,t,[.bt,.loop .done (some .ret) f e a as c],m,rfl,Iv (u (some .ret) rfl),by simp only[afE,ai5];exact⟨.ret,rfl,rfl,hex⟩⟩
  |exit id=>
   exact⟨false,t,[.bt,.loop .done (some (.exit id)) f e a as c],m,rfl,Iv (u (some (.exit id)) rfl),by simp only[afE,ai5];exact⟨.exit id,rfl,rfl,hex⟩⟩
  |panic v=>exact hex.elim
 obtain⟨A',i,M',s,p,hM',hD,Ix⟩:=Iw (.fn (.yield l) [] []) I' J' C A [.bt,.loop .ready none f e a as c] rfl ⟨rfl,h0⟩ none;have K: ((AS.push ⟨A++G,none⟩ .bt).push (.loop .ready none f e a as c))=(⟨A++(G++[.bt,.loop .ready none f e a as c]),none⟩:AS):=by simp[AS.push]
 have W: (A++G).length+1=l:=by simp[hl]
 have P: ∀r,endLoop l ⟨e,[(A++G).length]⟩ ⟨A'++(i++M'),none⟩=some r->bc X (D X) Lw f false (.gS g a as c) ⟨e,[]⟩ ⟨A++G,none⟩=some r:=by
  intro r hr;simp only[bc,afE,ai5];rw[adY hg,W,K,hD];exact hr
 rcases Ix with⟨T,hI⟩| ⟨ex,T,hj,hJ⟩
 ·subst T;refine⟨.normal,⟨e,[(A++G).length]⟩,⟨A'++(i++[.bt,.loop .exhausted none f e a as c]),none⟩,P _ ?_,h1 A' i _ s p hI⟩;have:=w A' i .bt (.loop .ready none f e a as c) [] s p;have U:=z A' i .bt (.loop .ready none f e a as c) (.loop .exhausted none f e a as c) [] s p;simp only[afW]at this U;unfold endLoop;simp only[this];rw[adU (by decide),n,U]
 ·subst T;refine⟨ex,⟨e,[(A++G).length]⟩,⟨A'++(i++[.bt,.loop .exhausted (some ex.code) f e a as c]),none⟩,P _ ?_,h2 ex A' i _ s p hJ⟩;have:=w A' i .bt (.loop .done (some ex.code) f e a as c) [] s p;have U:=z A' i .bt (.loop .done (some ex.code) f e a as c) (.loop .exhausted (some ex.code) f e a as c) [] s p;simp only[afW]at this U;unfold endLoop;simp only[this,hj];rw[adU (by decide),n,U]
end
section
structure YV(S:Type)where
 P:S->List ae->Prop
 row:S->oN
 cA:Nat->Prop
 c:Nat
structure YV.Ok{S:Type}(V:YV S):Prop where
 st: ∀s W W',V.P s W->(∀i,V.cA i\/V.row s=some i->W'[i]?=W[i]?)->V.P s W'
 lt: ∀s W r,V.P s W->V.row s=some r-> ∃v z t af,W[r]?=some (.row v z t af)
def YV.Fr{S:Type}(V:YV S)(s:S)(W a:List ae):Prop:=W.length<=a.length/\ ∀i,i<W.length-> ¬V.cA i->V.row s≠some i->a[i]?=W[i]?
def lD(c b:Nat)(lo aj:oN)(r a:oN):Prop:=(aj=lo/\a=r)\/ ∃j,c<=j/\j<b/\aj=cJ lo j
variable{X:Ctx}
def Iy(X:Ctx){S:Type}(V:YV S)(b:Nat)(y:AV)(x:lA)(s:S)(Q:Bool->S->Prop):Prop:=
 ∀W,V.P s W->b<=W.length-> ∀lo,∃c a d aj,D X y x ⟨W,lo⟩=some (.ret (.bool c) ⟨d,aj⟩)/\V.P a d/\V.Fr s W d/\ (V.row a=V.row s\/ ∃r,V.row a=some r/\W.length<=r)/\lD V.c b lo aj (V.row s) (V.row a)/\Q c a
def vI(X:Ctx)(g:AV)(a:Nat)(G:List ae)(xs:List lA):Prop:=
 ∀ (S:Type) (V:YV S) (y:AV) (I:Nat->S->Prop) (J:S->Prop) (b:Nat),V.Ok->(∀i,V.cA i->i<b/\ ¬(a<=i/\i<a+G.length))->
   (∀j x s,xs[j]?=some x->I j s->Iy X V b y x s (λc d=>if c=true then I (j+1) d else J d))->
   ∀W s,V.P s W->I 0 s->W.length=b->V.row s=none->(∀i,i<G.length->W[a+i]?=G[i]?)-> ∀lo,∃d e aj,
    D X g [y] ⟨W,lo⟩=some (.ret (.aw []) ⟨e,aj⟩)/\V.P d e/\ (I xs.length d\/J d)/\b<=e.length/\
    (∀i,i<b-> ¬V.cA i-> ¬(a<=i/\i<a+G.length)->e[i]?=W[i]?)/\lD V.c b lo aj none (V.row d)
def O9(X:Ctx){S:Type}(V:YV S)(b:Nat)(g:AV)(a:Nat)(G:List ae)(xs:List lA):Prop:=
 ∀ (y:Nat) (I:Nat->S->Prop) (J:S->Prop),(∀i,V.cA i->i<b/\ ¬(a<=i/\i<a+G.length))->
   (∀j x s,xs[j]?=some x->I j s->Iy X V b (.fn (.yield y) [] []) x s (λc d=>if c=true then I (j+1) d else J d))->
   ∀W s,V.P s W->I 0 s->W.length=b->V.row s=none->(∀i,i<G.length->W[a+i]?=G[i]?)-> ∀lo,∃d e aj,
    D X g [.fn (.yield y) [] []] ⟨W,lo⟩=some (.ret (.aw []) ⟨e,aj⟩)/\V.P d e/\ (I xs.length d\/J d)/\b<=e.length/\
    (∀i,i<b-> ¬V.cA i-> ¬(a<=i/\i<a+G.length)->e[i]?=W[i]?)/\lD V.c b lo aj none (V.row d)
theorem D2:cJ none j=some j:=rfl
def adZ: ∃q,cJ (some i) j=some q/\ (q=i\/q=j):=by
 refine⟨Nat.min j i,rfl,?_⟩
 grind
def Pa{S:Type}(V:YV S)(b:Nat)(s:S)(W:List ae)(I:S->Prop)(J:Ex->S->Prop):bQ:=λex _ E=>
 ∃a,V.P a E.heap/\V.Fr s W E.heap/\ ((E.lo=none/\V.row a=V.row s)\/ ∃j,V.c<=j/\j<b/\E.lo=some j/\ (V.row a=V.row s\/ ∃r,V.row a=some r/\W.length<=r))/\
  (match ex with|.normal=>I a|.panic _=>False|ex=>J ex a)
def Pb{H:List ae}(a:v.refs=0): (finish n lo v ⟨H,aj⟩).2=(match aj with|none=>⟨H.take n,lo⟩|some j=>if n<=j then⟨H.take n,lo⟩else⟨H,cJ lo j⟩):=by
 have c: ∀k E,freeze E n (k+1) v=some v:=λk E=>zi (by omega)
 unfold finish;cases aj with
 |none=>grind
 |some j=>
  simp only[ai8];split
  ·grind
  ·rfl
def rp{W:List ae}{o:ae}(h:i≠l): (W.set l o)[i]?=W[i]?:=by grind
def ad0{W:List ae}{o:ae}(h:l<W.length): (W.set l o)[l]?=some o:=by grind
def yV{S:Type}(V:YV S)(m:Nat)(f:FuncId)(e:Env)(a:lN)(as d:PC):YV (S×Option Ex)where
 P:=λs W=>V.P s.1 W/\W[m]?=some .bt/\W[m+1]?=some (match s.2 with|none=>.loop .ready none f e a as d|some ex=>.loop .done (some ex.code) f e a as d)
 row:=λs=>V.row s.1
 cA:=λi=>V.cA i\/i=m\/i=m+1
 c:=V.c
def Iz{S:Type}{V:YV S}(c:V.Ok){d:lN}{as n:PC}: (yV V m f e d as n).Ok where
 st:=λs W o ⟨l,k,j⟩ h=>by
  refine⟨c.st _ _ _ l λi a=>h i ?_,?_,?_⟩
  ·rcases a with a|a
   ·exact .inl (.inl a)
   ·exact .inr a
  ·rw[h m (.inl (.inr (.inl rfl)))];exact k
  ·rw[h (m+1) (.inl (.inr (.inr rfl)))];exact j
 lt:=λs W r h g=>c.lt _ _ r h.1 g
def ad1{S:Type}(V:YV S)(P:V.Ok){g:ao}{p:lN}{as t:PC}{Q:bQ}(xs:List lA)(a:Nat)(G W0:List ae)(s0:S)
  (hg:pP X (g.get e)=true) (Iw:O9 X (yV V W0.length f e p as t) (W0.length+2) (g.get e) a G xs) (hG: ∀i,i<G.length->W0[a+i]?=G[i]?) (hGl:a+G.length<=W0.length)
  (q: ∀i,V.cA i->i<W0.length/\ ¬(a<=i/\i<a+G.length)) (hP:V.P s0 W0) (U:V.row s0=none)
  (I:Nat->S->Prop) (J:Ex->S->Prop) (h0:I 0 s0) (hJ: ∀ex s,J ex s-> ∃u,pR ex=some (some u)/\wS u=some ex/\ex.code=u)
  (hb: ∀j x s,xs[j]?=some x->I j s->x.length=p.length/\ ∀W,V.P s W->W0.length+2<=W.length->
    wp X f true as ⟨hU e p x,[]⟩ ⟨W,none⟩ (λex fr IA=>ex= .normal/\ ∃R1,IA=⟨W++R1,none⟩/\
     ∀K,K.length=W.length->V.P s K->wp X f true t fr ⟨K++R1,none⟩ (Pa V (W0.length+2) s K (I (j+1)) J)))
  (h1: ∀n k aj,I xs.length n->V.P n k->W0.length+2<=k.length->k[W0.length]?=some .bt->(∀i,i<W0.length-> ¬V.cA i-> ¬(a<=i/\i<a+G.length)->k[i]?=W0[i]?)->lD V.c (W0.length+2) none aj none (V.row n)->Q .normal ⟨e,[W0.length]⟩ ⟨k,aj⟩)
  (h2: ∀ex n k aj,J ex n->V.P n k->W0.length+2<=k.length->k[W0.length]?=some .bt->(∀i,i<W0.length-> ¬V.cA i-> ¬(a<=i/\i<a+G.length)->k[i]?=W0[i]?)->lD V.c (W0.length+2) none aj none (V.row n)->Q ex ⟨e,[W0.length]⟩ ⟨k,aj⟩):
  wp X f false (.gS g p as t) ⟨e,[]⟩ ⟨W0,none⟩ Q:=by
 obtain⟨m,hm⟩: ∃m,m=W0.length:=⟨_,rfl⟩;rw[<-hm]at Iw
 let B:=yV V m f e p as t
 have hV':B.Ok:=Iz P
 let I':Nat->S×Option Ex->Prop:=λj s=>s.2=none/\I j s.1
 let J':S×Option Ex->Prop:=λs=> ∃ex,s.2=some ex/\J ex s.1
 have vJ: ∀s W r,V.P s W->V.row s=some r->r<W.length:=λs W r h1 h2=>by
  obtain⟨_,_,_,_,h⟩:=P.lt s W r h1 h2;exact(adg.1 h).1
 have aqC: ∀j x s,xs[j]?=some x->I' j s->Iy X B (m+2) (.fn (.yield (m+1)) [] []) x s (λc n=>if c=true then I' (j+1) n else J' n):=by
  rintro j x ⟨s,so⟩ hx ⟨z,hI⟩ W ⟨M,hd,hl⟩ hW lo;simp only at z hI M hl;subst z;simp only at hl;obtain⟨re,hw⟩:=hb j x s hx hI;obtain⟨ex,fr,IA,D0,rfl,R1,rfl,hbd⟩:=hw W M (by omega);have Pc: ∀i,V.cA i\/V.row s=some i->i≠m/\i≠m+1:=by
   rintro i (d|d)
   ·have:=(q i d).1;omega
   ·obtain⟨_,_,_,_,h⟩:=P.lt s W i M d;refine⟨?_,?_⟩
    ·rintro rfl;rw[hd]at h;cases h
    ·rintro rfl;rw[hl]at h;cases h
  obtain⟨K,F⟩: ∃K,K=W.set (m+1) (.loop .busy none f e p as t):=⟨_,rfl⟩;have Bb:K.length=W.length:=by rw[F,afN]
  have Pd:V.P s K:=P.st _ _ _ M λi d=>by rw[F,rp (Pc i d).2]
  obtain⟨IB,fr2,l,O8,n,H,R,O,hex⟩:=hbd K Bb Pd;have Bo: (W++R1)[m+1]?=some (.loop .ready none f e p as t):=by rw[adf (by omega)];exact hl
  have aqE:AS.set ⟨W++R1,none⟩ (m+1) (.loop .busy none f e p as t) 0=⟨K++R1,none⟩:=by
   simp only[AS.set,aeu,ag6,F];rw[aqG _ _ (by omega)]
  have aqF:K[m+1]?=some (.loop .busy none f e p as t):=by rw[F];exact ad0 (by omega)
  have N: ∀i,i=m\/i=m+1-> ¬V.cA i/\V.row s≠some i:=λi d=>⟨λh=>by have:=(q i h).1;omega,λh=>by have:=Pc i (.inr h);omega⟩
  have L:l.heap[m+1]?=some (.loop .busy none f e p as t):=by
   rw[R.2 (m+1) (by omega) (N _ (.inr rfl)).1 (N _ (.inr rfl)).2];exact aqF
  have T:l.heap[m]?=some .bt:=by
   rw[R.2 m (by omega) (N _ (.inl rfl)).1 (N _ (.inl rfl)).2,F,rp (by omega)];exact hd
  have Z: ∀i,V.cA i\/V.row n=some i->i≠m/\i≠m+1:=by
   rintro i (d|d)
   ·have:=(q i d).1;omega
   ·obtain⟨_,_,_,_,h⟩:=P.lt n _ i H d;refine⟨?_,?_⟩
    ·rintro rfl;rw[T]at h;cases h
    ·rintro rfl;rw[L]at h;cases h
  have aCQ:W.length<=l.heap.length:=by have:=R.1;omega
  have DC: ∀ (u:Option PC),pR IB=some u->kq X (D X) Lw (m+1) x ⟨W,lo⟩=some (.ret (.bool u.isNone)
    (finish W.length lo (.bool u.isNone) ⟨l.heap.set (m+1) (.loop (if u.isNone then .ready else .done) u f e p as t),l.lo⟩).2):=by
   intro u D1;unfold kq;simp only[hl];rw[adY re,D0];simp only[Bo,aqE,O8];simp only[endRound,D1,L,AS.set,aeu,ag6]
  have key: ∀ (u:Option PC) (w:Option Ex),pR IB=some u->(match w with|none=>ae.loop .ready none f e p as t|some ex=>.loop .done (some ex.code) f e p as t)= .loop (if u.isNone then .ready else .done) u f e p as t->
    ∃k aj,D X (.fn (.yield (m+1)) [] []) x ⟨W,lo⟩=some (.ret (.bool u.isNone) ⟨k,aj⟩)/\B.P (n,w) k/\B.Fr (s,none) W k/\ (B.row (n,w)=B.row (s,none)\/ ∃r,B.row (n,w)=some r/\W.length<=r)/\lD B.c (m+2) lo aj (B.row (s,none)) (B.row (n,w)):=by
   intro u w D1 Y;obtain⟨o,ho⟩: ∃o,o=ae.loop (if u.isNone then .ready else .done) u f e p as t:=⟨_,rfl⟩;rw[<-ho]at Y;have hD:=Iv (DC u D1);rw[<-ho]at hD;have ad2: ∀k,(∀i,i<W.length->k[i]?=(l.heap.set (m+1) o)[i]?)->(∀i,V.row n=some i->k[i]?=(l.heap.set (m+1) o)[i]?)->W.length<=k.length->B.P (n,w) k/\B.Fr (s,none) W k:=by
    intro k A hrw y;refine⟨⟨P.st _ _ _ H λi d=>?_,?_,?_⟩,y,λi d hp C=>?_⟩
    ·rcases d with d|d
     ·rw[A i (by have:=(q i d).1;omega),rp (Z i (.inl d)).2]
     ·rw[hrw i d,rp (Z i (.inr d)).2]
    ·rw[A m (by omega),rp (by omega)];exact T
    ·rw[A (m+1) (by omega),ad0 (by omega)];exact ahl some Y.symm
    ·have hp1: ¬V.cA i:=λh=>hp (.inl h)
     have Bp:i≠m/\i≠m+1:=⟨λh=>hp (.inr (.inl h)),λh=>hp (.inr (.inr h))⟩;rw[A i d,rp Bp.2,R.2 i (by omega) hp1 C,F,rp Bp.2]
   rcases O with⟨hn,C⟩| ⟨jj,hc,hj,hn,C⟩
   ·have e1: (finish W.length lo (.bool u.isNone) ⟨l.heap.set (m+1) o,l.lo⟩).2=⟨(l.heap.set (m+1) o).take W.length,lo⟩:=by rw[Pb rfl,hn]
    rw[e1]at hD;refine⟨_,_,hD,?_⟩;obtain⟨g1,g2⟩:=ad2 ((l.heap.set (m+1) o).take W.length) (λi d=>by rw[afT d])
     (λi d=>by rw[afT (vJ s W i M (by rw[<-C];exact d))]) (by rw[afS,afN];omega)
    exact⟨g1,g2,.inl C,.inl ⟨rfl,C⟩⟩
   ·have e1: (finish W.length lo (.bool u.isNone) ⟨l.heap.set (m+1) o,l.lo⟩).2=⟨l.heap.set (m+1) o,cJ lo jj⟩:=by
      rw[Pb rfl,hn];simp only;rw[adU (by omega)]
    rw[e1]at hD;refine⟨_,_,hD,?_⟩;obtain⟨g1,g2⟩:=ad2 (l.heap.set (m+1) o) (λi _=>rfl) (λi _=>rfl) (by rw[afN];omega);refine⟨g1,g2,?_,.inr ⟨jj,hc,by omega,rfl⟩⟩;rcases C with C| ⟨r,C,aCR⟩
    ·exact .inl C
    ·exact .inr ⟨r,C,by omega⟩
  cases IB with
  |normal=>
   obtain⟨k,aj,g1,g2,g3,g4,g5⟩:=key none none rfl rfl;exact⟨true,(n,none),k,aj,g1,g2,g3,g4,g5,by simp only[ag6];exact⟨rfl,hex⟩⟩
  |panic v=>exact hex.elim
  |ret=>
   obtain⟨k,aj,g1,g2,g3,g4,g5⟩:=key (some .ret) (some .ret) rfl rfl;exact⟨false,(n,some .ret),k,aj,g1,g2,g3,g4,g5,by simp only[afE,ai5];exact⟨.ret,rfl,hex⟩⟩
  |exit id=>
   obtain⟨k,aj,g1,g2,g3,g4,g5⟩:=key (some (.exit id)) (some (.exit id)) rfl rfl;exact⟨false,(n,some (.exit id)),k,aj,g1,g2,g3,g4,g5,by simp only[afE,ai5];exact⟨.exit id,rfl,hex⟩⟩
 have aqI: ∀i,B.cA i->i<m+2/\ ¬(a<=i/\i<a+G.length):=by
  rintro i (d|rfl|rfl)
  ·have:=q i d;exact⟨by omega,this.2⟩
  ·exact⟨by omega,by omega⟩
  ·exact⟨by omega,by omega⟩
 have aqJ: ∀i,V.cA i\/V.row s0=some i->i<W0.length:=by
  rintro i (d|d)
  ·exact(q i d).1
  ·rw[U]at d;cases d
 have D3:B.P (s0,none) (W0++[.bt,.loop .ready none f e p as t]):=by
  refine⟨P.st _ _ _ hP λi d=>by rw[adf (aqJ i d)],?_,?_⟩
  ·rw[hm,dB rfl];rfl
  ·rw[hm,bE rfl];rfl
 obtain⟨⟨n,w⟩,k,aj,hD,⟨H,A7,E⟩,Ix,y,mn,O⟩:=Iw (m+1) I' J' aqI aqC (W0++[.bt,.loop .ready none f e p as t]) (s0,none) D3 ⟨rfl,h0⟩ (by simp[hm]) U
  (λi d=>by rw[adf (by omega)];exact hG i d) none
 simp only at H E;have aqK: ∀i,V.cA i\/V.row n=some i->i≠m/\i≠m+1:=by
  rintro i (d|d)
  ·have:=(q i d).1;omega
  ·obtain⟨_,_,_,_,h⟩:=P.lt n _ i H d;refine⟨?_,?_⟩
   ·rintro rfl;rw[A7]at h;cases h
   ·rintro rfl;rw[E]at h;cases w<;>cases h
 have ad3: ∀o,V.P n (k.set (m+1) o)/\m+2<=(k.set (m+1) o).length/\ (k.set (m+1) o)[m]?=some .bt/\ (∀i,i<m-> ¬V.cA i-> ¬(a<=i/\i<a+G.length)->(k.set (m+1) o)[i]?=W0[i]?):=by
  intro o;refine⟨P.st _ _ _ H λi d=>by rw[rp (aqK i d).2],by rw[afN];exact y,by rw[rp (by omega)];exact A7,λi d hp hg'=>?_⟩;rw[rp (by omega),mn i (by omega) (λh=>by rcases h with h|h|h;exact hp h;omega;omega) hg',adf (by omega)]
 have aqM: ((AS.push ⟨W0,none⟩ .bt).push (.loop .ready none f e p as t))=(⟨W0++[.bt,.loop .ready none f e p as t],none⟩:AS):=by simp[AS.push]
 have IC: ∀r,endLoop (m+1) ⟨e,[m]⟩ ⟨k,aj⟩=some r->bc X (D X) Lw f false (.gS g p as t) ⟨e,[]⟩ ⟨W0,none⟩=some r:=by
  intro r C;simp only[bc,afE,ai5];rw[adY hg,<-hm,aqM,hD];exact C
 rcases Ix with⟨z,hI⟩| ⟨ex,z,hJx⟩
 ·simp only at z;subst z;simp only at E;obtain⟨q1,q2,q3,q4⟩:=ad3 (.loop .exhausted none f e p as t);refine⟨.normal,⟨e,[m]⟩,⟨k.set (m+1) (.loop .exhausted none f e p as t),aj⟩,IC _ ?_,?_⟩
  ·unfold endLoop;simp only[E,AS.set,aeu,ag6];rfl
  ·rw[hm]at q2 q3 q4⊢;exact h1 n _ aj hI (hm ▸ q1) q2 q3 q4 (hm ▸ O)
 ·simp only at z;subst z;simp only at E;obtain⟨u,j1,j2,j3⟩:=hJ ex n hJx;obtain⟨q1,q2,q3,q4⟩:=ad3 (.loop .exhausted (some ex.code) f e p as t);refine⟨ex,⟨e,[m]⟩,⟨k.set (m+1) (.loop .exhausted (some ex.code) f e p as t),aj⟩,IC _ ?_,?_⟩
  ·unfold endLoop;simp only[E,j3,j2,AS.set,aeu,ag6];rfl
  ·rw[hm]at q2 q3 q4⊢;exact h2 ex n _ aj hJx (hm ▸ q1) q2 q3 q4 (hm ▸ O)
structure kx{S:Type}(V:YV S)(b:Nat)(W0:List ae)(own:Nat->Prop)(s:S)(W:List ae)(lo:oN):Prop where
 P:V.P s W
 len:b<=W.length
 fr: ∀i,i<b-> ¬V.cA i-> ¬own i->W[i]?=W0[i]?
 lo: (lo=none/\V.row s=none)\/ ∃j,V.c<=j/\j<b/\lo=some j
 row: ∀r,V.row s=some r->b<=r
def Pe{S:Type}(V:YV S)(t:V.Ok){g:ao}{o:lN}{as u:PC}{Q:bQ}(xs:List lA)(a:Nat)(G W0:List ae)(l:S)
  (z:pP X (g.get e)=true) (q:vI X (g.get e) a G xs) (D: ∀i,i<G.length->W0[a+i]?=G[i]?) (r:a+G.length<=W0.length)
  (k: ∀i,V.cA i->i<W0.length/\ ¬(a<=i/\i<a+G.length)) (B:V.P l W0) (h:V.row l=none)
  (I:Nat->S->Prop) (J:Ex->S->Prop) (H:I 0 l) (C: ∀ex s,J ex s-> ∃p,pR ex=some (some p)/\wS p=some ex/\ex.code=p)
  (A: ∀j x s,xs[j]?=some x->I j s->x.length=o.length/\ ∀W,V.P s W->W0.length+2<=W.length->
    wp X f true as ⟨hU e o x,[]⟩ ⟨W,none⟩ (λex fr n=>ex= .normal/\ ∃R1,n=⟨W++R1,none⟩/\
     ∀m,m.length=W.length->V.P s m->wp X f true u fr ⟨m++R1,none⟩ (Pa V (W0.length+2) s m (I (j+1)) J)))
  (F: ∀d c aj,I xs.length d->V.P d c->W0.length+2<=c.length->c[W0.length]?=some .bt->(∀i,i<W0.length-> ¬V.cA i-> ¬(a<=i/\i<a+G.length)->c[i]?=W0[i]?)->lD V.c (W0.length+2) none aj none (V.row d)->Q .normal ⟨e,[W0.length]⟩ ⟨c,aj⟩)
  (E: ∀ex d c aj,J ex d->V.P d c->W0.length+2<=c.length->c[W0.length]?=some .bt->(∀i,i<W0.length-> ¬V.cA i-> ¬(a<=i/\i<a+G.length)->c[i]?=W0[i]?)->lD V.c (W0.length+2) none aj none (V.row d)->Q ex ⟨e,[W0.length]⟩ ⟨c,aj⟩):
  wp X f false (.gS g o as u) ⟨e,[]⟩ ⟨W0,none⟩ Q:=
 ad1 V t xs a G W0 l z (λy I J w v=>q _ _ _ I J _ (Iz t) w v) D r k B h I J H C A F E
section
variable{S:Type}{V:YV S}{b:Nat}{W0 W:List ae}{own:Nat->Prop}{s:S}{lo:oN}
def YV.Ok.ID(a:V.Ok)(d:V.P s W)(c:V.row s=some r):r<W.length:=by
 obtain⟨_,_,_,_,h⟩:=a.lt s W r d c
 grind
def kx.push(c:V.Ok)(d: ∀i,V.cA i->i<b)(h:kx V b W0 own s W lo)(L:List ae):kx V b W0 own s (W++L) lo where
 P:=c.st _ _ _ h.P λi a=>by
  have:i<W.length:=by
   rcases a with a|a
   ·have:=d i a;have:=h.len;omega
   ·exact c.ID h.P a
  grind
 len:=by have:=h.len;grind
 fr:=λi a f e=>by rw[adf (by have:=h.len;omega)];exact h.fr i a f e
 lo:=h.lo
 row:=h.row
theorem kx.set(c:V.Ok)(h:kx V b W0 own s W lo){o:ae}(g: ¬V.cA k)(f:V.row s≠some k)(ho:own k\/b<=k):kx V b W0 own s (W.set k o) lo where
 P:=c.st _ _ _ h.P λi a=>by grind
 len:=by rw[afN];exact h.len
 fr:=λi a e d=>by
  rw[rp]
  ·exact h.fr i a e d
  grind
 lo:=h.lo
 row:=h.row
def kx.step(h:kx V b W0 own s W lo){a:S}{d:List ae}(u:V.P a d)(k:V.Fr s W d)(t:V.row a=V.row s\/ ∃r,V.row a=some r/\W.length<=r)(p:lD V.c b lo aj (V.row s) (V.row a)):kx V b W0 own a d aj where
 P:=u
 len:=ahk h.len k.1
 fr:=λi g c f=>by
  have x:=h.len;rw[k.2 i (by omega) c (λe=>by have:=h.row i e;omega)];exact h.fr i g c f
 lo:=by
  rcases p with⟨rfl,e⟩| ⟨j,o,m,rfl⟩
  ·rcases h.lo with⟨c,f⟩|q
   ·grind
   grind
  ·rcases h.lo with⟨rfl,_⟩| ⟨i,n,g,rfl⟩
   ·exact .inr ⟨j,o,m,rfl⟩
   ·obtain⟨q,e,w⟩:=adZ (i:=i) (j:=j)
    grind
 row:=λr e=>by
  rcases t with q| ⟨v,q,l⟩
  ·exact h.row r (by grind)
  ·rw[q]at e;cases e;exact ahk h.len l
def kx.fin(m:V.Ok)(p: ∀i,V.cA i->i<b)(h:kx V b W0 own s W lo){dS:oN}: ∃a aj,(finish b dS (.aw []) ⟨W,lo⟩)=(.aw [],⟨a,aj⟩)/\V.P s a/\b<=a.length/\
  (∀i,i<b-> ¬V.cA i-> ¬own i->a[i]?=W0[i]?)/\lD V.c b dS aj none (V.row s):=by
 have e: (finish b dS (.aw []) ⟨W,lo⟩).1= .aw []:=by
  have r:freeze ⟨W,lo⟩ b 12 (.aw [])=some (.aw []):=zi (aeu _);have key: ∀c:Bool,(if c=true then(match freeze ⟨W,lo⟩ b 12 (.aw [])with|some v'=>(v',(⟨W.take b,dS⟩:AS))|none=>(.aw [],⟨W,gB dS lo⟩))else(.aw [],⟨W,gB dS lo⟩)).1= .aw []:=by grind
  cases lo with
  |none=>exact key true
  |some j=>exact key (decide (b<=j))
 have o:=Pb (n:=b) (lo:=dS) (aj:=lo) (v:=.aw []) (H:=W) rfl;rcases h.lo with⟨rfl,q⟩| ⟨j,l,k,rfl⟩
 ·refine⟨W.take b,dS,Prod.ext e o,?_,?_,?_,.inl ⟨rfl,q⟩⟩
  ·refine m.st _ _ _ h.P λi d=>?_
   grind
  ·rw[afS];have:=h.len;omega
  ·intro i d g f;rw[afT d];exact h.fr i d g f
 ·refine⟨W,cJ dS j,Prod.ext e ?_,h.P,h.len,h.fr,.inr ⟨j,l,k,rfl⟩⟩
  grind
end
def SV(p sz:Nat)(ty:TypeId)(W:List ae)(r:oN)(af:List lA):Prop:=
 (r=none/\af=[]/\W[p]?=some (.box [.aq] none))\/ ∃id ak,r=some id/\af≠[]/\p<id/\W[p]?=some (.box [.ref id ak sz 0 af.length false] none)/\W[id]?=some (.row ak sz ty af)
def SV.st{ty:TypeId}{W f:List ae}{r:oN}(h:SV p sz ty W r af)(j:f[p]?=W[p]?)(g: ∀i,r=some i->f[i]?=W[i]?):SV p sz ty f r af:=by
 rcases h with⟨a,b,c⟩| ⟨id,ak,a,e,b,c,d⟩
 ·exact .inl ⟨a,b,by grind⟩
 ·exact .inr ⟨id,ak,a,e,b,by grind,by grind⟩
theorem SV.row{ty:TypeId}{W:List ae}{r:oN}(h:SV p sz ty W r af)(e:r=some i): ∃v z t es,W[i]?=some (.row v z t es):=by
 rcases h with⟨a,b,c⟩| ⟨id,ak,a,f,b,c,d⟩
 ·grind
 grind
def ad5{H:List ae}{v0:AV}(h:H[p]?=some (.box [v0] tg))(c:v.ck=false)(a:v.cells=[v])(d:p+1<v.refs):km ⟨H,lo⟩ 1 (.ptr p 0) v=some ⟨H.set p (.box [v] tg),cJ lo p⟩:=by
 unfold km;simp only[h,a];rw[adY ⟨c,rfl,afA _⟩];simp only[AS.set];rw[adU (by omega)];rfl
def SV.append{bytes:Nat}{ty:TypeId}{W:List ae}{r:oN}{el:lA}(h:SV p sz ty W r af)(l:p<W.length)(t:0<sz)(w:el.length=sz)(u:aK el=0)(n: (af.length+1)*bytes<=room)(lo:oN):
  ∃v v' o a f,W[p]?=some (.box [v] none)/\dJ ⟨W,lo⟩ ty sz bytes v [el]=some (v',⟨o,lo⟩)/\km ⟨o,lo⟩ 1 (.ptr p 0) v'=some ⟨a,cJ lo p⟩/\SV p sz ty a f (af++[el])/\
   W.length<=a.length/\ (∀i,i<W.length->i≠p->r≠some i->a[i]?=W[i]?)/\ (f=r\/ ∃q,f=some q/\W.length<=q):=by
 have m:0<sz/\ [el].all (λx=>x.length==sz)=true:=⟨t,by grind⟩;rcases h with⟨rfl,rfl,c⟩| ⟨id,ak,rfl,_,g,c,d⟩
 ·have e1:dJ ⟨W,lo⟩ ty sz bytes .aq [el]=some (.ref W.length 0 sz 0 1 false,⟨W++[.row 0 sz ty [el]],lo⟩):=by
    unfold dJ;rw[adY m];simp only[afL,anJ,ak4,Nat.one_ne_zero,ai5];rw[adY (by simpa using n)];rfl
  have k: (W++[ae.row 0 sz ty [el]])[p]?=some (.box [.aq] none):=by rw[adf l];exact c
  refine⟨.aq,_,_,(W++[ae.row 0 sz ty [el]]).set p (.box [.ref W.length 0 sz 0 1 false] none),some W.length,c,e1,?_,.inr ⟨W.length,0,rfl,by simp,l,?_,?_⟩,?_,?_,.inr ⟨_,rfl,afA _⟩⟩
  ·exact ad5 k rfl rfl (by simp only[AV.refs];omega)
  ·exact afD (by rw[aer];omega)
  ·rw[adb (by omega)];simp
  ·simp
  grind
 ·have j:=(adg.1 d).1;have e1:dJ ⟨W,lo⟩ ty sz bytes (.ref id ak sz 0 af.length false) [el]=some (.ref id (ak+1) sz 0 (af.length+1) false,⟨W.set id (.row (ak+1) sz ty (af++[el])),lo⟩):=by
   unfold dJ;rw[adY m];simp only[d];rw[adY ⟨trivial,trivial,trivial,trivial,by omega,by simpa using n⟩];simp[AS.set,b9,u]
  have k: (W.set id (ae.row (ak+1) sz ty (af++[el])))[p]?=some (.box [.ref id ak sz 0 af.length false] none):=by rw[adb (by omega)];exact c
  refine⟨_,_,_,(W.set id (.row (ak+1) sz ty (af++[el]))).set p (.box [.ref id (ak+1) sz 0 (af.length+1) false] none),some id,c,e1,?_,.inr ⟨id,ak+1,rfl,by simp,g,?_,?_⟩,?_,?_,.inl rfl⟩
  ·exact ad5 k rfl rfl (by simp only[AV.refs];omega)
  ·rw[afD (by rw[afN];omega)];simp
  ·rw[adb (by omega),afD j]
  ·simp
  ·intro i A z y;rw[adb (λe=>z e.symm),adb (λe=>y (by rw[e]))]
end
section
variable{X:Ctx}{f:FuncId}{rd:Bool}{E:AS}{Q:bQ}{e:Env}{ms:lN}{bH:List FP}{js:lN}{os:List (aR×lN)}{i:I}{d:oN}{dd t:Nat}{v:AV}
def Bq(bH:List FP)(o:aR)(js:lN)(os:List (aR×lN))(e:Env)(ms:lN)(Q:bQ):AV->AS->Prop:=λv E=>Da bH (o,js) os=true/\Q (.panic v) ⟨e,ms⟩ E
def gD(X:Ctx)(t:Nat)(b:Bool)(d:oN)(i:I)(js:lN)(os:List (aR×lN))(bH:List FP)(e:Env)(ms:lN)(E:AS)(Q:bQ)(c:AV):Prop:=match c with
 |.bool x=>if x=b then aS X i e E (kD X i E bH js os d e ms Q) (Bq bH ⟨some (t,b),d,i⟩ js os e ms Q)else gU X (bH++[.no]) os (Fr.put ⟨e,ms⟩ d .undef) E Q
 |_=>gU X (bH++[.no]) os (Fr.put ⟨e,ms⟩ d .undef) E Q
def ad6{b:Bool}:gU X bH ((⟨some (t,b),d,i⟩,js)::os) ⟨e,ms⟩ E Q=gD X t b d i js os bH e ms E Q (e t):=by
 unfold gD;split
 ·rename_i x a;by_cases h:x=b
  ·subst h;apply propext;simp only[gU,aS,gH,gn,a,beq_self_eq_true,ag6];cases a:exec X (D X) i e E with
   |none=>simp[rk]
   |some o=>
    cases o with
    |ok v g=>
     simp only[rk,OG];by_cases c:rl bH (aY i e E g) js=true
     ·rw[adY c];exact⟨λh=>⟨c,h⟩,λh=>h.2⟩
     ·simp[kD,c]
    |panic v g=>
     simp only[rk,Bq]
     grind
  ·rw[adU h];have: (x==b)=false:=by grind
   simp only[gU,gH,gn,a,this,afE,ai5]
 ·have:gn e (some (t,b))=false:=by
    unfold gn;simp only
  simp only[gU,gH,this,afE,ai5]
def ad7:gU X bH ((gt t d i,js)::os) ⟨e,ms⟩ E Q=gD X t true d i js os bH e ms E Q (e t):=ad6
def ad8:gU X bH ((gf t d i,js)::os) ⟨e,ms⟩ E Q=gD X t false d i js os bH e ms E Q (e t):=ad6
theorem ad9:gD X t true (some dd) i js os bH e ms E Q (.bool true)=aS X i e E (kD X i E bH js os (some dd) e ms Q) (Bq bH ⟨some (t,true),(some dd),i⟩ js os e ms Q):=rfl
theorem aea:gD X t true none i js os bH e ms E Q (.bool true)=aS X i e E (kD X i E bH js os none e ms Q) (Bq bH ⟨some (t,true),none,i⟩ js os e ms Q):=rfl
theorem aeb:gD X t false (some dd) i js os bH e ms E Q (.bool false)=aS X i e E (kD X i E bH js os (some dd) e ms Q) (Bq bH ⟨some (t,false),(some dd),i⟩ js os e ms Q):=rfl
theorem aec:gD X t false none i js os bH e ms E Q (.bool false)=aS X i e E (kD X i E bH js os none e ms Q) (Bq bH ⟨some (t,false),none,i⟩ js os e ms Q):=rfl
theorem aed:gD X t true (some dd) i js os bH e ms E Q (.bool false)=gU X (bH++[.no]) os ⟨e.set dd .undef,ms⟩ E Q:=rfl
theorem aee:gD X t true none i js os bH e ms E Q (.bool false)=gU X (bH++[.no]) os ⟨e,ms⟩ E Q:=rfl
theorem aef:gD X t false (some dd) i js os bH e ms E Q (.bool true)=gU X (bH++[.no]) os ⟨e.set dd .undef,ms⟩ E Q:=rfl
theorem aeg:gD X t false none i js os bH e ms E Q (.bool true)=gU X (bH++[.no]) os ⟨e,ms⟩ E Q:=rfl
theorem aeh{b:Bool}{c:lA}:gD X t b (some dd) i js os bH e ms E Q (.aw c)=gU X (bH++[.no]) os ⟨e.set dd .undef,ms⟩ E Q:=rfl
theorem aei{b:Bool}{c:lA}:gD X t b none i js os bH e ms E Q (.aw c)=gU X (bH++[.no]) os ⟨e,ms⟩ E Q:=rfl
def G1:=gG @ad7<|gG @ad8<|gG @ad9<|gG @aea<|gG @aeb<|gG @aec<|gG @aed<|gG @aee<|gG @aef<|gG @aeg<|gG @aeh @aei
end
def Fz(E:AS)(N d:Nat)(v v':AV):Prop:= ∀k,freeze E N (k+d) v=some v'
def ir(E:AS)(N d:Nat)(cs sU:lA):Prop:= ∀k,iL E N (k+d) cs=some sU
section
variable{E:AS}{N d:Nat}{a a' v v':AV}{cs sU:lA}
def Fz.low(h:v.refs<=N):Fz E N (d+1) v v:=λk=>zi h
def ir.nil:ir E N d [] []:=λk=>by cases h:k+d<;>rw[iL]
def ir.cons(h:Fz E N d a a')(b:ir E N (d+1) cs sU):ir E N (d+1) (a::cs) (a'::sU):=λk=>by
 have e1:=h k;have c:=b k;rw[<-akl]at c⊢;rw[iL,e1]
 grind
def ir.eq(h:ir E N d cs sU)(b:aK cs<=N):sU=cs:=by
 have e1:=h 2;rw[Nat.add_comm 2 d,OW cs b]at e1
 grind
theorem Fz.agg(h:ir E N d cs sU):Fz E N (d+1) (.agg cs) (.agg sU):=λk=>by
 have e1:=h k;rw[<-akl,freeze];split
 ·rename_i b;rw[h.eq b]
 grind
theorem Fz.aw(h:ir E N d cs sU):Fz E N (d+1) (.aw cs) (.aw sU):=λk=>by
 have e1:=h k;rw[<-akl,freeze];split
 ·rename_i b;rw[h.eq b]
 grind
def Fz.own{H:List ae}{ty:TypeId}(h:aQ N H v sz ty af)(b:b9 af<=N):Fz ⟨H,lo⟩ N (d+4) v (bu v af):=λk=>by
 exact h.freeze b
def Fz.mono(h:Fz E N d v v')(b:d<=m):Fz E N m v v':=λk=>by
 have:=h (k+(m-d))
 grind
def vK{H:List ae}(b:aj=none\/ ∃j,N<=j/\aj=some j)(h:Fz ⟨H,aj⟩ N 12 v v'):finish N lo v ⟨H,aj⟩=(v',⟨H.take N,lo⟩):=by
 refine H5 ?_ (by simpa using h 0)
 grind
def SV.own{ty:TypeId}{W:List ae}{r:oN}(h:SV p sz ty W r af)(f:N<=p)(b: ∀el∈af,el.length=sz): ∃v,W[p]?=some (.box [v] none)/\aQ N W v sz ty af/\v.ck=false/\v.cells=[v]/\ (v= .aq\/p+1<v.refs):=by
 rcases h with⟨_,rfl,c⟩| ⟨id,ak,_,_,q,c,e⟩
 ·exact⟨.aq,c,aQ.aq,rfl,rfl,.inl rfl⟩
 ·exact⟨_,c,⟨b,.inr ⟨id,ak,by omega,rfl,e⟩⟩,rfl,rfl,.inr (by simp only[AV.refs];omega)⟩
end
def eH(N:Nat)(lo:oN):Prop:=lo=none\/ ∃j,N<=j/\lo=some j
def eH.min{N:Nat}(h:eH N lo)(b:N<=p)(c:aj=lo\/aj=cJ lo p):eH N aj:=by
 rcases c with rfl|rfl
 ·exact h
 ·rcases h with rfl| ⟨j,g,rfl⟩
  ·exact .inr ⟨p,b,rfl⟩
  ·obtain⟨q,e,f⟩:=adZ (i:=j) (j:=p);exact .inr ⟨q,by omega,e⟩
section
variable{P:Program}{X:Ctx}{B:Nat}{ay:World}
noncomputable def Br(X:Ctx)(dS:oN)(pf:PF):jA->Option aU
 |some (.normal,fr,E)=>(dU E fr.marks).bind λa=>(fQ X a fr.env pf.results).map λv=>.ret v {heap:=a.heap,lo:=gB dS a.lo}
 |some (.ret,fr,E)=>(dU E fr.marks).bind λa=>(fQ X a fr.env pf.results).map λv=>.ret v {heap:=a.heap,lo:=gB dS a.lo}
 |_=>none
noncomputable def oL(X:Ctx)(C:bz)(L:eL)(f:FuncId)(pf:PF)(args:lA)(E:AS):Option aU:=
 if args.length<=pf.ntmps then Br X E.lo pf (bc X C L f false pf.body {env:=dq args,marks:=[]} {heap:=E.heap,lo:=none})else none
def aqN{cn:AS}{G:Gh}{E:AS}(c:gp.le G)(d:aX P B ay G E w)(b:AS.Ext {heap:=cn.heap,lo:=none} E){v:AV}{v':Value}(f:an G v v'):
  ∃a,gp.le a/\aX P B ay a {heap:=E.heap,lo:=gB cn.lo E.lo} w/\an a v v'/\cn.Ext {heap:=E.heap,lo:=gB cn.lo E.lo}:=by
 refine⟨G,c,d.lo _,f,b.len,λj h=>?_,λj o h=>?_⟩
 ·cases E.lo with
  |none=>exact h
  |some l=>exact AR (.inl h)
 ·obtain⟨o',k,i⟩:=b.obj j o h;refine⟨o',k,i.imp id λ ⟨l,e,g⟩=>?_⟩;simp only[gB,e];exact AR (.inr g)
section
variable{C:bz}(hC:fS P B ay C)(hg:fH X B ay)(hX:pV P X)(gT:A2 P X B ay){L:eL}(hL:yS L)
include hC hg hX gT hL
theorem aqO(V:mm P f pf):gJ P B ay f (oL X C L f pf):=by
 intro args E t h G w b hw U;unfold oL at h;split at h
 ·rename_i Y;obtain⟨rows,fn,o,n⟩:=V;obtain⟨c,y,l,m,T,q⟩:=Hw n;have k: (callFunc f b).run P w= .ok (.enter f b) w:=by
   have s: ¬fn.name= "runtime.NumGoroutine" :=by grind
   simp[callFunc,aqv,o,s,y]
  rw[k];show CallsIn (W none) 0 P f b w (Ends P B ay G E t);cases g:bc X C L f false pf.body {env:=dq args,marks:=[]} {heap:=E.heap,lo:=none}with
  |none=>rw[g]at h;simp[Br]at h
  |some res=>
   rw[g]at h;have he:cK G fn.ntmps (dq args) (b++Array.replicate (fn.ntmps-b.size) undef):=Hz U (by omega);refine ayX o y trivial (wV hC hg hX gT hL (r:=none) rfl c pf.body l G {heap:=E.heap,lo:=none} w {env:=dq args,marks:=[]} _ res _ (hw.lo none) he rfl g (λe a w' S=>?_)) rfl;obtain⟨Z,K,J,I,H,F,u⟩:=S;obtain⟨ex,fr,z⟩:=res;have j: ((dU z fr.marks).bind λd=>(fQ X d fr.env pf.results).map λv=>aU.ret v {heap:=d.heap,lo:=gB E.lo d.lo})=some t->LeavesInM (W none) 0 P fn a.tmps (Ends P B ay G E t) a.defers .returning w':=by
    intro h;rw[anY]at h;obtain⟨d,x,h⟩:=h;rw[afF]at h;obtain⟨v,R,rfl⟩:=h;refine yY (by simp) fr.marks a.defers z d w' H J x (λA i=>?_);obtain⟨v',e1,D⟩:=Dt hg i I m R;refine⟨v',e1,?_⟩;obtain⟨p,Q,O,N,M⟩:=aqN K i (F.trans (yT _ _ _ x)) D;exact⟨p,Q,O,N,M⟩
   cases ex with
   |normal=>cases e<;>simp[gb]at u;exact j h
   |ret=>cases e<;>simp[gb]at u;exact j h
   |exit id=>simp[Br]at h
   |panic v=>simp[Br]at h
 grind
end
def xd(hg:fH X B ay)(hX:pV P X)(b: ∀f p,X.bW f=some p->gJ P B ay f p)(a:mm P f pf):gJ P B ay f (oL X (D X) Lw f pf):=
 aqO (Od hg hX b) hg hX (NW hg) adh a
def Bt(X:Ctx)(lo:oN)(b:List RV)(R:aU->Prop):bQ
 |.normal,fr,E=> ∃a v,dU E fr.marks=some a/\fQ X a fr.env b=some v/\R (.ret v {heap:=a.heap,lo:=gB lo a.lo})
 |.ret,fr,E=> ∃a v,dU E fr.marks=some a/\fQ X a fr.env b=some v/\R (.ret v {heap:=a.heap,lo:=gB lo a.lo})
 |_,_,_=>False
def xe(pf:PF){args:lA}{H:List ae}{R:aU->Prop}(j:Nat.ble args.length pf.ntmps=true)
  (h: ∀n,H.length=n->wp X f false pf.body ⟨dq args,[]⟩ ⟨H,none⟩ (Bt X lo pf.results R)): ∃g,oL X (D X) Lw f pf args ⟨H,lo⟩=some g/\R g:=by
 obtain⟨ex,fr,E,i,e⟩:=h _ rfl;unfold oL;rw[adY (ap6 j),i];cases ex with
 |normal=>
  obtain⟨a,v,d,c,b⟩:=e;exact⟨_,by simp only[Br,d,apP,c,afG],b⟩
 |ret=>
  obtain⟨a,v,d,c,b⟩:=e;exact⟨_,by simp only[Br,d,apP,c,afG],b⟩
 |exit _=>trivial
 |panic _=>trivial
def sV{R:aU->Prop}{E:AS}:Bt X lo [.t a] R .ret ⟨e,[]⟩ E=R (.ret (e a) {heap:=E.heap,lo:=gB lo E.lo}):=by
 simp only[Bt,zj,XO]
 grind
end
def iP(W:List ae)(N:Nat):Nat->List ae->Prop
 |_,[]=>True
 |k,b::bs=>W[N+k]?=some b/\iP W N (k+1) bs
theorem gq{W:List ae}{N:Nat}:iP W N k []=True:=rfl
theorem gr{W:List ae}{N:Nat}{b:ae}{bs:List ae}:iP W N k (b::bs)=(W[N+k]?=some b/\iP W N (k+1) bs):=rfl
theorem aej{W:List ae}{N:Nat}: ∀ {k:Nat} {bs:List ae},iP W N k bs-> ∀i,i<bs.length->W[N+k+i]?=bs[i]?
 |_,[],_,i,h=>by grind
 |k,b::bs,⟨c,a⟩,i,h=>by
  cases i with
  |zero=>grind
  |succ i=>
   have:=aej a i (by grind)
   grind
theorem Pf{W:List ae}{N:Nat}: ∀ {k:Nat} {bs:List ae},(∀i,i<bs.length->W[N+k+i]?=bs[i]?)->iP W N k bs
 |_,[],_=>trivial
 |k,b::bs,h=>by
  refine⟨by have:=h 0 (by simp);grind,Pf λi a=>?_⟩;have:=h (i+1) (by grind)
  grind
def iQ(N:Nat)(H W:List ae):Prop:= ∀i,i<N->W[i]?=H[i]?
theorem iQ.take{N:Nat}{H W:List ae}(h:iQ N H W)(b:H.length=N):W.take N=H:=by
 apply anZ;intro i;by_cases a:i<N
 ·rw[afT a];exact h i a
 grind
theorem iQ.set{N:Nat}{H W:List ae}{o:ae}(h:iQ N H W)(b:N<=p):iQ N H (W.set p o):=λi a=>by
 rw[adb (by omega)];exact h i a
def iQ.app{N:Nat}{H L:List ae}(b:H.length=N):iQ N H (H++L):=λi a=>adf (by omega)
def bV{S:Type}(N nB c:Nat)(H:List ae)(B:S->List ae):YV S:=⟨λs W=>iQ N H W/\iP W N 0 (B s),λ_=>none,λi=>i<N+nB,c⟩
def Pg{S:Type}{N c:Nat}{H:List ae}{B:S->List ae}(g: ∀s,(B s).length=nB): (bV N nB c H B).Ok where
 st:=λs W j ⟨f,e⟩ h=>by
  refine⟨λi a=>?_,Pf λi a=>?_⟩
  ·have:i<N+nB:=by omega
   rw[h i (.inl this)];exact f i a
  ·have d:N+0+i<N+nB:=by grind
   rw[h _ (.inl d)];exact aej e i a
 lt:=λs W r _ b=>by cases b
def Bu{S:Type}(N nB:Nat)(B:S->List ae)(W:List ae)(I:S->Prop)(J:Ex->S->Prop):bQ:=λex _ E=>
 E.lo=none/\ ∃a,iP E.heap N 0 (B a)/\W.length<=E.heap.length/\ (∀i,i<W.length-> ¬(N<=i/\i<N+nB)->E.heap[i]?=W[i]?)/\ (match ex with|.normal=>I a|.panic _=>False|ex=>J ex a)
section
variable{S:Type}{N nB:Nat}{B:S->List ae}{W H:List ae}{I:S->Prop}{J:Ex->S->Prop}{fr:Fr}{i:Nat}
def rq:Bu N nB B W I J .normal fr ⟨H,none⟩= ∃a,iP H N 0 (B a)/\W.length<=H.length/\ (∀i,i<W.length-> ¬(N<=i/\i<N+nB)->H[i]?=W[i]?)/\I a:=by simp[Bu]
def aqP:Bu N nB B W I J .ret fr ⟨H,none⟩= ∃a,iP H N 0 (B a)/\W.length<=H.length/\ (∀i,i<W.length-> ¬(N<=i/\i<N+nB)->H[i]?=W[i]?)/\J .ret a:=by simp[Bu]
end
def aek{X:Ctx}{S:Type}{g:ao}{u:lN}{as P:PC}{Q:bQ}(K:Env->Prop)(F:K e)(xs:List lA){N:Nat}{H W0:List ae}(E:H.length=N)(G:List ae)(B:S->List ae)(O: ∀s,(B s).length=nB)
  (v:S) (I:Nat->S->Prop) (J:Ex->S->Prop) (hg:pP X (g.get e)=true) (y:O9 X (yV (bV N nB (W0.length+2) H B) W0.length f e u as P) (W0.length+2) (g.get e) (N+nB) G xs) (l:W0=H++(B v++G)) (h0:I 0 v) (hJ: ∀ex s,J ex s-> ∃w,pR ex=some (some w)/\wS w=some ex/\ex.code=w)
  (hb: ∀e,K e-> ∀j x s,xs[j]?=some x->I j s->x.length=u.length/\ ∀W n,W.length=n->N+nB+G.length+2<=n->iP W N 0 (B s)->
    wp X f true as ⟨hU e u x,[]⟩ ⟨W,none⟩ (λex fr q=>ex= .normal/\ ∃R1,q=⟨W++R1,none⟩/\
     ∀o,o.length=n->iP o N 0 (B s)->wp X f true P fr ⟨o++R1,none⟩ (Bu N nB B o (I (j+1)) J)))
  (h1: ∀e,K e-> ∀c a p,N+nB<=p->I xs.length c->iQ N H a->iP a N 0 (B c)->a[p]?=some .bt->Q .normal ⟨e,[p]⟩ ⟨a,none⟩)
  (h2: ∀e,K e-> ∀ex c a p,N+nB<=p->J ex c->iQ N H a->iP a N 0 (B c)->a[p]?=some .bt->Q ex ⟨e,[p]⟩ ⟨a,none⟩):
  wp X f false (.gS g u as P) ⟨e,[]⟩ ⟨W0,none⟩ Q:=by
 have vL:W0.length=N+nB+G.length:=by grind
 have r: ∀ {aj} {b:Nat},b=W0.length+2->lD (W0.length+2) b none aj none none->aj=none:=by
  rintro aj b rfl (⟨h,_⟩| ⟨j,T,R,_⟩)
  ·exact h
  ·omega
 refine ad1 (bV N nB (W0.length+2) H B) (Pg O) xs (N+nB) G W0 v hg y (λi d=>?_) (by omega) (λi d=>?_) ⟨?_,?_⟩ rfl I J h0 hJ ?_ ?_ ?_
 ·rw[l,<-adV,afJ (by simp only[aer,E,O];omega)]
  congr 1;simp only[aer,E,O];omega
 ·have:i<N+nB:=d;exact⟨by omega,by omega⟩
 ·rw[l];exact iQ.app E
 ·refine Pf λi d=>?_
  rw[l,afJ (by omega),show N+0+i-H.length=i by omega,adf d]
 ·intro j x s Z M;obtain⟨T,R⟩:=hb e F j x s Z M;refine⟨T,λW m U=>?_⟩;refine wp_mono (R W _ rfl (by omega) m.2) ?_;rintro ex fr q ⟨rfl,R1,rfl,C⟩;refine⟨rfl,R1,rfl,λo D t=>?_⟩;refine wp_mono (C o D t.2) ?_;rintro IB fr2 ⟨H2,Y⟩ ⟨rfl,c,c1,c2,V,c4⟩;refine⟨c,⟨λi d=>?_,c1⟩,⟨c2,λi d hp _=>?_⟩,.inl ⟨rfl,rfl⟩,c4⟩
  ·rw[V i (by omega) (by omega)];exact t.1 i d
  ·have oE: ¬i<N+nB:=hp;exact V i d (by omega)
 ·intro c a aj M m hl A z k;obtain rfl:=r rfl k;exact h1 e F c a _ (by omega) M m.1 m.2 A
 ·intro ex c a aj L m hl A z k;obtain rfl:=r rfl k;exact h2 e F ex c a _ (by omega) L m.1 m.2 A
def zk{X:Ctx}{S:Type}{g:ao}{k:lN}{as r:PC}{Q:bQ}(K:Env->Prop)(A:K e)(xs:List lA){N:Nat}{H W0:List ae}(z:H.length=N)(G:List ae)(B:S->List ae)(q: ∀s,(B s).length=nB)
  (h:S) (I:Nat->S->Prop) (J:Ex->S->Prop) (v:pP X (g.get e)=true) (m:vI X (g.get e) (N+nB) G xs) (o:W0=H++(B h++G)) (F:I 0 h) (C: ∀ex s,J ex s-> ∃l,pR ex=some (some l)/\wS l=some ex/\ex.code=l)
  (w: ∀e,K e-> ∀j x s,xs[j]?=some x->I j s->x.length=k.length/\ ∀W n,W.length=n->N+nB+G.length+2<=n->iP W N 0 (B s)->
    wp X f true as ⟨hU e k x,[]⟩ ⟨W,none⟩ (λex fr d=>ex= .normal/\ ∃R1,d=⟨W++R1,none⟩/\
     ∀c,c.length=n->iP c N 0 (B s)->wp X f true r fr ⟨c++R1,none⟩ (Bu N nB B c (I (j+1)) J)))
  (E: ∀e,K e-> ∀b a p,N+nB<=p->I xs.length b->iQ N H a->iP a N 0 (B b)->a[p]?=some .bt->Q .normal ⟨e,[p]⟩ ⟨a,none⟩)
  (D: ∀e,K e-> ∀ex b a p,N+nB<=p->J ex b->iQ N H a->iP a N 0 (B b)->a[p]?=some .bt->Q ex ⟨e,[p]⟩ ⟨a,none⟩):
  wp X f false (.gS g k as r) ⟨e,[]⟩ ⟨W0,none⟩ Q:=
 aek K A xs z G B q h I J v (λy I J u t=>m _ _ _ I J _ (Iz (Pg q)) u t) o F C w E D
section
variable{H:Type}{enc:TypeId×Value->H}{P:Program}{w:World}{sp:Nat->Bool}{held:Bool}
def Bv(P:Program):Nat->TypeId->Bool
 |0,_=>false
 |f+1,t=>match P.underlying t with
  |some .bool=>true
  |some (.int _)=>true
  |some .string=>true
  |some (.slice e)=>Be P false f e
  |some (.struct fs)=>Bd P (Bv P f) fs.toList 0 (P.cellsOf t)
  |some (.array n e)=>Bv P f e&&P.cellsOf t==n*P.cellsOf e
  |_=>false
theorem Ph: ∀ (f:Nat) (t:TypeId) (n:Nat) (cs:List Value) (d:DataW H) (ps:List MemPlace),Bv P f t=true->(∀v∈cs,HU v)->
  DataW.trod enc P w 0 sp held n t cs=some (d,ps)-> ∃xs,im P f t d xs/\aF (Gh.start w) xs cs/\Leaves cs/\xs.length=cs.length
 |0,_,_,_,_,_,r,_,_=>by simp[Bv]at r
 |f+1,t,n,cs,d,ps,r,B,h=>by
  unfold Bv at r;unfold im;cases u:P.underlying t with
  |none=>rw[u]at r;cases r
  |some td=>
   rw[u]at r;cases td with
   |bool=>
    obtain⟨b,rfl,l⟩:=DataW.trod_bool u h;cases l;exact⟨[.bool b],⟨b,rfl,rfl⟩,aF.single.2 rfl,λv g=>by simp at g;subst g;rfl,rfl⟩
   |int k=>
    obtain⟨b,rfl,l,O⟩:=DataW.trod_int u h;cases l;exact⟨[.int k b],⟨b,rfl,rfl,O⟩,aF.single.2 rfl,λv g=>by simp at g;subst g;rfl,rfl⟩
   |string=>
    obtain⟨s,rfl,l,E⟩:=DataW.trod_string u h;cases l;exact⟨[.str s],⟨s,rfl,rfl,E⟩,aF.single.2 rfl,λv g=>by simp at g;subst g;rfl,rfl⟩
   |slice e=>
    rcases DataW.trod_slice u h with⟨rfl,l⟩| ⟨a,len,cap,es,rest,m,rfl,rfl,l,_,hlc,Wp,T,S,_,_⟩
    ·cases l;exact⟨[.aq],.inl ⟨rfl,rfl⟩,aF.single.2 rfl,λv g=>by simp at g;subst g;rfl,rfl⟩
    ·cases l;have E:a.spot=none:=B _ (List.mem_singleton_self _);obtain⟨af,vs,M,L,K,J,Y,h6⟩:=Xk (R:=im P f e) E (λc G p C q=>HV (nest:=false) (λe=>by cases e) f e m c G p r (λe=>by cases e) q) len (by omega) S;refine⟨[.sl af false],.inr ⟨es.map (·.1),rest.map (·.1),af,rfl,rfl,by simp[T,M],by omega,λi x b l V=>?_⟩,aF.single.2 ?_,λv g=>by simp at g;subst g;rfl,rfl⟩
     ·rw[afU,afF]at l;obtain⟨y,N,rfl⟩:=l;exact L i y b N V
     ·refine⟨a.block,a.off,cap,P.cellsOf e,vs,?_,by omega,(λC=>absurd C (by decide)),λel F=>?_,h6,J,br.iff.2 K⟩
      ·rw[M];obtain⟨b,o,s⟩:=a;simp at E;subst E;rfl
      ·obtain⟨j,W⟩:=ava.1 F;have hjl:=(adg.1 W).1;exact(L j es[j] el (aep (by omega)) W).1
   |struct fs=>
    obtain⟨ys,m,rfl,l,I,A,z⟩:=DataW.trod_struct u h;cases l;obtain⟨xs,x1,x2,x3,Z⟩:=Of (R:=im P f) (cs:=cs) (λt' c G p hg C q=>Ph f t' m c G p hg (λv g=>B v (C v g)) q) _ I fs.toList ys 0 r (by simpa using A) (λi fl hi=>z i fl (by simpa using hi));exact⟨xs,⟨_,rfl,x1⟩,by simpa using x2,by simpa using x3,by simpa using Z⟩
   |array k e=>
    simp only[ag9,asa]at r;obtain⟨Q,C⟩:=r;obtain⟨ys,m,rfl,l,I,A,z⟩:=DataW.trod_array u h;cases l;obtain⟨af,M,L,K,J,Y⟩:=Xl (R:=im P f e) (cs:=cs) (λc G p U q=>Ph f e m c G p Q (λv g=>B v (U v g)) q) k (by rw[I,C];exact afA _) (by omega) z;have D:k*P.cellsOf e=cs.length:=by rw[I,C]
    rw[D,afK]at K J;exact⟨af.flatten,⟨_,af,rfl,rfl,by simpa using A,M,λi a b X V=>by
     rw[afU,afF]at X;obtain⟨y,N,rfl⟩:=X;exact L i y b N V⟩,K,J,by rw[Y,D]⟩
   |_=>cases r
def aqQ{b:Nat}{u:TypeId}{v:Value}(h:Cell.okWide P w .any b u v):HU v:=by
 cases v with
 |slice a len cap=>
  cases a with
  |none=>trivial
  |some a=>
   unfold Cell.okWide at h;cases hu:P.underlying u with
   |none=>simp[hu,Cell.ok]at h
   |some td=>cases td<;>simp[hu,Cell.ok]at h<;>exact h.2.2.2.1
 |_=>trivial
def aqR{t:TypeId}{f:Nat}{v:Value}{d:DataW H}{g:List MemPlace}{b:Nat}{fs:Array Field}(k:P.underlying t=some (.struct fs))(l:Bv P f t=true)(a:Value.okWide P w .any b t v)
  (h:DataW.Trod enc P w 0 sp held t v d g): ∃xs,an (Gh.start w) (.agg xs) v/\im P f t d xs/\xs.length=P.cellsOf t:=by
 unfold Value.okWide at a;rw[k]at a;obtain⟨cs,rfl,e,ts,_,_,c⟩:=a;obtain⟨n,h⟩:=h;obtain⟨xs,r,q,p,o⟩:=Ph f t n cs.toList d g l (λv j=>by
  obtain⟨i,m⟩:=ava.1 j;obtain⟨u,_,hu⟩:=c i v (by simpa using m);exact aqQ hu) h
 exact⟨xs,⟨cs,rfl,q,p⟩,r,by rw[o];simpa using e⟩
end
end Go.Den
