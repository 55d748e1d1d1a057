/- A part. -/
import Derived.Test.YteplichagkpciaaGreatDoorD1
import Derived.Orders
import Derived.Carry
import Derived.ChangeArms
import Derived.OpenShut
import Derived.RecoverIn
import Derived.LaidHandle
import Derived.LaidMore
import Derived.WideShapes
set_option linter.all false
set_option maxRecDepth 10000
set_option maxHeartbeats 1000000
namespace Go.Den
open Go Go.RowKit
abbrev lA:=List AV
variable{l t a i j m n k sz r aj a' p:Nat}{v:AV}{d lo ak:oN}{e:Env}{w:World}{b:PC}{z vs:lA}{tg:Option TypeId}{fL:Gh}{f:FuncId}{x y:ao}{c ag:Bool}{pf:PF}{k':IntKind}{af:List lA}
def ag7:=@List.length_set
def ahd:=@List.mem_cons_of_mem
def ahe:=@Array.getD_eq_getD_getElem?
def aip:=@List.append_nil
def aiE:=@List.getElem?_take_of_lt
def aiG:=@List.getElem?_map
def amC:=@Option.getD_some
def anz:=@Bool.true_and
def anA:=@List.length_drop
def aoG:=@Nat.mod_lt
def aoJ:=@Classical.byContradiction
def aoK:=@List.mem_zipIdx_iff_getElem?
def aoY:=@List.length_nil
def ao9:=@Option.bind_eq_some_iff
def apa:=@List.pairwise_append
def ape:=@List.take_left'
def apu:=@List.set_append_right
def apw:=@and_true
def apy:=@List.pairwise_cons
def aqP:=@List.mem_range
def aqQ:=@Nat.not_lt_zero
def aqZ:=@List.range_succ
def aq1:=@List.getElem?_range
def aq5:=@Prod.mk.injEq
def ara:=@Nat.le_of_ble_eq_true
def arf:=@Array.getElem?_toList
def arh:=@Array.all_eq_true_iff_forall_mem
def aro:=@List.getElem?_cons_zero
def arD:=@List.prefix_append
def arG:=@Bool.true_or
def arK:=@Bool.false_or
def arP:=@List.set_append_left
def arQ:=@List.mem_of_find?_eq_some
def att:=@Nat.le_max_right
def aut:=@List.mem_iff_getElem?
def auI:=@List.contains_iff_mem
def auJ:=@Nat.lt_succ_self
def auL:=@List.getElem_mem
def avU:=@List.getElem?_of_mem
def ayw:=@List.append_of_mem
def aza:=@List.getElem?_cons_succ
def azc:=@Bool.and_true
def azi:=@Option.getD_none
def azq:=@true_and
def aAO:=@List.getElem?_zipIdx
def aBk:=@List.find?_eq_none
def aBm:=@Nat.lt_trichotomy
def aBq:=@List.pairwise_map
def aCv:=@List.length_range
def aCF:=@Int.toNat_natCast
def aCZ:=@List.isEmpty_iff
theorem gG{a b:Prop}(x:a)(y:b):a/\b:=⟨x,y⟩
section
variable{X:Ctx}
def jv(X:Ctx)(C:bu)(xs:Nat->aO)(F:Nat->FP):lN->Fr->AS->Fr->AS->Prop
 | [],fr,E,b,c=>b=fr/\c=E
 |i::l,fr,E,b,c=>
  (fK fr.env (xs i).g=true/\ ∃v a,exec X C (xs i).i fr.env E=some (.ok v a)/\ba (xs i).i fr.env E a=F i/\jv X C xs F l (fr.put (xs i).dst v) a b c)\/
  (fK fr.env (xs i).g=false/\F i= .no/\jv X C xs F l (fr.put (xs i).dst .undef) E b c)
def apM{l m:lN}:CZ l m=true↔ ∀x∈l,x∉m:=by
 simp[CZ,ag6]
def Dj{a:Fr}{dst:oN}(h:t∉dst.toList): (a.put dst v).env t=a.env t:=by
 cases dst with
 |none=>rfl
 |some d=>
  simp only[Fr.put,Env.set]
  grind
def apN{f:Fr}{c:oN}{w:AV}(h: ∀x∈d.toList,x∉c.toList): (f.put d v).put c w=(f.put c w).put d v:=by
 cases d with
 |none=>rfl
 |some a=>
  cases c with
  |none=>rfl
  |some b=>
   have g:a≠b:=λe=>h a (by simp) (by grind)
   simp only[Fr.put]
   congr 1
   funext t
   simp only[Env.set]
   grind
def Yt{g:Option (Nat×Bool)}{a:Env}(h: ∀t∈(match g with|some (t,_)=>[t]|none=>[]),e t=a t):fK e g=fK a g:=by
 cases g with
 |none=>rfl
 |some p=>simp only[fK];grind
def apO{C:bu}{xs:Nat->aO}{F:Nat->FP}{l:lN}{a q:Fr}{E D:AS}(n:jV (xs i) (xs j)=true)(x: (F i).ok (F j)=true)(h:jv X C xs F (i::j::l) a E q D):jv X C xs F (j::i::l) a E q D:=by
 simp only[jV,aiq,apM]at n;obtain⟨⟨M,L⟩,K⟩:=n;have B: ∀v,∀t∈(xs j).reads,(a.put (xs i).dst v).env t=a.env t:=λv t d=>Dj λy=>M t y d
 have ex: ∀v,∀t∈(xs i).reads,(a.put (xs j).dst v).env t=a.env t:=λv t d=>Dj λy=>L t y d
 have e: ∀v,∀t∈(xs j).i.reads,(a.put (xs i).dst v).env t=a.env t:=λv t d=>B v t (by simp[aO.reads,d])
 have f: ∀v,∀t∈(xs i).i.reads,(a.put (xs j).dst v).env t=a.env t:=λv t d=>ex v t (by simp[aO.reads,d])
 have s: ∀v,fK (a.put (xs i).dst v).env (xs j).g=fK a.env (xs j).g:=λv=>Yt λt d=>B v t (by
  simp only[aO.reads,agT];grind)
 have u: ∀v,fK (a.put (xs j).dst v).env (xs i).g=fK a.env (xs i).g:=λv=>Yt λt d=>ex v t (by
  simp only[aO.reads,agT];grind)
 have comm: ∀v w,(a.put (xs i).dst v).put (xs j).dst w=(a.put (xs j).dst w).put (xs i).dst v:=λv w=>apN K
 simp only[jv]at h⊢;rcases h with⟨o,v,c,A,m,h⟩| ⟨o,m,h⟩
 ·rcases h with⟨g1,w,b,g2,k,g⟩| ⟨g1,k,g⟩
  ·rw[s]at g1;have z:exec X C (xs j).i a.env c=some (.ok w b):=by rw[<-Ht (e v)];exact g2
   have p:ba (xs j).i a.env c b=F j:=by rw[<-Hu (e v)];exact k
   obtain⟨r,J,I,H,G⟩:=apL A z (by rw[m,p];exact x);refine .inl ⟨g1,w,r,J,by rw[H];exact p,.inl ⟨by rw[u];exact o,v,b,?_,?_,by rw[<-comm];exact g⟩⟩
   ·rw[Ht (f w)];exact I
   ·rw[Hu (f w),G];exact m
  ·rw[s]at g1;refine .inr ⟨g1,k,.inl ⟨by rw[u];exact o,v,c,?_,?_,by rw[<-comm];exact g⟩⟩
   ·rw[Ht (f _)];exact A
   ·rw[Hu (f _)];exact m
 ·rcases h with⟨g1,w,b,g2,k,g⟩| ⟨g1,k,g⟩
  ·rw[s]at g1;refine .inl ⟨g1,w,b,by rw[<-Ht (e _)];exact g2,by rw[<-Hu (e _)];exact k,.inr ⟨by rw[u];exact o,m,by rw[<-comm];exact g⟩⟩
  ·rw[s]at g1;exact .inr ⟨g1,k,.inr ⟨by rw[u];exact o,m,by rw[<-comm];exact g⟩⟩
theorem N3{C:bu}{xs:Nat->aO}{F:Nat->FP}{j:Nat}{b:lN}: ∀ (a:lN) (fr c:Fr) (E e:AS),(∀i∈a,jV (xs i) (xs j)=true/\ (F i).ok (F j)=true)->jv X C xs F (a++j::b) fr E c e->jv X C xs F (j:: (a++b)) fr E c e
 | [],_,_,_,_,_,h=>h
 |i::a,fr,c,E,e,f,h=>by
  have g:=f i (by simp);refine apO g.1 g.2 ?_;simp only[akr]at h;rw[jv]at h⊢;have n:=λfr E (h:jv X C xs F (a++j::b) fr E c e)=>N3 a fr c E e (λk p=>f k (by grind)) h
  rcases h with⟨m,v,d,o,l,h⟩| ⟨m,l,h⟩
  ·exact .inl ⟨m,v,d,o,l,n _ _ h⟩
  simp_all
theorem N4{C:bu}{xs:Nat->aO}: ∀ (ys:List (aO×lN)) (a:List FP) (fr:Fr) (E:AS) (res:Ex×Fr×AS),(∀q y,ys[q]?=some y->xs (a.length+q)=y.1)->fY X C a ys fr E=some res->res.1= .normal->
  ∃F:Nat->FP,(∀m,m<a.length->F m=a.getD m .all)/\res.1= .normal/\jv X C xs F ((List.range ys.length).map (a.length+ ·)) fr E res.2.1 res.2.2/\
   ∀q y,ys[q]?=some y-> ∀k∈y.2,k<a.length+q->(F k).ok (F (a.length+q))=true
 | [],a,fr,E,res,t,h,r=>by
   simp only[fY,afh]at h;subst h;exact⟨λm=>a.getD m .all,λ_ _=>rfl,rfl,⟨rfl,rfl⟩,by simp⟩
 |o::ys,a,fr,E,res,t,h,r=>by
  have b:xs a.length=o.1:=by simpa using t 0 o rfl
  have j: ∀ (f:FP) q y,ys[q]?=some y->xs ((a++[f]).length+q)=y.1:=by
   intro f q y l;have:=t (q+1) y (by simpa using l);rw[<-this];congr 1;simp;omega
  have d: ∀f:FP,(List.range (o::ys).length).map (a.length+ ·)=a.length:: (List.range ys.length).map ((a++[f]).length+ ·):=by
   intro f;simp only[ag5,List.range_succ_eq_map,anw,aCY,ahc]
   congr 1
   apply awB;intro k _;simp;omega
  have fin: ∀ (f:FP) (F:Nat->FP),(∀m,m< (a++[f]).length->F m=(a++[f]).getD m .all)->F a.length=f/\ ∀m,m<a.length->F m=a.getD m .all:=by
   intro f F s;refine⟨?_,λm hm=>?_⟩
   ·rw[s _ (by simp)];simp
   ·rw[s m (by simp;omega)];simp[aha,aez hm]
  have c: ∀ (f:FP) (F:Nat->FP),(∀m,m<a.length->F m=a.getD m .all)->(∀k∈o.2,k<a.length->(a.getD k .all).ok (F a.length)=true)->
    (∀q y,ys[q]?=some y-> ∀k∈y.2,k< (a++[f]).length+q->(F k).ok (F ((a++[f]).length+q))=true)->
    ∀q y,(o::ys)[q]?=some y-> ∀k∈y.2,k<a.length+q->(F k).ok (F (a.length+q))=true:=by
   intro f F s w u q y l k n i;cases q with
   |zero=>
    simp at l;subst l;rw[ahc]at i⊢;rw[s k i];exact w k n i
   |succ q=>
    have:=u q y (by simpa using l) k n (by simp;omega);have e: (a++[f]).length+q=a.length+(q+1):=by simp;omega
    rw[e]at this;exact this
  simp only[fY]at h;split at h
  ·rename_i hw;split at h
   ·rename_i v g hex;split at h
    ·rename_i p;obtain⟨F,f1,f2,f3,f4⟩:=N4 ys _ _ _ res (j _) h r;obtain⟨g1,g2⟩:=fin _ F f1;refine⟨F,g2,f2,?_,c _ F g2 (λk n _=>?_) f4⟩
     ·rw[d (ba o.1.i fr.env E g)];refine .inl ⟨by rw[b];exact hw,v,g,by rw[b];exact hex,by rw[b,g1],by rw[b];exact f3⟩
     ·rw[g1];exact ag6.1 p k n
    ·cases h
   ·split at h
    ·cases h;cases r
    ·cases h
   ·cases h
  ·rename_i hw;obtain⟨F,f1,f2,f3,f4⟩:=N4 ys _ _ _ res (j _) h r;obtain⟨g1,g2⟩:=fin _ F f1;refine⟨F,g2,f2,?_,c _ F g2 (λk n _=>?_) f4⟩
   ·rw[d .no];exact .inr ⟨by rw[b];simpa using hw,g1,by rw[b];exact f3⟩
   ·rw[g1];cases a.getD k .all<;>rfl
theorem Yu{C:bu}{xs:Nat->aO}: ∀ (ys:List (aO×lN)) (a:List FP) (fr:Fr) (E:AS) (res:Ex×Fr×AS),(∀q y,ys[q]?=some y->xs (a.length+q)=y.1)->fY X C a ys fr E=some res->res.1≠ .normal->
  ∃ (F:Nat->FP) (p:Nat) (v:AV) (b:AS) (y:aO×lN),(∀m,m<a.length->F m=a.getD m .all)/\ys[p]?=some y/\res.1= .panic v/\jv X C xs F ((List.range p).map (a.length+ ·)) fr E res.2.1 b/\
    fK res.2.1.env (xs (a.length+p)).g=true/\exec X C (xs (a.length+p)).i res.2.1.env b=some (.panic v res.2.2)/\
    (∀q y,q<p->ys[q]?=some y-> ∀k∈y.2,k<a.length+q->(F k).ok (F (a.length+q))=true)/\
    y.2=[]/\y.1.i.cls≠0/\ (y.1.i.cls=2\/ ∀m,m<a.length+p->F m≠ .no)/\ ∀q d,p<q->ys[q]?=some d->if d.1.i.cls=0 then jV y.1 d.1=false else a.length+p∉d.2
 | [],a,fr,E,res,G,h,L=>by
   simp only[fY,afh]at h
   grind
 |o::ys,a,fr,E,res,G,h,L=>by
  have c:xs a.length=o.1:=by simpa using G 0 o rfl
  have D: ∀ (f:FP) q y,ys[q]?=some y->xs ((a++[f]).length+q)=y.1:=by
   intro f q y u;have:=G (q+1) y (by simpa using u);rw[<-this];congr 1;simp;omega
  have w: ∀ (f:FP) (p:Nat),(List.range (p+1)).map (a.length+ ·)=a.length:: (List.range p).map ((a++[f]).length+ ·):=by
   intro f p;simp only[List.range_succ_eq_map,anw,aCY,ahc]
   congr 1
   apply awB;intro k _;simp;omega
  have e1: ∀ (f:FP) (q:Nat),(a++[f]).length+q=a.length+(q+1):=λf q=>by simp;omega
  have fin: ∀ (f:FP) (F:Nat->FP),(∀m,m< (a++[f]).length->F m=(a++[f]).getD m .all)->F a.length=f/\ ∀m,m<a.length->F m=a.getD m .all:=by
   intro f F s;refine⟨?_,λm hm=>?_⟩
   ·rw[s _ (by simp)];simp
   ·rw[s m (by simp;omega)];simp[aha,aez hm]
  have next: ∀ (f:FP) (g:Fr) (i:AS),fY X C (a++[f]) ys g i=some res->(∀ (F:Nat->FP) l j A,F a.length=f->jv X C xs F l g i j A->jv X C xs F (a.length::l) fr E j A)->(∀k∈o.2,(a.getD k .all).ok f=true)->
    ∃ (F:Nat->FP) (p:Nat) (v:AV) (b:AS) (y:aO×lN),(∀m,m<a.length->F m=a.getD m .all)/\ (o::ys)[p]?=some y/\res.1= .panic v/\jv X C xs F ((List.range p).map (a.length+ ·)) fr E res.2.1 b/\
      fK res.2.1.env (xs (a.length+p)).g=true/\exec X C (xs (a.length+p)).i res.2.1.env b=some (.panic v res.2.2)/\
      (∀q y,q<p->(o::ys)[q]?=some y-> ∀k∈y.2,k<a.length+q->(F k).ok (F (a.length+q))=true)/\
      y.2=[]/\y.1.i.cls≠0/\ (y.1.i.cls=2\/ ∀m,m<a.length+p->F m≠ .no)/\ ∀q d,p<q->(o::ys)[q]?=some d->if d.1.i.cls=0 then jV y.1 d.1=false else a.length+p∉d.2:=by
   intro f g i h t I;obtain⟨F,p,v,b,y,f1,f2,f3,f4,f5,f6,f7,f8,f9,f10,f11⟩:=Yu ys _ _ _ res (D f) h L;obtain⟨g1,g2⟩:=fin f F f1;refine⟨F,p+1,v,b,y,g2,by simpa using f2,f3,?_,by rw[<-e1 f];exact f5,by rw[<-e1 f];exact f6,?_,f8,f9,f10.imp id λf10 m hm=>f10 m (by rw[e1];exact hm),?_⟩
   ·rw[w f];exact t F _ _ _ g1 f4
   ·intro q d u n k x r;cases q with
    |zero=>
     simp at n;subst n;rw[ahc]at r⊢;rw[g1,g2 k r];exact I k x
    |succ q=>
     have:=f7 q d (by omega) (by simpa using n) k x (by rw[e1];exact r);rw[e1]at this;exact this
   ·intro q d u n;cases q with
    |zero=>omega
    |succ q=>
     have:=f11 q d (by omega) (by simpa using n);rw[e1]at this;exact this
  simp only[fY]at h;split at h
  ·rename_i hw;split at h
   ·rename_i v b hex;split at h
    ·rename_i z;exact next _ _ _ h (λF l j A s H=>.inl ⟨by rw[c];exact hw,v,b,by rw[c];exact hex,by rw[c,s],by rw[c];exact H⟩) (λk x=>ag6.1 z k x)
    ·cases h
   ·rename_i v A hex;split at h
    ·rename_i K;cases h;simp only[C0,aiq,aqR,aud,aCZ,bne_iff_ne]at K;obtain⟨O,N,B,M⟩:=K;refine⟨λm=>a.getD m .all,0,v,E,o,λ_ _=>rfl,rfl,rfl,⟨rfl,rfl⟩,by rw[ahc,c];exact hw,by rw[ahc,c];exact hex,λq y u=>by omega,O,N,?_,?_⟩
     ·refine B.imp id λB m hm=>?_
      rw[ahc]at hm;have:=ag6.1 B a[m] (auL hm);simp only[aha,afu hm,amC];intro e;rw[e]at this;cases this
     ·intro q d u n;cases q with
      |zero=>omega
      |succ q=>
       have:=ag6.1 M d (am9 (by simpa using n:ys[q]?=some d));split
       ·rename_i J;rw[afl J]at this;simpa using this
       ·rename_i J;rw[afi J]at this;rw[ahc];simpa using this
    ·cases h
   ·cases h
  ·rename_i hw;exact next .no _ _ h (λF l j A s H=>.inr ⟨by rw[c];simpa using hw,s,by rw[c];exact H⟩) (λk x=>by cases a.getD k .all<;>rfl)
end
section
variable{P:Program}{X:Ctx}{B:Nat}{av:World}{cS:List Deferred}
theorem Yv(f:FP):FP.ok .no f=true:=by rfl
def Yw(f:FP):FP.ok f .no=true:=by cases f<;>rfl
theorem yi{C:bu}{xs:Nat->aO}{F:Nat->FP}{i:Nat}(d: (xs i).i.cls=0): ∀ (l:lN) (fr b:Fr) (E e:AS),i∈l->jv X C xs F l fr E b e->F i= .no
 | [],_,_,_,_,a,_=>by grind
 |j::l,fr,b,E,e,a,h=>by
  rcases aiK.1 a with rfl|a
  ·rcases h with⟨_,v,c,_,f,_⟩| ⟨_,f,_⟩
   ·grind [Yo]
   omega
  ·rcases h with⟨_,v,c,_,_,h⟩| ⟨_,_,h⟩
   ·exact yi d l _ _ _ _ a h
   ·exact yi d l _ _ _ _ a h
theorem Yx{rows:Bool}{ops:Array Oper}: ∀ {os:List Oper} {xs:List aO},kO P rows ops os=some xs->xs.length=os.length/\ ∀ (i:Nat) (o:Oper),os[i]?=some o-> ∃x,xs[i]?=some x/\ic P rows ops o=some x
 | [],xs,h=>by
   simp only[kO,afh]at h;grind
 |o::os,xs,h=>by
  simp only[kO]at h;split at h
  ·rename_i x a c b;obtain⟨e1,d⟩:=Yx b
   grind
  grind
theorem Yy{ops:Array Oper}{e:Nat}: ∀n:Nat,e<n->(uo ops n).getD (n-1-e) 0=(uo ops (e+1)).headD 0
 |0,h=>absurd h (aqQ _)
 |n+1,h=>by
  by_cases he:e=n
  ·subst he;simp[uo]
  ·have a:e<n:=by omega
   rw[show n+1-1-e=(n-1-e)+1 by omega,<-Yy n a];simp[uo]
theorem Yz{b:lN}{n a:Nat}{S:Nat->Prop}: ∀es:lN,(∀e∈es,S e)->(∀e∈es,e<n->Nat.testBit (b.getD (n-1-e) 0) a=true->S a)->Nat.testBit (Ag b n es) a=true->S a
 | [],_,_,h=>by simp[Ag]at h
 |e::es,f,d,h=>by
  have e1:Ag b n (e::es)=(1<<<e||| (if e<n then b.getD (n-1-e) 0 else 0))|||Ag b n es:=rfl;rw[e1,Nat.testBit_or,Nat.testBit_or,aqR,aqR]at h;rcases h with(h|h)|h
  ·simp_all[Nat.one_shiftLeft,Nat.testBit_two_pow,amB]
  ·grind
  ·exact Yz es (λx c=>f x (ahd _ c)) (λx c=>d x (ahd _ c)) h
def N5{ops:Array Oper}{S:Nat->Prop}(g: ∀j,S j-> ∀o,ops[j]?=some o-> ∀a∈kQ o,S a)(k i:Nat)(o:Oper)(ho:ops[i]?=some o)(d: ∀a∈kQ o,S a): ∀a∈gE ops k i,S a:=by
 intro a h;unfold gE at h;have key: ∀n i:Nat,i<n-> ∀o,ops[i]?=some o->(∀a∈kQ o,S a)->Nat.testBit ((uo ops (i+1)).headD 0) a=true->S a:=by
  intro n
  induction n with
  |zero=>simp
  |succ n l=>
   intro i m o ho d f;simp only[uo,List.headD_cons,ho]at f;refine Yz _ d (λe hm b c=>?_) f;rw[Yy i b]at c
   grind
 grind
def YA{a:Region.Mode}{e:Edge}(h:Region.binds .any e=true):Region.binds a e=true:=by
 unfold Region.binds at h⊢
 grind
theorem N6{a:Region.Mode}{ops:Array Oper}{l:lN}{S:Nat->Prop}(f: ∀x,x<ops.size->x∉l->S x): ∀ (ord pre:lN),GY a ops pre ord=true->(∀x∈pre,x<ops.size/\x∉l)->(∃x∈ord,x∈l)->
  ∃x∈l,∃o,ops[x]?=some o/\ ∀e∈o.after.toList,Region.binds a e=true->S e.on
 | [],_,_,_,⟨x,c,_⟩=>by grind
 |i::ord,pre,h,b,hex=>by
  simp only[GY,aiq]at h;obtain⟨j,g⟩:=h;split at j
  ·by_cases d:i∈l
   ·grind
   ·refine N6 f ord (i::pre) g (λx c=>?_) ?_
    ·grind
    grind
  grind
def Gh.later(G:Gh)(os:List ae):Gh:={G with n:=G.n+os.length,pz:=λi=>if i<G.n then G.pz i else os[i-G.n]?}
theorem Gh.yj(G:Gh)(os:List ae):G.le (G.later os):=
 .mk' (λ_ _ _ h=>h) (by simp[Gh.later]) (λi a=>by simp[Gh.later,a]) (λ_ _=>agW _) (λ_ _ _=>⟨rfl,rfl,rfl,rfl⟩)
def Gh.Hw{G:Gh}{os:List ae}(h: (G.later os).on i):G.on i:=by
 obtain⟨c,a⟩:=h;simp only[Gh.later]at c a;by_cases b:i<G.n
 ·rw[afl b]at a;exact⟨b,a⟩
 grind
theorem aU.later{G:Gh}{E:AS}(h:aU P B av G E w){os:List ae}(ho: ∀o∈os,∃z tg,o= .box z tg/\aG z=0):aU P B av (G.later os) (E.mg os) w where
 len:=by simp[Gh.later,AS.mg,h.len]
 bt:=h.bt
 obj id o e b:=by
  simp only[Gh.later]at b;simp only[AS.mg]at e;by_cases a:id<G.n
  ·rw[afl a]at b;rw[aez (by rw[<-h.len];exact a)]at e;exact ie.mono (G.yj os) ⟨a,b⟩ rfl rfl (h.obj id o e b)
  ·rw[afi a]at b;rw[ag8 (by rw[<-h.len];omega),<-h.len,b]at e;cases e
 inj i j a d e:=h.inj i j (Gh.Hw a) (Gh.Hw d) e
 sep i a o:=h.sep i (Gh.Hw a) o
 low i a:=h.low i (Gh.Hw a)
 lJ:=h.lJ
 hB:=h.hB
 lK id o c b:=by
  simp only[Gh.later]at c b;simp only[AS.mg];by_cases a:id<G.n
  ·rw[afl a]at b;obtain⟨g,f⟩:=h.lK id o a b
   grind
  ·rw[afi a]at b;exact⟨by rw[ag8 (by rw[<-h.len];omega),<-h.len];exact b,ho o (am9 b)⟩
 dA:=h.dA
theorem AS.Ext.mg(E:AS)(os:List ae):E.Ext (E.mg os)where
 len:=by simp[AS.mg]
 lo _ h:=h
 obj j x e:=⟨x,by
  have:j<E.heap.length:=(aeA.1 e).1;simp[AS.mg,aez this,e],.inl λ_ k=>k.mono (by omega)⟩
def Gh.real(G:Gh)(id b:Nat):Gh:=
 {G with aY:=λi=>if i=id then b else G.aY i,aj:=λi=>if i=id then 0 else G.aj i,pz:=λi=>if i=id then none else G.pz i}
def Gh.Hx{G:Gh}{id b:Nat}{o:ae}(d:G.pz id=some o):G.sub (G.real id b):=by
 have c: ∀i,G.on i->i≠id:=λi a e=>by rw[e]at a;rw[a.2]at d;cases d
 exact{bt:=λ_ _ _ h=>h,n:=agW _,on:=λi a=>⟨a.1,by simp only[Gh.real];rw[afi (c i a)];exact a.2⟩,
       aj:=λi a=>by simp only[Gh.real];grind,same:=λi a _=>by simp[Gh.real,c i a]}
def Gh.Hy{G:Gh}{id b:Nat}(h: (G.real id b).on i):i=id\/ (i≠id/\G.on i):=by
 obtain⟨c,a⟩:=h;simp only[Gh.real]at c a;by_cases e:i=id
 ·omega
 ·rw[afi e]at a;exact .inr ⟨e,c,a⟩
def Hz{rows:Bool}{o:Oper}(h:kN P rows o=some (.alloc z tg)): ∃t,o.op= .alloc t/\gC P t=some z/\tg=rW z t:=by
 cases a:o.op with
 |alloc t=>
  simp only[kN,a]at h;obtain⟨e,d,b⟩:=agY.1 h;cases b;exact⟨t,rfl,d,rfl⟩
 |call c=>
  exfalso;simp only[kN,a,C2]at h
  repeat' split at h
  all_goals first| (cases h;done)| (simp only[agY]at h;obtain⟨_,_,h⟩:=h;cases h;done)|skip
 |_=>
  exfalso;simp only[kN,a]at h
  (repeat' split at h)<;>first| (cases h;done)| (simp only[agY]at h;obtain⟨_,_,h⟩:=h;first| (cases h;done)| (split at h<;>cases h))| (simp_all;done)
theorem aU.real{G:Gh}{E:AS}(h:aU P B av G E w){id:Nat}{t:TypeId}(s:id<G.n)(H:G.pz id=some (.box z (rW z t)))(N:gC P t=some z):
  ∃w',(Instr.alloc t true (.tuple #[])).run P w= .ok (.pointer (some ⟨w.heap.size,0,none⟩)) w'/\aU P B av (G.real id w.heap.size) E w'/\an (G.real id w.heap.size) (.ptr id 0) (.pointer (some ⟨w.heap.size,0,none⟩)):=by
 have p:G.sub (G.real id w.heap.size):=Gh.Hx H;obtain⟨A,e,_,l,J,_⟩:=rZ N (G.real id w.heap.size) w;obtain⟨I,_⟩:=h.lK id _ s H;have x: (G.real id w.heap.size).aY id=w.heap.size:=by simp[Gh.real]
 refine⟨w.alloc (.cells A.cells t),by simp[Instr.alloc,e,newVar,newRow],?_,⟨⟨s,by simp[Gh.real]⟩,_,rfl,λ_=>by rw[x]⟩⟩;refine{len:=h.len,bt:=λb o v K=>?_,obj:=λi o y a=>?_,inj:=λi j g L f=>?_,sep:=λi g o=>?_,low:=λi g=>?_,lJ:=h.lJ.alloc h.hB _,hB:=by have:=h.hB;simp;omega,lK:=λi o g a=>?_,dA:=h.dA}
 ·have m:G.bt b o=some v:=K;rw[cell?_alloc_old (h.x0 P m)];exact h.bt b o v m
 ·by_cases c:i=id
  ·subst c;rw[I]at y;cases y;refine⟨by simp[Gh.real],A.cells,t,?_,l,J,λO h=>NJ h⟩;rw[x];exact aqY _ _
  ·have q:i<G.n:=by rw[h.len];exact(aeA.1 y).1
   simp only[Gh.real]at a;rw[afi c]at a;exact ie.de p ⟨q,a⟩ (by simp[Gh.real,c]) (Below.heap_alloc _ _ _ (h.low i ⟨q,a⟩).2) (h.obj i o y a)
 ·rcases Gh.Hy g with d| ⟨k,d⟩<;>rcases Gh.Hy L with u| ⟨D,u⟩
  ·rw[d,u]
  ·simp only[Gh.real,d,aiH,afi D]at f;have:=(h.low j u).2;omega
  ·simp only[Gh.real,u,aiH,afi k]at f;have:=(h.low i d).2;omega
  ·simp only[Gh.real,afi k,afi D]at f;exact h.inj i j d u f
 ·rcases Gh.Hy g with d| ⟨k,d⟩
  ·subst d;rw[x];show G.bt w.heap.size o=none;cases M:G.bt w.heap.size o with
   |none=>rfl
   |some v=>have:=h.x0 P M;omega
  ·simp only[Gh.real,afi k];exact h.sep i d o
 ·rcases Gh.Hy g with d| ⟨k,d⟩
  ·subst d;rw[x];exact⟨h.hB,by simp⟩
  ·simp only[Gh.real,afi k];have:=h.low i d;exact⟨this.1,by simp;omega⟩
 ·simp only[Gh.real]at g a;by_cases c:i=id
  ·rw[afl c]at a;cases a
  ·rw[afi c]at a;exact h.lK i o g a
theorem Gh.YB{G:Gh}(h:fL.le G){id b:Nat}{o:ae}(a:G.pz id=some o)(c:fL.n<=id):fL.le (G.real id b):=
 {Gh.Xi h.toSub (Gh.Hx a)with pz:=λi d=>by simp only[Gh.real];rw[afi (by omega)];exact h.pz i d}
section
variable{C:bu}(hC:fG P B av C)(hg:fo X B av){r:oN}{n nt:Nat}{rows:Bool}{ops:Array Oper}{xs:Nat->aO}{F:Nat->FP}
include hC hg
theorem go_sound(I:Region.Mode){ord:lN}(U:uq I ops ord=true)(sl:Nat->Nat)(al:Nat->Option ae)(Au: ∀i o,ops[i]?=some o->(al i=none/\ic P rows ops o=some (xs i))\/ ∃z tg g d,al i=some (.box z tg)/\ic P rows ops o=some ⟨g,d,.alloc z tg⟩/\xs i=⟨g,d,.mov (.c (.ptr (sl i) 0))⟩)
  (N7: ∀i j bi bj,al i=some bi->al j=some bj->sl i=sl j->i=j)  {ch:AS} (wi: ∀i b,al i=some b->fL.n<=sl i) (hd: ∀i,i<ops.size-> ∀d,(xs i).dst=some d->d<nt) (apP: ∀i o,ops[i]?=some o-> ∀a∈kQ o,a<i)
  (N8: ∀i j,i<j->j<ops.size->i∉gE ops 64 j->jV (xs i) (xs j)=true/\ (F i).ok (F j)=true):
  ∀ (fuel t:Nat) (listed:Array Bool) (l:lN) (G:Gh) (E E':AS) (w:World) (fr u:Fr) (a:Act) (Q:Exit->Act->World->Prop),
    (∀i,i∈l↔i<ops.size/\listed.getD i true=false)->listed.size=ops.size->l.Pairwise (· < ·)->(∀j o,ops[j]?=some o->listed.getD j true=true-> ∀a∈kQ o,listed.getD a true=true)->l.length<=fuel->
    jv X C xs F l fr E u E'->fL.le G->ch.Ext E->(∀i∈l,∀b,al i=some b->sl i<G.n/\G.pz (sl i)=some b)->aU P B av G E w->cD G nt fr.env a.tmps->fZ cS G fr.marks a.defers->(∀e a w,mj P B av cS fL ch nt (.normal,u,E') e a w->Q e a w)->
    wpOpsIn (W r) n P ops Q (Region.linearise.go I ops fuel t listed []) a w:=by
 intro fuel
 induction fuel with
 |zero=>
  intro t listed l G E E' w fr u a Q hl T hp oZ hf hr hle s o6 hw he hm hQ;have:l=[]:=ams.1 (by omega);subst this;obtain⟨rfl,rfl⟩:=hr;exact hQ _ _ _ ⟨G,hle,hw,he,hm,s,trivial⟩
 |succ fuel ih=>
  intro t listed l G E E' w fr u a Q hl T hp oZ hf hr hle s o6 hw he hm hQ;simp only[Region.linearise.go]
  change wpOpsIn (W r) n P ops Q (match(Region.ready I ops listed)[t % (Region.ready I ops listed).length]? with
   |some i=>Region.linearise.go I ops fuel (t/ (Region.ready I ops listed).length) (listed.setIfInBounds i true) [i]
   |none=>[].reverse) a w
  have J: ∀i,i∈Region.ready I ops listed↔i∈l/\ ∀o,ops[i]?=some o-> ∀e∈o.after.toList,Region.binds I e=true->listed.getD e.on false=true:=by
   intro i;simp only[Region.ready,air,aqP,aiq,aCH];rw[hl];constructor
   ·rintro⟨R,H,h3⟩;refine⟨⟨R,H⟩,λo ho e Z O=>?_⟩;rw[ho]at h3;simp only[ag0,amC,arh]at h3;have:=h3 e (by simpa using Z);rw[O]at this;simpa using this
   ·rintro⟨⟨R,H⟩,h3⟩;refine⟨R,H,?_⟩;obtain⟨o,ho⟩: ∃o,ops[i]?=some o:=⟨ops[i],by simp[R]⟩;rw[ho];simp only[ag0,amC,arh];intro e Z;by_cases O:Region.binds I e=true
    ·rw[h3 o ho e (by simpa using Z) O];simp
    ·simp at O;simp[O]
  have N9: ∀a,listed.getD a false=true->listed.getD a true=true:=by
   intro a h;simp only[ahe]at h⊢;cases h':listed[a]? with
   |none=>rw[h']at h;cases h
   |some b=>rw[h']at h;exact h
  cases hi: (Region.ready I ops listed)[t % (Region.ready I ops listed).length]? with
  |none=>
   have Dk:Region.ready I ops listed=[]:=by
    cases ml:Region.ready I ops listed with
    |nil=>rfl
    |cons x ys=>
     rw[ml]at hi;have x9:t % (x::ys).length< (x::ys).length:=aoG _ (by simp);rw[afu x9]at hi;cases hi
   cases l with
   |nil=>
    obtain⟨rfl,rfl⟩:=hr;exact hQ _ _ _ ⟨G,hle,hw,he,hm,s,trivial⟩
   |cons i l=>
    exfalso;simp only[uq,aiq]at U;obtain⟨x,p,o,ho,ux⟩:=N6 (S:=λa=>listed.getD a false=true) (l:=i::l) (λx p qz=>by
     cases r7:listed.getD x true with
     |true=>
      simp only[ahe,ay5 (show x<listed.size by omega),amC]at r7⊢;exact r7
     |false=>exact absurd ((hl x).2 ⟨p,r7⟩) qz) ord [] U.2 (by simp) ⟨i,by
      have:=ag6.1 U.1 i (by simpa using((hl i).1 (by simp)).1);simpa using this,by simp⟩
    have:x∈Region.ready I ops listed:=(J x).2 ⟨p,λo' D e Z O=>by rw[ho]at D;cases D;exact ux e Z O⟩;rw[Dk]at this;cases this
  |some i=>
   simp only;rw[linearise_go_acc,List.reverse_singleton,List.singleton_append];have Oa:=am9 hi;obtain⟨r8,Ob⟩:=(J i).1 Oa;have Av: ∀o,ops[i]?=some o-> ∀a∈kQ o,listed.getD a true=true:=by
    intro o ho a ha;simp only[kQ,ag2,air]at ha;obtain⟨e,⟨e1,e2⟩,rfl⟩:=ha;exact N9 _ (Ob o ho e e1 (YA e2))
   have Y:=((hl i).1 r8).1;obtain⟨o,ho⟩: ∃o,ops[i]?=some o:=⟨ops[i],by simp[Y]⟩;obtain⟨f,m,rfl⟩:=ayw r8;have A:=apa.1 hp;have q:=N3 f fr u E E' (λx p=>by
    have qz:=(hl x).1 (by simp[p]);refine N8 x i (A.2.2 x p i (by simp)) Y (λapQ=>?_);have:=N5 (S:=λa=>listed.getD a true=true) (λj hj o' D a ha=>oZ j o' D hj a ha) 64 i o ho (Av o ho) x apQ;rw[qz.2]at this;cases this) hr
   rw[jv]at q;have L: ∀k,k∈f++m↔k<ops.size/\ (listed.setIfInBounds i true).getD k true=false:=by
    intro k;have V:=hl k;have HA: ∀x∈f++m,x≠i:=by
     intro x p e;subst e;rcases agT.1 p with h|h
     ·have:=A.2.2 x h x (by simp);omega
     ·have:=(apy.1 A.2.1).1 x h;omega
    simp only[ahe,ans]at V⊢;constructor
    ·intro h;have r9:=HA k h;have:=V.1 (by simp only[agT,aiK]at h⊢;rcases h with h|h;exact .inl h;exact .inr (.inr h));rw[afi (λe=>r9 e.symm)];exact this
    ·rintro⟨R,H⟩;by_cases yk:i=k
     ·subst yk;rw[afl rfl,afl (by omega)]at H;simp at H
     ·rw[afi yk]at H;have:=V.2 ⟨R,H⟩;simp only[agT,aiK]at this⊢;rcases this with h|h|h
      ·exact .inl h
      ·exact absurd h.symm yk
      ·exact .inr h
   have nS: (f++m).Pairwise (· < ·):=apa.2 ⟨A.1,(apy.1 A.2.1).2,λx p y hy=>A.2.2 x p y (by simp[hy])⟩;have N: ∀j o,ops[j]?=some o->(listed.setIfInBounds i true).getD j true=true-> ∀a∈kQ o,(listed.setIfInBounds i true).getD a true=true:=by
    intro j o' D hj a ha;have key:listed.getD a true=true->(listed.setIfInBounds i true).getD a true=true:=by
     intro h;simp only[ahe,ans]at h⊢;split
     ·split<;>rfl
     ·exact h
    apply key;by_cases Dl:i=j
    ·subst Dl;rw[ho]at D;cases D;exact Av _ ho a ha
    ·refine oZ j o' D ?_ a ha;simp only[ahe,ans]at hj⊢;rw[afi Dl]at hj;exact hj
   have qy: (f++m).length<=fuel:=by simp at hf⊢;omega
   have Oc:i∉f++m:=λhm=>by
    rcases agT.1 hm with h|h
    ·have:=A.2.2 i h i (by simp);omega
    ·have:=(apy.1 A.2.1).1 i h;omega
   have K: ∀k∈f++m,∀b,al k=some b->sl k<G.n/\G.pz (sl k)=some b:=λk V b O=>o6 k (by
    simp only[agT,aiK]at V⊢;rcases V with h|h
    ·exact .inl h
    ·exact .inr (.inr h)) b O
   rcases Au i o ho with⟨qA,p⟩| ⟨z,tg,g,d,qA,p,yl⟩
   ·have ig:guardOf ops o=some (xs i).g:=by
      unfold ic at p;split at p
      ·rename_i H;have:=amv p;rw[<-this];exact H
      ·cases p
    have M: (xs i).dst=o.dst:=by
     unfold ic at p;split at p
     ·have:=amv p;rw[<-this]
     ·cases p
    have uB:=yd he ig;simp only[wpOpsIn,ho];rw[uB];rcases q with⟨R,v,ym,H,_,h4⟩| ⟨R,_,h4⟩
    ·rw[afl R];refine ye hC hg p (hd i Y) hw he hm H (λDm nT e G' a' w' q1 q2 q3 q4 q5=>?_) (λDm nT e=>by cases e);cases e;exact ih _ _ (f++m) G' ym E' w' _ u a' Q L (by simpa using T) nS N qy h4 (Gh.le_trans hle q1) (s.trans q3) (λk V b O=>by
      obtain⟨p1,p2⟩:=K k V b O;exact⟨alR p1 q1.n,by rw[q1.pz _ p1];exact p2⟩) q2 q4 q5 hQ
    ·rw[afi (by rw[R];simp)];refine⟨λ_ _=>trivial,?_⟩;obtain⟨p1,p2,p3⟩:=qx (a:=a) he (hd i Y) (v:=.undef) (v':=undef) yc;rw[<-M];exact ih _ _ (f++m) G E E' w _ u _ Q L (by simpa using T) nS N qy h4 hle s K hw p1 (by rw[p2,p3];exact hm) hQ
   ·rw[yl]at q;have yn: ∀d',d=some d'->d'<nt:=λd' Aw=>hd i Y d' (by rw[yl];exact Aw)
    have Dn:kN P rows o=some (.alloc z tg)/\guardOf ops o=some g/\o.dst=d:=by
     unfold ic at p;split at p
     ·rename_i i' g' H h3;simp only[afh,aO.mk.injEq]at p;obtain⟨rfl,rfl,rfl⟩:=p;exact⟨H,h3,rfl⟩
     ·cases p
    obtain⟨Od,ig,M⟩:=Dn;have uB:=yd he ig;simp only[wpOpsIn,ho];rw[uB];rcases q with⟨R,v,ym,H,_,h4⟩| ⟨R,_,h4⟩
    ·rw[afl R];simp only[exec,ao.get,afh,Out.ok.injEq]at H;obtain⟨rfl,rfl⟩:=H;obtain⟨p1,p2⟩:=o6 i (by simp) _ qA;obtain⟨t,o7,Oe,rfl⟩: ∃t,o.op= .alloc t/\gC P t=some z/\tg=rW z t:=Hz Od;obtain⟨w',e1,e2,e3⟩:=hw.real p1 p2 Oe;refine⟨λ_ _=>trivial,?_⟩;have Dp:o.semAt (W r).round a.eval=execOp a.eval o:=by
      apply Oper.semAt_eq;intro c e;rw[o7]at e;cases e
     have Dq: (execOp a.eval o).run P w= .ok (.value (.pointer (some ⟨w.heap.size,0,none⟩))) w':=by
      unfold execOp;simp only[o7];rw[Sem.run_bind,e1];rfl
     rw[Dp,Dq];simp only[Oper.uponIn];have Dr:=Gh.Hx (b:=w.heap.size) p2;obtain⟨r1,r2,r3⟩:=qx (a:=a) (dst:=d) (he.de Dr) yn e3;rw[M];exact ih _ _ (f++m) _ E E' w' _ u _ Q L (by simpa using T) nS N qy h4 (Gh.YB hle p2 (wi i _ qA)) s (λk V b O=>by
      obtain⟨p3,p4⟩:=K k V b O;refine⟨p3,?_⟩;have r9:sl k≠sl i:=λe=>Oc (by rw[N7 i k _ _ qA O e.symm];exact V)
      simp only[Gh.real];rw[afi r9];exact p4) e2 r1 (by rw[r2,r3];exact hm.de Dr) hQ
    ·rw[afi (by rw[R];simp)];refine⟨λ_ _=>trivial,?_⟩;obtain⟨p1,p2,p3⟩:=qx (a:=a) (dst:=d) he yn (v:=.undef) (v':=undef) yc;rw[M];exact ih _ _ (f++m) G E E' w _ u _ Q L (by simpa using T) nS N qy h4 hle s K hw p1 (by rw[p2,p3];exact hm) hQ
theorem apR(L:Region.Mode){ord:lN}(yo:uq L ops ord=true)(sl:Nat->Nat)(al:Nat->Option ae)(Au: ∀i o,ops[i]?=some o->(al i=none/\ic P rows ops o=some (xs i))\/ ∃z tg g d,al i=some (.box z tg)/\ic P rows ops o=some ⟨g,d,.alloc z tg⟩/\xs i=⟨g,d,.mov (.c (.ptr (sl i) 0))⟩)
  (N7: ∀i j bi bj,al i=some bi->al j=some bj->sl i=sl j->i=j)  {ch:AS} (wi: ∀i b,al i=some b->fL.n<=sl i) (hd: ∀i,i<ops.size-> ∀d,(xs i).dst=some d->d<nt) (apP: ∀i o,ops[i]?=some o-> ∀a∈kQ o,a<i)
  {f:Nat} (HB:f<ops.size) (N8: ∀i j,i<j->j<f->i∉gE ops 64 j->jV (xs i) (xs j)=true/\ (F i).ok (F j)=true) (Of: ∀i,i<f->i∈gE ops 64 f) (Og: ∀j,f<j->j<ops.size->f∈gE ops 64 j) {Hh:AV} {YC:AS}:
  ∀ (fuel t:Nat) (listed:Array Bool) (l:lN) (G:Gh) (E E':AS) (w:World) (fr D:Fr) (a:Act) (Q:Exit->Act->World->Prop),
    (∀i,i∈l↔i<f/\listed.getD i true=false)->listed.size=ops.size->(∀j,f<=j->j<ops.size->listed.getD j true=false)->l.Pairwise (· < ·)->(∀j o,ops[j]?=some o->listed.getD j true=true-> ∀a∈kQ o,listed.getD a true=true)->l.length<fuel->
    jv X C xs F l fr E D E'->fK D.env (xs f).g=true->exec X C (xs f).i D.env E'=some (.panic Hh YC)->fL.le G->ch.Ext E->(∀i∈l,∀b,al i=some b->sl i<G.n/\G.pz (sl i)=some b)->aU P B av G E w->cD G nt fr.env a.tmps->fZ cS G fr.marks a.defers->(∀e a w,mj P B av cS fL ch nt (.panic Hh,D,YC) e a w->Q e a w)->
    wpOpsIn (W r) n P ops Q (Region.linearise.go L ops fuel t listed []) a w:=by
 intro fuel
 induction fuel with
 |zero=>simp
 |succ fuel ih=>
  intro t listed l G E E' w fr D a Q hl r0 Ap hp oZ hf hr Ds K hle I o6 hw he hm hQ;simp only[Region.linearise.go]
  change wpOpsIn (W r) n P ops Q (match(Region.ready L ops listed)[t % (Region.ready L ops listed).length]? with
   |some i=>Region.linearise.go L ops fuel (t/ (Region.ready L ops listed).length) (listed.setIfInBounds i true) [i]
   |none=>[].reverse) a w
  have M: ∀i,i∈Region.ready L ops listed↔(i<ops.size/\listed.getD i true=false)/\ ∀o,ops[i]?=some o-> ∀e∈o.after.toList,Region.binds L e=true->listed.getD e.on false=true:=by
   intro i;simp only[Region.ready,air,aqP,aiq,aCH];constructor
   ·rintro⟨J,A,h3⟩;refine⟨⟨J,A⟩,λo ho e Dt V=>?_⟩;rw[ho]at h3;simp only[ag0,amC,arh]at h3;have:=h3 e (by simpa using Dt);rw[V]at this;simpa using this
   ·rintro⟨⟨J,A⟩,h3⟩;refine⟨J,A,?_⟩;obtain⟨o,ho⟩: ∃o,ops[i]?=some o:=⟨ops[i],by simp[J]⟩;rw[ho];simp only[ag0,amC,arh];intro e Dt;by_cases V:Region.binds L e=true
    ·rw[h3 o ho e (by simpa using Dt) V];simp
    ·simp at V;simp[V]
  have N9: ∀a,listed.getD a false=true->listed.getD a true=true:=by
   intro a h;simp only[ahe]at h⊢;cases h':listed[a]? with
   |none=>rw[h']at h;cases h
   |some b=>rw[h']at h;exact h
  cases hi: (Region.ready L ops listed)[t % (Region.ready L ops listed).length]? with
  |none=>
   have Dk:Region.ready L ops listed=[]:=by
    cases ml:Region.ready L ops listed with
    |nil=>rfl
    |cons x ys=>
     rw[ml]at hi;have x9:t % (x::ys).length< (x::ys).length:=aoG _ (by simp);rw[afu x9]at hi;cases hi
   exfalso;simp only[uq,aiq]at yo;obtain⟨x,p,o,ho,ux⟩:=N6 (S:=λa=>listed.getD a false=true) (l:=(List.range ops.size).filter λi=>listed.getD i true==false) (λx p qz=>by
    cases r7:listed.getD x true with
    |true=>
     simp only[ahe,ay5 (show x<listed.size by omega),amC]at r7⊢;exact r7
    |false=>exact absurd (air.2 ⟨aqP.2 p,by simpa using r7⟩) qz) ord [] yo.2 (by simp) ⟨f,by
     have:=ag6.1 yo.1 f (by simpa using HB);simpa using this,air.2 ⟨aqP.2 HB,by simpa using Ap f (agW _) HB⟩⟩
   have Dn:x<ops.size/\listed.getD x true=false:=by simpa using air.1 p
   have:x∈Region.ready L ops listed:=(M x).2 ⟨Dn,λo' u e Dt V=>by rw[ho]at u;cases u;exact ux e Dt V⟩;rw[Dk]at this;cases this
  |some i=>
   simp only;rw[linearise_go_acc,List.reverse_singleton,List.singleton_append];have Oa:=am9 hi;obtain⟨r8,Ob⟩:=(M i).1 Oa;have Av: ∀o,ops[i]?=some o-> ∀a∈kQ o,listed.getD a true=true:=by
    intro o ho a ha;simp only[kQ,ag2,air]at ha;obtain⟨e,⟨e1,e2⟩,rfl⟩:=ha;exact N9 _ (Ob o ho e e1 (YA e2))
   have Z:=r8.1;obtain⟨o,ho⟩: ∃o,ops[i]?=some o:=⟨ops[i],by simp[Z]⟩;have Y: ∀x∈gE ops 64 i,listed.getD x true=true:=N5 (S:=λa=>listed.getD a true=true) (λj hj o' u a ha=>oZ j o' u hj a ha) 64 i o ho (Av o ho);by_cases HC: ¬i<f
   ·have apS:i=f:=by
      refine aoJ λr9=>?_
      have:=Y _ (Og i (by omega) Z);rw[Ap f (agW _) HB]at this;cases this
    subst apS;have Dk:l=[]:=by
     cases l with
     |nil=>rfl
     |cons x l=>
      obtain⟨q1,q2⟩:=(hl x).1 (by simp);have:=Y _ (Of x q1);rw[q2]at this;cases this
    subst Dk;obtain⟨rfl,rfl⟩:=hr;rcases Au i o ho with⟨qA,p⟩| ⟨z,tg,g,d,qA,p,yl⟩
    ·have ig:guardOf ops o=some (xs i).g:=by
       unfold ic at p;split at p
       ·rename_i A;have:=amv p;rw[<-this];exact A
       ·cases p
     have uB:=yd he ig;simp only[wpOpsIn,ho];rw[uB,afl Ds];exact ye hC hg p (hd i Z) hw he hm K (λDm nT e=>by cases e) (λDm nT e e' a' w' h=>by cases e;exact hQ _ _ _ (h.trans hle I))
    ·rw[yl]at K;simp[exec]at K
   have HC:i<f:=Decidable.byContradiction HC;have r8:i∈l:=(hl i).2 ⟨HC,r8.2⟩;obtain⟨m,q,rfl⟩:=ayw r8;have H:=apa.1 hp;have s:=N3 m fr D E E' (λx p=>by
    have qz:=(hl x).1 (by simp[p]);refine N8 x i (H.2.2 x p i (by simp)) HC (λY=>?_);have:=N5 (S:=λa=>listed.getD a true=true) (λj hj o' u a ha=>oZ j o' u hj a ha) 64 i o ho (Av o ho) x Y;rw[qz.2]at this;cases this) hr
   rw[jv]at s;have O: ∀k,k∈m++q↔k<f/\ (listed.setIfInBounds i true).getD k true=false:=by
    intro k;have hk:=hl k;have HA: ∀x∈m++q,x≠i:=by
     intro x p e;subst e;rcases agT.1 p with h|h
     ·have:=H.2.2 x h x (by simp);omega
     ·have:=(apy.1 H.2.1).1 x h;omega
    simp only[ahe,ans]at hk⊢;constructor
    ·intro h;have r9:=HA k h;have:=hk.1 (by simp only[agT,aiK]at h⊢;rcases h with h|h;exact .inl h;exact .inr (.inr h));rw[afi (λe=>r9 e.symm)];exact this
    ·rintro⟨J,A⟩;by_cases yk:i=k
     ·subst yk;rw[afl rfl,afl (by omega)]at A;simp at A
     ·rw[afi yk]at A;have:=hk.2 ⟨J,A⟩;simp only[agT,aiK]at this⊢;rcases this with h|h|h
      ·exact .inl h
      ·exact absurd h.symm yk
      ·exact .inr h
   have nS: (m++q).Pairwise (· < ·):=apa.2 ⟨H.1,(apy.1 H.2.1).2,λx p y hy=>H.2.2 x p y (by simp[hy])⟩;have U: ∀j o,ops[j]?=some o->(listed.setIfInBounds i true).getD j true=true-> ∀a∈kQ o,(listed.setIfInBounds i true).getD a true=true:=by
    intro j o' u hj a ha;have key:listed.getD a true=true->(listed.setIfInBounds i true).getD a true=true:=by
     intro h;simp only[ahe,ans]at h⊢;split
     ·split<;>rfl
     ·exact h
    apply key;by_cases Dl:i=j
    ·subst Dl;rw[ho]at u;cases u;exact Av _ ho a ha
    ·refine oZ j o' u ?_ a ha;simp only[ahe,ans]at hj⊢;rw[afi Dl]at hj;exact hj
   have qy: (m++q).length<fuel:=by simp at hf⊢;omega
   have R: ∀j,f<=j->j<ops.size->(listed.setIfInBounds i true).getD j true=false:=by
    intro j J A;have:=Ap j J A;simp only[ahe,ans]at this⊢;rw[afi (by omega)];exact this
   have Oc:i∉m++q:=λhm=>by
    rcases agT.1 hm with h|h
    ·have:=H.2.2 i h i (by simp);omega
    ·have:=(apy.1 H.2.1).1 i h;omega
   have N: ∀k∈m++q,∀b,al k=some b->sl k<G.n/\G.pz (sl k)=some b:=λk hk b V=>o6 k (by
    simp only[agT,aiK]at hk⊢;rcases hk with h|h
    ·exact .inl h
    ·exact .inr (.inr h)) b V
   rcases Au i o ho with⟨qA,p⟩| ⟨z,tg,g,d,qA,p,yl⟩
   ·have ig:guardOf ops o=some (xs i).g:=by
      unfold ic at p;split at p
      ·rename_i A;have:=amv p;rw[<-this];exact A
      ·cases p
    have T: (xs i).dst=o.dst:=by
     unfold ic at p;split at p
     ·have:=amv p;rw[<-this]
     ·cases p
    have uB:=yd he ig;simp only[wpOpsIn,ho];rw[uB];rcases s with⟨J,v,ym,A,_,h4⟩| ⟨J,_,h4⟩
    ·rw[afl J];refine ye hC hg p (hd i Z) hw he hm A (λDm nT e G' a' w' q1 q2 q3 q4 q5=>?_) (λDm nT e=>by cases e);cases e;exact ih _ _ (m++q) G' ym E' w' _ D a' Q O (by simpa using r0) R nS U qy h4 Ds K (Gh.le_trans hle q1) (I.trans q3) (λk hk b V=>by
      obtain⟨p1,p2⟩:=N k hk b V;exact⟨alR p1 q1.n,by rw[q1.pz _ p1];exact p2⟩) q2 q4 q5 hQ
    ·rw[afi (by rw[J];simp)];refine⟨λ_ _=>trivial,?_⟩;obtain⟨p1,p2,p3⟩:=qx (a:=a) he (hd i Z) (v:=.undef) (v':=undef) yc;rw[<-T];exact ih _ _ (m++q) G E E' w _ D _ Q O (by simpa using r0) R nS U qy h4 Ds K hle I N hw p1 (by rw[p2,p3];exact hm) hQ
   ·rw[yl]at s;have yn: ∀d',d=some d'->d'<nt:=λd' Aw=>hd i Z d' (by rw[yl];exact Aw)
    have Dn:kN P rows o=some (.alloc z tg)/\guardOf ops o=some g/\o.dst=d:=by
     unfold ic at p;split at p
     ·rename_i i' g' A h3;simp only[afh,aO.mk.injEq]at p;obtain⟨rfl,rfl,rfl⟩:=p;exact⟨A,h3,rfl⟩
     ·cases p
    obtain⟨Od,ig,T⟩:=Dn;have uB:=yd he ig;simp only[wpOpsIn,ho];rw[uB];rcases s with⟨J,v,ym,A,_,h4⟩| ⟨J,_,h4⟩
    ·rw[afl J];simp only[exec,ao.get,afh,Out.ok.injEq]at A;obtain⟨rfl,rfl⟩:=A;obtain⟨p1,p2⟩:=o6 i (by simp) _ qA;obtain⟨t,o7,Oe,rfl⟩: ∃t,o.op= .alloc t/\gC P t=some z/\tg=rW z t:=Hz Od;obtain⟨w',e1,e2,e3⟩:=hw.real p1 p2 Oe;refine⟨λ_ _=>trivial,?_⟩;have Dp:o.semAt (W r).round a.eval=execOp a.eval o:=by
      apply Oper.semAt_eq;intro c e;rw[o7]at e;cases e
     have Dq: (execOp a.eval o).run P w= .ok (.value (.pointer (some ⟨w.heap.size,0,none⟩))) w':=by
      unfold execOp;simp only[o7];rw[Sem.run_bind,e1];rfl
     rw[Dp,Dq];simp only[Oper.uponIn];have Dr:=Gh.Hx (b:=w.heap.size) p2;obtain⟨r1,r2,r3⟩:=qx (a:=a) (dst:=d) (he.de Dr) yn e3;rw[T];exact ih _ _ (m++q) _ E E' w' _ D _ Q O (by simpa using r0) R nS U qy h4 Ds K (Gh.YB hle p2 (wi i _ qA)) I (λk hk b V=>by
      obtain⟨p3,p4⟩:=N k hk b V;refine⟨p3,?_⟩;have r9:sl k≠sl i:=λe=>Oc (by rw[N7 i k _ _ qA V e.symm];exact hk)
      simp only[Gh.real];rw[afi r9];exact p4) e2 r1 (by rw[r2,r3];exact hm.de Dr) hQ
    ·rw[afi (by rw[J];simp)];refine⟨λ_ _=>trivial,?_⟩;obtain⟨p1,p2,p3⟩:=qx (a:=a) (dst:=d) he yn (v:=.undef) (v':=undef) yc;rw[T];exact ih _ _ (m++q) G E E' w _ D _ Q O (by simpa using r0) R nS U qy h4 Ds K hle I N hw p1 (by rw[p2,p3];exact hm) hQ
end
end
section
variable{P:Program}{X:Ctx}{B:Nat}{av:World}{cS:List Deferred}
def Du{x:aO}{b:ae}(h:x.fA=some b): ∃z tg,x.i= .alloc z tg/\b= .box z tg:=by
 unfold aO.fA at h
 grind
def Ax{x:aO}(h:x.fA=none):lI m x=x:=by unfold lI;rw[h]
def Ay{x:aO}{b:ae}(h:x.fA=some b):lI m x={x with i:=.mov (.c (.ptr m 0))}:=by unfold lI;rw[h]
def HD{x:aO}: (lI m x).dst=x.dst:=by
 cases h:x.fA with
 |none=>rw[Ax h]
 |some b=>rw[Ay h]
def YD{x:aO}: (lI m x).reads=x.reads:=by
 cases h:x.fA with
 |none=>rw[Ax h]
 |some b=>
  rw[Ay h];obtain⟨z,tg,a,_⟩:=Du h;unfold aO.reads;rw[a];rfl
theorem Dv: ∀ (ys:List (aO×lN)) (n q:Nat),(gR n ys)[q]?=(ys[q]?).map λy=>(lI (n+(dq (ys.take q)).length) y.1,y.2)
 | [],n,q=>by rfl
 |o::os,n,0=>by rfl
 |o::os,n,q+1=>by
  simp only[gR,aza,ark];rw[Dv os];cases h:o.1.fA with
  |none=>simp[dq,h]
  |some b=>
   simp only[dq,h,ag5]
   grind
theorem Oh: ∀ (ys:List (aO×lN)) (n:Nat),(gR n ys).length=ys.length
 | [],_=>rfl
 |o::os,n=>by simp[gR,Oh os]
theorem Oi: ∀ (ys:List (aO×lN)) (q:Nat) (y:aO×lN) (b:ae),ys[q]?=some y->y.1.fA=some b->(dq ys)[(dq (ys.take q)).length]?=some b
 | [],q,y,b,h,_=>by grind
 |o::os,0,y,b,h,a=>by
  simp at h;subst h;simp[dq,a]
 |o::os,q+1,y,b,h,a=>by
  have c:=Oi os q y b (by grind) a;simp only[ark,dq]
  grind
theorem Dw: ∀ (ys:List (aO×lN)) (i j:Nat) (y:aO×lN) (b:ae),ys[i]?=some y->y.1.fA=some b->i<j->(dq (ys.take i)).length< (dq (ys.take j)).length
 | [],i,j,y,b,h,_,_=>by grind
 |o::os,0,j+1,y,b,h,a,_=>by
  simp at h;subst h;simp[dq,a]
 |o::os,i+1,j+1,y,b,h,a,c=>by
  have d:=Dw os i j y b (by grind) a (by omega);simp only[ark,dq]
  grind
 |o::os,_,0,y,b,h,a,c=>by omega
theorem HE: ∀ (ys:List (aO×lN)) (b:ae),b∈dq ys-> ∃y∈ys,y.1.fA=some b
 | [],b,h=>by trivial
 |o::os,b,h=>by
  simp only[dq]at h;cases ho:o.1.fA with
  |none=>
   rw[ho]at h;obtain⟨y,c,a⟩:=HE os b h
   grind
  |some d=>
   rw[ho]at h;rcases aiK.1 h with rfl|h
   ·grind
   ·obtain⟨y,c,a⟩:=HE os b h
    grind
def Oj(hg:fo X B av):Aq P X B av:=by
 intro cS C hC rows r n nt id ops u ys Au hd O G E w fr a res Q hw he hm hr hQ;obtain⟨Ol,Z⟩:=Yx Au;have YE:u.length=ops.size:=by omega
 unfold Ns at O;simp only at O;split at O
 ·rename_i YF;simp only[aiq]at YF;obtain⟨⟨⟨⟨YG,YH⟩,YI⟩,YJ⟩,Y⟩:=YF;simp only[afh]at O
  let g:Nat->aO:=λi=>u.getD i default
  have s: ∀i,i<u.length->u[i]?=some (g i):=λi H=>by
   simp only[g,aha,afu H,amC]
  have Dx: ∀i,¬i<u.length->(g i).fA=none:=λi H=>by
   simp only[g,aha,ane (Nat.le_of_not_lt H),azi];rfl
  let sl:Nat->Nat:=λi=>E.heap.length+(dq (ys.take i)).length
  let xs:Nat->aO:=λi=>lI (sl i) (g i)
  have HF:ys.length=u.length:=by rw[<-O];simp
  have I: ∀q y,ys[q]?=some y->y.1=g q:=by
   intro q y S;rw[<-O]at S;simp only[aiG,aAO,agY]at S;obtain⟨p,⟨z,hz,rfl⟩,rfl⟩:=S;have K:q<u.length:=(aeA.1 hz).1;have:=s q K;rw[hz]at this;simpa using this
  have Az: ∀q,q<u.length-> ∃L,ys[q]?=some (g q,L):=λq S=>by
   have:q<ys.length:=by omega
   refine⟨(ys[q]).2,?_⟩;have e:=afu this;rw[e];have:=I q _ e;rw[<-this]
  by_cases hn:res.1= .normal
  ·obtain⟨F,f1,f2,f3,f4⟩:=N4 (xs:=xs) (gR E.heap.length ys) [] fr _ res (λq y S=>by
     rw[Dv]at S;obtain⟨y',R,rfl⟩:=agY.1 S;have:=I q y' R;simp only[aoY,ana,xs,sl,<-this]) hr hn
   have Om: (List.range (gR E.heap.length ys).length).map (([]:List FP).length+ ·)=List.range ops.size:=by
    rw[Oh,HF,YE];simp
   rw[Om]at f3;obtain⟨ex,Hr,E'⟩:=res;simp only at f2 f3;subst f2;have V: ∀i o,ops[i]?=some o-> ∀a∈kQ o,a<i:=by
    intro i o ho a ha;have H:i<ops.size:=(anu.1 ho).1;have:=ag6.1 YJ i (by simp;omega);rw[ho]at this;simpa using ag6.1 this a ha
   have T: ∀i j,i<j->j<ops.size->i∉gE ops 64 j->jV (xs i) (xs j)=true/\ (F i).ok (F j)=true:=by
    intro i j A D c;have H:i<ops.size:=by omega
    have hb: (((List.range u.length).map λi=>(gE ops 64 i).eraseDups).getD j []).contains i=false:=by
     simp only[aha,aiG,aq1 (show j<u.length by omega),ag0,amC];cases h: (gE ops 64 j).eraseDups.contains i with
     |false=>rfl
     |true=>
      rw[auI,List.mem_eraseDups]at h;exact absurd h c
    have R:=ag6.1 Y (g i,i) (by rw[aoK];exact s i (by omega));have W:=ag6.1 R (g j,j) (by rw[aoK];exact s j (by omega));simp only[ge_iff_le,aqR,amB]at W;refine⟨?_,?_⟩
    ·have sa:jV (xs i) (xs j)=jV (g i) (g j):=by
       unfold jV;simp only[xs,HD,YD]
     rw[sa];rcases W with(h|h)|h
     ·omega
     ·rw[hb]at h;cases h
     ·exact h
    ·by_cases ci: (xs i).i.cls=0
     ·rw[yi ci _ _ _ _ _ (by simp;omega) f3];exact Yv _
     ·by_cases cj: (xs j).i.cls=0
      ·rw[yi cj _ _ _ _ _ (by simp;omega) f3];exact Yw _
      ·have same: ∀k,(xs k).i.cls≠0->xs k=g k:=by
         intro k hk;cases v: (g k).fA with
         |none=>exact Ax v
         |some b=>exact absurd (by show(lI (sl k) (g k)).i.cls=0;rw[Ay v];rfl) hk
       have ei:=same i ci;have ej:=same j cj;have On:ys[j]?=some (g j,rX u.zipIdx ((List.range u.length).map λi=>(gE ops 64 i).eraseDups) (g j) j):=by
        rw[<-O];simp only[aiG,aAO,s j (by omega),ag0,ana]
       have N: (gR E.heap.length ys)[j]?=some (xs j,rX u.zipIdx ((List.range u.length).map λi=>(gE ops 64 i).eraseDups) (g j) j):=by
        rw[Dv,On];rfl
       have:=f4 j _ N i (by
        rw[ej]at cj;rw[ei]at ci;exact Nr (x:=g i) (by rw[aoK];exact s i (by omega)) A ci cj hb) (by simpa using A)
       simpa using this
   refine wpIn_region_draw (λt=>?_);have J: ∃md ord t',Region.schedule (P.follows .mixedOrders) ops t=Region.linearise md ops t'/\uq md ops ord=true:=by
    unfold Region.schedule;split
    ·exact⟨.any,_,t,rfl,YG⟩
    ·split
     ·exact⟨.text,_,_,rfl,YH⟩
     ·exact⟨.gc,_,_,rfl,YI⟩
   obtain⟨md,ord,t',J,yo⟩:=J;rw[J];unfold Region.linearise;have Oo: ∀o∈dq ys,∃z tg,o= .box z tg/\aG z=0:=by
    intro o ho;obtain⟨y,R,W⟩:=HE ys o ho;obtain⟨z,tg,M,rfl⟩:=Du W;refine⟨z,tg,rfl,?_⟩;obtain⟨q,S⟩:=avU R;have K:q<ops.size:=by
     have:=(aeA.1 S).1;omega
    obtain⟨x,e1,e2⟩:=Z q ops[q] (by simp[K]);have e3:=s q (by omega);rw[e1]at e3;rw[I q y S]at M;rw[amv e3]at e2;have:kN P rows ops[q]=some (.alloc z tg):=by
     unfold ic at e2;split at e2
     ·rename_i i' g' h4 h5;rw[<-amv e2]at M;simp only at M;rw[h4,M]
     ·cases e2
    obtain⟨t,_,hc,_⟩:=Hz this;obtain⟨z',_,_,l,_⟩:=rZ hc (Gh.mk (λ_ _=>none) 0 (λi=>i) (λi=>i) (λi=>i) (λi=>i) (λi=>i) (λ_=>none)) w;have:=aD.refs _ _ l;simpa using this
   refine go_sound hC hg (xs:=xs) (F:=F) (rows:=rows) (nt:=nt) md yo sl (λi=>(g i).fA) (λi o ho=>?_) (λi j bi bj H D A=>?_) (fL:=G) (ch:=E) (λi b H=>?_) (λi H d uA=>hd (g i) (am9 (s i (by omega))) d (by rw[<-HD (m:=sl i)];exact uA)) V T ops.size t' _ (List.range ops.size) (G.later (dq ys)) (E.mg (dq ys)) E' _ fr Hr a Q
    (λi=>?_) (by simp) List.pairwise_lt_range (λj o ho D=>?_) (by simp) f3 (G.yj _) (.mg E _) (λi H b hb=>?_) (hw.later Oo).drew (he.mono (G.yj _)) (hm.mono (G.yj _)) hQ
   ·obtain⟨x,R,W⟩:=Z i o (by simpa using ho);have M:=s i (aeA.1 R).1;rw[R]at M;have M:=amv M;subst M;cases v: (g i).fA with
    |none=>exact .inl ⟨rfl,by rw[W];show _=some (lI (sl i) (g i));rw[Ax v]⟩
    |some b=>
     obtain⟨z,tg,h4,rfl⟩:=Du v;refine .inr ⟨z,tg,(g i).g,(g i).dst,rfl,?_,?_⟩
     ·rw[W,<-h4]
     ·show lI (sl i) (g i)=_;rw[Ay v]
   ·have Oq:i<u.length:=by
      by_cases h:i<u.length
      ·exact h
      ·have:=Dx i h;rw[this]at H;cases H
    have Ot:j<u.length:=by
     by_cases h:j<u.length
     ·exact h
     ·have:=Dx j h;rw[this]at D;cases D
    obtain⟨Li,ei⟩:=Az i Oq;obtain⟨Lj,ej⟩:=Az j Ot;have apT: (dq (ys.take i)).length=(dq (ys.take j)).length:=by
     have:E.heap.length+(dq (ys.take i)).length=E.heap.length+(dq (ys.take j)).length:=A;omega
    rcases aBm i j with h|h|h
    ·have:=Dw ys i j _ bi ei H h;omega
    ·exact h
    ·have:=Dw ys j i _ bj ej D h;omega
   ·show G.n<=E.heap.length+_;rw[hw.len];omega
   ·simp only[aqP,ahe,ay9];constructor
    ·intro h;exact⟨h,by simp[h]⟩
    ·exactλh=>h.1
   ·exfalso;have K:j<ops.size:=(anu.1 ho).1;simp[ahe,K]at D
   ·have K:i<ops.size:=by simpa using H
    obtain⟨L,e⟩:=Az i (by omega);have Dy:=Oi ys i _ b e hb;have AA:=(aeA.1 Dy).1;have hn:=hw.len;refine⟨by show E.heap.length+_<G.n+_;omega,?_⟩;show(if E.heap.length+_<G.n then _ else _)=some b;rw[afi (by omega),hn,anb];exact Dy
  ·obtain⟨F,f,Hh,ym,aCN,f1,q1,f2,f3,f5,f6,f4,f8,f9,f10,f11⟩:=Yu (xs:=xs) (gR E.heap.length ys) [] fr _ res (λq y S=>by
     rw[Dv]at S;obtain⟨y',R,rfl⟩:=agY.1 S;have:=I q y' R;simp only[aoY,ana,xs,sl,<-this]) hr hn
   have Om: (List.range f).map (([]:List FP).length+ ·)=List.range f:=by simp
   rw[Om]at f3;obtain⟨ex,Hr,E'⟩:=res;simp only[aoY,ana]at f2 f3 f5 f6 f10 f11;subst f2;have U:f<ops.size:=by
    have:=(aeA.1 q1).1;rw[Oh,HF,YE]at this;exact this
   have V: ∀i o,ops[i]?=some o-> ∀a∈kQ o,a<i:=by
    intro i o ho a ha;have H:i<ops.size:=(anu.1 ho).1;have:=ag6.1 YJ i (by simp;omega);rw[ho]at this;simpa using ag6.1 this a ha
   have Ou: ∀i j,j<ops.size->i∉gE ops 64 j->(((List.range u.length).map λi=>(gE ops 64 i).eraseDups).getD j []).contains i=false:=by
    intro i j D c;simp only[aha,aiG,aq1 (show j<u.length by omega),ag0,amC];cases h: (gE ops 64 j).eraseDups.contains i with
    |false=>rfl
    |true=>
     rw[auI,List.mem_eraseDups]at h;exact absurd h c
   have sa: ∀i j,i<j->j<ops.size->i∉gE ops 64 j->jV (xs i) (xs j)=true:=by
    intro i j A D c;have hb:=Ou i j D c;have R:=ag6.1 Y (g i,i) (by rw[aoK];exact s i (by omega));have W:=ag6.1 R (g j,j) (by rw[aoK];exact s j (by omega));simp only[ge_iff_le,aqR,amB]at W;have sa:jV (xs i) (xs j)=jV (g i) (g j):=by
     unfold jV;simp only[xs,HD,YD]
    rw[sa];rcases W with(h|h)|h
    ·omega
    ·rw[hb]at h;cases h
    ·exact h
   have same: ∀k,(xs k).i.cls≠0->xs k=g k:=by
    intro k hk;cases v: (g k).fA with
    |none=>exact Ax v
    |some b=>exact absurd (by show(lI (sl k) (g k)).i.cls=0;rw[Ay v];rfl) hk
   have N: ∀j,j<ops.size->(gR E.heap.length ys)[j]?=some (xs j,rX u.zipIdx ((List.range u.length).map λi=>(gE ops 64 i).eraseDups) (g j) j):=by
    intro j D;have On:ys[j]?=some (g j,rX u.zipIdx ((List.range u.length).map λi=>(gE ops 64 i).eraseDups) (g j) j):=by
     rw[<-O];simp only[aiG,aAO,s j (by omega),ag0,ana]
    rw[Dv,On];rfl
   have Ov: ∀i j,i<j->j<ops.size->i∉gE ops 64 j->(xs i).i.cls≠0->(xs j).i.cls≠0->i∈rX u.zipIdx ((List.range u.length).map λi=>(gE ops 64 i).eraseDups) (g j) j:=by
    intro i j A D c ci cj;have hb:=Ou i j D c;rw[same i ci]at ci;rw[same j cj]at cj;exact Nr (x:=g i) (by rw[aoK];exact s i (by omega)) A ci cj hb
   have Dz:=N f U;rw[q1]at Dz;have Dz:=amv Dz;subst Dz;have T: ∀i j,i<j->j<f->i∉gE ops 64 j->jV (xs i) (xs j)=true/\ (F i).ok (F j)=true:=by
    intro i j A D c;refine⟨sa i j A (by omega) c,?_⟩;by_cases ci: (xs i).i.cls=0
    ·rw[yi ci _ _ _ _ _ (by simp;omega) f3];exact Yv _
    ·by_cases cj: (xs j).i.cls=0
     ·rw[yi cj _ _ _ _ _ (by simp;omega) f3];exact Yw _
     ·have:=f4 j _ D (N j (by omega)) i (Ov i j A (by omega) c ci cj) (by simpa using A);simpa using this
   have Of: ∀i,i<f->i∈gE ops 64 f:=by
    intro i H;refine aoJ λc=>?_
    simp only at f8 f9 f10;rcases f10 with f10|f10
    ·rw[same f f9]at f10;exact anK (x:=g i) (by rw[aoK];exact s i (by omega)) H f10 (Ou i f U c) f8
    ·have ci: (xs i).i.cls≠0:=λci=>f10 i H (yi ci _ _ _ _ _ (by simp;omega) f3)
     have:=Ov i f H U c ci f9;rw[f8]at this;cases this
   have Og: ∀j,f<j->j<ops.size->f∈gE ops 64 j:=by
    intro j D Ox;refine aoJ λc=>?_
    have yp:=f11 j _ D (N j Ox);simp only at yp;split at yp
    ·rw[sa f j D Ox c]at yp;cases yp
    ·rename_i cj;exact yp (Ov f j D Ox c f9 cj)
   refine wpIn_region_draw (λt=>?_);have J: ∃md ord t',Region.schedule (P.follows .mixedOrders) ops t=Region.linearise md ops t'/\uq md ops ord=true:=by
    unfold Region.schedule;split
    ·exact⟨.any,_,t,rfl,YG⟩
    ·split
     ·exact⟨.text,_,_,rfl,YH⟩
     ·exact⟨.gc,_,_,rfl,YI⟩
   obtain⟨md,ord,t',J,yo⟩:=J;rw[J];unfold Region.linearise;have Oo: ∀o∈dq ys,∃z tg,o= .box z tg/\aG z=0:=by
    intro o ho;obtain⟨y,R,W⟩:=HE ys o ho;obtain⟨z,tg,M,rfl⟩:=Du W;refine⟨z,tg,rfl,?_⟩;obtain⟨q,S⟩:=avU R;have K:q<ops.size:=by
     have:=(aeA.1 S).1;omega
    obtain⟨x,e1,e2⟩:=Z q ops[q] (by simp[K]);have e3:=s q (by omega);rw[e1]at e3;rw[I q y S]at M;rw[amv e3]at e2;have:kN P rows ops[q]=some (.alloc z tg):=by
     unfold ic at e2;split at e2
     ·rename_i i' g' h4 h5;rw[<-amv e2]at M;simp only at M;rw[h4,M]
     ·cases e2
    obtain⟨t,_,hc,_⟩:=Hz this;obtain⟨z',_,_,l,_⟩:=rZ hc (Gh.mk (λ_ _=>none) 0 (λi=>i) (λi=>i) (λi=>i) (λi=>i) (λi=>i) (λ_=>none)) w;have:=aD.refs _ _ l;simpa using this
   refine apR hC hg (xs:=xs) (F:=F) (rows:=rows) (nt:=nt) md yo sl (λi=>(g i).fA) (λi o ho=>?_) (λi j bi bj H D A=>?_) (fL:=G) (ch:=E) (λi b H=>?_) (λi H d uA=>hd (g i) (am9 (s i (by omega))) d (by rw[<-HD (m:=sl i)];exact uA)) V U T Of Og ops.size t' _ (List.range f) (G.later (dq ys)) (E.mg (dq ys)) ym _ fr Hr a Q
    (λi=>?_) (by simp) (λj _ D=>by simp[D]) List.pairwise_lt_range (λj o ho D=>?_) (by simpa using U) f3 f5 f6 (G.yj _) (.mg E _) (λi H b hb=>?_) (hw.later Oo).drew (he.mono (G.yj _)) (hm.mono (G.yj _)) hQ
   ·obtain⟨x,R,W⟩:=Z i o (by simpa using ho);have M:=s i (aeA.1 R).1;rw[R]at M;have M:=amv M;subst M;cases v: (g i).fA with
    |none=>exact .inl ⟨rfl,by rw[W];show _=some (lI (sl i) (g i));rw[Ax v]⟩
    |some b=>
     obtain⟨z,tg,h4,rfl⟩:=Du v;refine .inr ⟨z,tg,(g i).g,(g i).dst,rfl,?_,?_⟩
     ·rw[W,<-h4]
     ·show lI (sl i) (g i)=_;rw[Ay v]
   ·have Oq:i<u.length:=by
      by_cases h:i<u.length
      ·exact h
      ·have:=Dx i h;rw[this]at H;cases H
    have Ot:j<u.length:=by
     by_cases h:j<u.length
     ·exact h
     ·have:=Dx j h;rw[this]at D;cases D
    obtain⟨Li,ei⟩:=Az i Oq;obtain⟨Lj,ej⟩:=Az j Ot;have apT: (dq (ys.take i)).length=(dq (ys.take j)).length:=by
     have:E.heap.length+(dq (ys.take i)).length=E.heap.length+(dq (ys.take j)).length:=A;omega
    rcases aBm i j with h|h|h
    ·have:=Dw ys i j _ bi ei H h;omega
    ·exact h
    ·have:=Dw ys j i _ bj ej D h;omega
   ·show G.n<=E.heap.length+_;rw[hw.len];omega
   ·simp only[aqP,ahe,ay9];constructor
    ·intro h;exact⟨h,by simp[Nat.lt_trans h U]⟩
    ·exactλh=>h.1
   ·exfalso;have K:j<ops.size:=(anu.1 ho).1;simp[ahe,K]at D
   ·have K:i<ops.size:=Nat.lt_trans (by simpa using H) U;obtain⟨L,e⟩:=Az i (by omega);have Dy:=Oi ys i _ b e hb;have AA:=(aeA.1 Dy).1;have hn:=hw.len;refine⟨by show E.heap.length+_<G.n+_;omega,?_⟩;show(if E.heap.length+_<G.n then _ else _)=some b;rw[afi (by omega),hn,anb];exact Dy
 grind
theorem apU(n:Nat):yf (iter n):=λ_ _ _ _ h=>⟨n,h⟩
theorem YK(a:fo X B av)(b:o5 P X)(c: ∀f p,X.bU f=some p->ga P B av f p): ∀n,fG P B av (ib X n)
 |0=>by intro fv args E d h;simp[ib]at h
 |n+1=>apE (YK a b c n) a b (Oj a) (apU n) c
end
section
variable{P:Program}{X:Ctx}{B:Nat}{av:World}
def Gh.start(w:World):Gh where
 bt b o:=if b<w.heap.size then w.cell? ⟨b,o,none⟩else none
 n:=0
 aY:=id
 base:=id
 aj:=id
 dS:=id
 sz:=id
theorem aU.start(w:World):aU P w.heap.size w (Gh.start w) {heap:=[],lo:=none} w where
 len:=rfl
 bt b o v h:=by
  simp only[Gh.start]at h
  grind
 obj id o h:=by grind
 inj i j a:=absurd a.1 (aqQ _)
 sep i a:=absurd a.1 (aqQ _)
 low i a:=absurd a.1 (aqQ _)
 lK i o a:=absurd a (aqQ _)
 lJ:=⟨rfl,rfl,rfl,agW _,λ_ _=>rfl⟩
 hB:=agW _
 dA b o v c h:=by simp only[Gh.start];grind
end
section
variable{P:Program}{X:Ctx}{B:Nat}{av:World}
def bu.le(C a:bu):Prop:= ∀f args E r,C f args E=some r->a f args E=some r
def qB(b a:Fr->AS->ja):Prop:= ∀fr E r,b fr E=some r->a fr E=some r
def ed.le(L c:ed):Prop:= ∀b a,qB b a->qB (L b) (c a)
theorem AB{C c:bu}(b:bu.le C c)(i:I)(e:Env)(E:AS)(r:Out)(h:exec X C i e E=some r):exec X c i e E=some r:=by
 cases i with
 |call f args=>
  simp only[exec]at h⊢;split at h
  ·rename_i a;rw[b _ _ _ _ a];exact h
  ·rename_i a;rw[b _ _ _ _ a];exact h
  grind
 |_=>simpa only[exec]using h
theorem HG{C b:bu}(a:bu.le C b): ∀ (os:List aO),qB (eD X C os) (eD X b os)
 | [],_,_,_,h=>by trivial
 |o::os,fr,E,r,h=>by
  simp only[eD]at h⊢;split at h
  ·rename_i hw;rw[afl hw];split at h
   ·rename_i c;rw[AB a _ _ _ _ c];exact HG a os _ _ _ h
   ·grind [AB]
   grind
  ·rename_i hw;rw[afi hw];exact HG a os _ _ _ h
theorem HH{C c:bu}(b:bu.le C c): ∀ (os:List (aO×lN)) (a:List FP),qB (fY X C a os) (fY X c a os)
 | [],_,_,_,_,h=>by trivial
 |o::os,a,fr,E,r,h=>by
  simp only[fY]at h⊢;split at h
  ·rename_i hw;rw[afl hw];split at h
   ·rename_i d;rw[AB b _ _ _ _ d];simp only;split at h
    ·rename_i e;rw[afl e];exact HH b os _ _ _ _ h
    grind
   ·grind [AB]
   grind
  ·rename_i hw;rw[afi hw];exact HH b os _ _ _ _ h
theorem qC{C n:bu}{L m:ed}(d:bu.le C n)(e:ed.le L m)(bO:FuncId)(rd:Bool): ∀l,qB (aX X C L bO rd l) (aX X n m bO rd l)
 |.skip,_,_,_,h=>by trivial
 |.seq a b,fr,E,r,h=>by
  simp only[aX]at h⊢;split at h
  ·rename_i f;rw[qC d e bO rd a _ _ _ f];exact qC d e bO rd b _ _ _ h
  ·cases i:aX X C L bO rd a fr E with
   |none=>grind
   |some q=>
    rw[qC d e bO rd a _ _ _ i]
    grind
 |.cond c a b,fr,E,r,h=>by
  simp only[aX]at h⊢;split at h
  ·rename_i t p;split at h
   ·rename_i j;rw[afl j];exact qC d e bO rd a _ _ _ h
   ·rename_i j;rw[afi j];exact qC d e bO rd b _ _ _ h
  omega
 |.block id body,fr,E,r,h=>by
  simp only[aX]at h⊢;cases i:aX X C L bO rd body fr E with
  |none=>rw[i]at h;cases h
  |some q=>rw[qC d e bO rd body _ _ _ i];rw[i]at h;exact h
 |.loop body,fr,E,r,h=>by
  simp only[aX]at h⊢;exact e _ _ (qC d e bO rd body) _ _ _ h
 |.exit id,_,_,_,h=>by simpa only[aX]using h
 |.ret,_,_,_,h=>by simpa only[aX]using h
 |.aL ops,fr,E,r,h=>by
  simp only[aX]at h⊢;exact HG d ops _ _ _ h
 |.ui ops,fr,E,r,h=>by
  simp only[aX]at h⊢;exact HH d _ _ _ _ _ h
 |.hZ g ps as bd,fr,E,r,h=>by
  simp only[aX]at h⊢;split at h
  ·cases h
  ·rename_i k;rw[afi k];split at h
   ·rename_i o;rw[afl o];split at h
    ·rename_i f;rw[d _ _ _ _ f];exact h
    ·rename_i f;rw[d _ _ _ _ f];exact h
    ·cases h
   ·cases h
theorem apV{C o:bu}{L n:ed}(m:bu.le C o)(k:ed.le L n)(l:Nat)(args:lA)(E:AS)(r:aS)(h:jW X C L l args E=some r):jW X o n l args E=some r:=by
 simp only[jW]at h⊢;split at h
 ·rename_i st i f env ps as bd u;split at h
  ·rename_i a;simp only[a,aiH];split at h
   ·rename_i fr d p;rw[qC m k _ _ _ _ _ _ p];simp only;split at h
    ·rename_i b t c e g iE s;cases j:aX X C L f true bd fr (d.set l (.loop .busy b t c e g iE) 0)with
     |none=>rw[j]at h;cases h
     |some q=>rw[qC m k _ _ _ _ _ _ j];grind
    omega
   grind
  grind
 omega
def YL{C c:bu}{L b:ed}(e:bu.le C c)(d:ed.le L b):bu.le (step X C L) (step X c b):=by
 intro v args E r h;unfold step at h⊢;split at h
 ·rename_i f first cap
  split at h
  ·omega
  ·split at h
   ·rename_i pf g;split at h
    ·cases a:aX X C L f false pf.body {env:=cZ (first++args++cap),marks:=[]} {E with lo:=none}with
     |none=>rw[a]at h;cases h
     |some q=>rw[qC e d _ _ _ _ _ _ a];grind
    grind
   omega
 ·grind [apV]
 omega
theorem Oy: ∀n,ed.le (iter n) (iter (n+1))
 |0,b,c,a,fr,E,r,h=>by trivial
 |n+1,b,c,a,fr,E,r,h=>by
  rw[iter]at h⊢;split at h
  ·rename_i d;rw[a _ _ _ d];exact Oy n b c a _ _ _ h
  ·rw[a _ _ _ h]
   grind
theorem YM: ∀n,bu.le (ib X n) (ib X (n+1))
 |0=>λf args E r h=>by trivial
 |n+1=>by
  exact YL (YM n) (Oy n)
theorem bu.le_trans{A B C:bu}(h:bu.le A B)(k:bu.le B C):bu.le A C:=λf a s r e=>k f a s r (h f a s r e)
def yq(h:n<=m):bu.le (ib X n) (ib X m):=by
 induction h with
 |refl=>exactλf a s r e=>e
 |step _ b=>exact bu.le_trans b (YM _)
def Oz(h:n<=m)(b:Fr->AS->ja):qB (iter n b) (iter m b):=by
 induction h with
 |refl=>exactλfr s r e=>e
 |step _ a=>exactλfr s r e=>Oy _ b b (λ_ _ _ h=>h) _ _ _ (a fr s r e)
theorem HI: ∀n (b a:Fr->AS->ja),qB b a->qB (iter n b) (iter n a)
 |0,_,_,_=>λfr E r h=>by trivial
 |n+1,b,a,c=>λfr E r h=>by
  rw[iter]at h⊢;split at h
  ·rename_i d;rw[c _ _ _ d];exact HI n b a c _ _ _ h
  ·rw[c _ _ _ h]
   grind
def YN(h:n<=m):ed.le (iter n) (iter m):=by
 intro b a c fr s r e;exact Oz h a _ _ _ (HI n b a c _ _ _ e)
noncomputable def D(X:Ctx):bu:=λf args E=>
 open Classical in if h: ∃r,∃n,ib X n f args E=some r then some h.choose else none
noncomputable def Lw:ed:=λb fr E=>
 open Classical in if h: ∃r,∃n,iter n b fr E=some r then some h.choose else none
def OA:bu.le (ib X n) (D X):=by
 intro f args E r h;have a: ∃r,∃n,ib X n f args E=some r:=⟨r,n,h⟩;unfold D;obtain⟨m,hm⟩:=a.choose_spec;have c:=yq (arE n m) _ _ _ _ h;have b:=yq (att n m) _ _ _ _ hm
 grind
theorem yr{f:AV}{args:lA}{E:AS}{r:aS}(h:D X f args E=some r): ∃n,ib X n f args E=some r:=by
 unfold D at h;split at h
 ·grind
 grind
def OB{b:Fr->AS->ja}:qB (iter n b) (Lw b):=by
 intro fr E r h;have a: ∃r,∃n,iter n b fr E=some r:=⟨r,n,h⟩;unfold Lw;obtain⟨m,hm⟩:=a.choose_spec;have d:=Oz (arE n m) b _ _ _ h;have c:=Oz (att n m) b _ _ _ hm
 grind
def DA{b:Fr->AS->ja}{a:Fr}{E:AS}{r:Ex×Fr×AS}(h:Lw b a E=some r): ∃n,iter n b a E=some r:=by
 unfold Lw at h;split at h
 ·grind
 grind
theorem apW(b:Fr->AS->ja)(e:Fr)(E:AS):Lw b e E=match b e E with
  |some (.normal,c,h)=>Lw b c h
  |r=>r:=by
 split
 ·rename_i c h d;cases g:Lw b c h with
  |none=>
   cases f:Lw b e E with
   |none=>rfl
   |some r=>
    obtain⟨n,a⟩:=DA f;cases n with
    |zero=>trivial
    |succ n=>rw[iter,d]at a;rw[OB _ _ _ a]at g;cases g
  |some r=>
   obtain⟨n,a⟩:=DA g;exact OB (n:=n+1) _ _ _ (by rw[iter,d];exact a)
 ·cases d:b e E with
  |none=>
   cases f:Lw b e E with
   |none=>rfl
   |some r=>
    obtain⟨n,a⟩:=DA f;cases n with
    |zero=>trivial
    |succ n=>rw[iter,d]at a;cases a
  |some q=>
   refine OB (n:=1) _ _ _ ?_;rw[iter,d]
   grind
theorem HJ{i:I}{E:AS}{r:Out}(h:exec X (D X) i e E=some r): ∃n,exec X (ib X n) i e E=some r:=by
 cases i with
 |call f args=>
  simp only[exec]at h⊢;split at h
  ·grind [yr]
  ·rename_i b;obtain⟨n,a⟩:=yr b;exact⟨n,by rw[a];exact h⟩
  grind
 |_=>exact⟨0,by simpa only[exec]using h⟩
theorem OC: ∀ (os:List aO) (fr:Fr) (E:AS) (r:Ex×Fr×AS),eD X (D X) os fr E=some r-> ∃n,eD X (ib X n) os fr E=some r
 | [],_,_,_,h=>⟨0,by trivial⟩
 |o::os,fr,E,r,h=>by
  simp only[eD]at h⊢;split at h
  ·rename_i hw;simp only[hw,aiH];split at h
   ·rename_i a;obtain⟨n,b⟩:=HJ a;obtain⟨m,hm⟩:=OC os _ _ _ h;refine⟨max n m,?_⟩;rw[AB (yq (arE n m)) _ _ _ _ b];exact HG (yq (att n m)) _ _ _ _ hm
   ·grind [HJ]
   grind
  ·obtain⟨m,hm⟩:=OC os _ _ _ h
   grind
theorem OD: ∀ (os:List (aO×lN)) (a:List FP) (fr:Fr) (E:AS) (r:Ex×Fr×AS),fY X (D X) a os fr E=some r-> ∃n,fY X (ib X n) a os fr E=some r
 | [],_,_,_,_,h=>⟨0,by trivial⟩
 |o::os,a,fr,E,r,h=>by
  simp only[fY]at h⊢;split at h
  ·rename_i hw;simp only[hw,aiH];split at h
   ·rename_i b;obtain⟨n,c⟩:=HJ b;split at h
    ·rename_i d;obtain⟨m,hm⟩:=OD os _ _ _ _ h;refine⟨max n m,?_⟩;rw[AB (yq (arE n m)) _ _ _ _ c];simp only;rw[afl d];exact HH (yq (att n m)) _ _ _ _ _ hm
    grind
   ·rename_i b;obtain⟨n,c⟩:=HJ b
    grind
   grind
  ·obtain⟨m,hm⟩:=OD os _ _ _ _ h
   grind
theorem yt(h:n<=m)(bO:FuncId)(rd:Bool)(a:PC):qB (aX X (ib X n) (iter n) bO rd a) (aX X (ib X m) (iter m) bO rd a):=
 qC (yq h) (YN h) bO rd a
theorem qD(bO:FuncId)(rd:Bool): ∀ (o:PC) (fr:Fr) (E:AS) (r:Ex×Fr×AS),aX X (D X) Lw bO rd o fr E=some r-> ∃n,aX X (ib X n) (iter n) bO rd o fr E=some r
 |.skip,_,_,_,h=>⟨0,by trivial⟩
 |.seq a b,fr,E,r,h=>by
  simp only[aX]at h;split at h
  ·rename_i e;obtain⟨n,d⟩:=qD bO rd a _ _ _ e;obtain⟨m,hm⟩:=qD bO rd b _ _ _ h;refine⟨max n m,?_⟩;simp only[aX];rw[yt (arE n m) _ _ _ _ _ _ d];exact yt (att n m) _ _ _ _ _ _ hm
  ·rename_i e;obtain⟨n,d⟩:=qD bO rd a _ _ _ h;refine⟨n,?_⟩;simp only[aX];rw[d];obtain⟨ex,l,w⟩:=r;cases ex with
   |normal=>exact absurd h (e _ _)
   |_=>rfl
 |.cond c a b,fr,E,r,h=>by
  simp only[aX]at h;split at h
  ·rename_i t s;split at h
   ·rename_i i;obtain⟨n,d⟩:=qD bO rd a _ _ _ h;exact⟨n,by simp only[aX,s,i,aiH];exact d⟩
   ·rename_i i;obtain⟨n,d⟩:=qD bO rd b _ _ _ h;exact⟨n,by simp only[aX,s,afi i];exact d⟩
  ·cases h
 |.block id body,fr,E,r,h=>by
  simp only[aX]at h;cases j:aX X (D X) Lw bO rd body fr E with
  |none=>rw[j]at h;cases h
  |some q=>
   obtain⟨n,d⟩:=qD bO rd body _ _ _ j;refine⟨n,?_⟩;simp only[aX];rw[d];rw[j]at h;exact h
 |.loop body,fr,E,r,h=>by
  simp only[aX]at h;obtain⟨k,v⟩:=DA h;have key: ∀k fr,∀E,iter k (aX X (D X) Lw bO rd body) fr E=some r-> ∃n,iter n (aX X (ib X n) (iter n) bO rd body) fr E=some r:=by
   intro k
   induction k with
   |zero=>intro fr E h;simp[iter]at h
   |succ k u=>
    intro fr E h;rw[iter]at h;split at h
    ·rename_i e;obtain⟨n,d⟩:=qD bO rd body _ _ _ e;obtain⟨m,hm⟩:=u _ _ h;refine⟨max n m+1,?_⟩;rw[iter];rw[yt (show n<=max n m+1 by omega) _ _ _ _ _ _ d];exact YN (show m<=max n m by omega) _ _ (yt (show m<=max n m+1 by omega) _ _ _) _ _ _ hm
    ·rename_i e;obtain⟨n,d⟩:=qD bO rd body _ _ _ h;refine⟨n+1,?_⟩;rw[iter,yt (Nat.le_succ n) _ _ _ _ _ _ d];obtain⟨ex,l,w⟩:=r;cases ex with
     |normal=>exact absurd h (e _ _)
     |_=>rfl
  obtain⟨n,d⟩:=key k fr E v;exact⟨n,by simp only[aX];exact d⟩
 |.exit id,_,_,_,h=>⟨0,by simpa only[aX]using h⟩
 |.ret,_,_,_,h=>⟨0,by simpa only[aX]using h⟩
 |.aL ops,fr,E,r,h=>by
  simp only[aX]at h;obtain⟨n,d⟩:=OC _ _ _ _ h;exact⟨n,by simp only[aX];exact d⟩
 |.ui ops,fr,E,r,h=>by
  simp only[aX]at h;obtain⟨n,d⟩:=OD _ _ _ _ _ h;exact⟨n,by simp only[aX];exact d⟩
 |.hZ g ps as bd,fr,E,r,h=>by
  simp only[aX]at h;split at h
  ·cases h
  ·rename_i f;split at h
   ·rename_i p;split at h
    ·rename_i e;obtain⟨n,d⟩:=yr e;exact⟨n,by simp only[aX];rw[afi f,afl p,d];exact h⟩
    ·rename_i e;obtain⟨n,d⟩:=yr e;exact⟨n,by simp only[aX];rw[afi f,afl p,d];exact h⟩
    ·cases h
   ·cases h
def apX{args:lA}{E:AS}{r:aS}(h:jW X (D X) Lw l args E=some r): ∃n,jW X (ib X n) (iter n) l args E=some r:=by
 simp only[jW]at h⊢;split at h
 ·rename_i st i f env ps as bd t;split at h
  ·rename_i d;split at h
   ·rename_i fr c k;obtain⟨n,o⟩:=qD _ _ _ _ _ _ k;split at h
    ·rename_i a s b e g iE p;cases j:aX X (D X) Lw f true bd fr (c.set l (.loop .busy a s b e g iE) 0)with
     |none=>rw[j]at h;cases h
     |some q=>
      obtain⟨m,hm⟩:=qD _ _ _ _ _ _ j;have e1:=yt (arE n m) _ _ _ _ _ _ o;have u:=yt (att n m) _ _ _ _ _ _ hm
      grind
    grind
   grind
  grind
 grind
def HK{args:lA}{E:AS}{r:aS}(h:step X (D X) Lw v args E=some r):D X v args E=some r:=by
 have key: ∃n,step X (ib X n) (iter n) v args E=some r:=by
  unfold step at h⊢;split at h
  ·rename_i f first cap
   split at h
   ·simp_all
   ·split at h
    ·rename_i pf c;split at h
     ·cases a:aX X (D X) Lw f false pf.body {env:=cZ (first++args++cap),marks:=[]} {E with lo:=none}with
      |none=>rw[a]at h;cases h
      |some q=>grind [qD]
     grind
    grind
  ·exact apX h
  grind
 obtain⟨n,b⟩:=key;exact OA (n:=n+1) _ _ _ _ (by trivial)
def OE(b:fo X B av)(c:o5 P X)(d: ∀f p,X.bU f=some p->ga P B av f p):fG P B av (D X):=by
 intro fv args E e h;obtain⟨n,a⟩:=yr h;exact YK b c d n fv args E e a
end
def HL:Value->Prop
 |.slice (some a) _ _=>a.spot=none
 |_=>True
section
variable{H:Type}{enc:TypeId×Value->H}{P:Program}{w:World}{sp:Nat->Bool}{held:Bool}
def OF(R:TypeId->DataW H->lA->Prop):List Field->List (DataW H)->lA->Prop
 | [],e,xs=>e=[]/\xs=[]
 |x::r,e,xs=> ∃d c a b,e=d::c/\xs=a++b/\R x.type d a/\OF R r c b
def gb(P:Program):Nat->TypeId->DataW H->lA->Prop
 |0,_,_,_=>False
 |f+1,t,d,xs=>match P.underlying t with
  |some .bool=> ∃b,d= .lit (.bool b)/\xs=[.bool b]
  |some (.int k)=> ∃n,d= .lit (.int k n)/\xs=[.int k n]/\ (Lit.int k n).wf=true
  |some .string=> ∃s:ByteArray,d= .lit (.string s.data.toList)/\xs=[.str s]/\s.size<=maxLen
  |some (.slice e)=>(d= .nil/\xs=[.ai])\/ ∃ (es rest:List (DataW H)) (af:List lA),d= .slice es rest/\xs=[.sl af false]/\es.length=af.length/\af.length<=maxLen/\
    ∀ (i:Nat) (a:DataW H) (b:lA),es[i]?=some a->af[i]?=some b->b.length=P.cellsOf e/\gb P f e a b
  |some (.struct fs)=> ∃c,d= .agg c/\OF (gb P f) fs.toList c xs
  |some (.array n e)=> ∃ (c:List (DataW H)) (af:List lA),d= .agg c/\xs=af.flatten/\c.length=n/\af.length=n/\ ∀ (i:Nat) (a:DataW H) (b:lA),c[i]?=some a->af[i]?=some b->gb P f e a b
  |_=>False
def AD(P:Program)(g:TypeId->Bool):List Field->Nat->Nat->Bool
 | [],off,n=>off==n
 |x::r,off,n=>x.offset==off&&g x.type&&AD P g r (off+P.cellsOf x.type) n
def AE(P:Program)(nest:Bool):Nat->TypeId->Bool
 |0,_=>false
 |f+1,t=>match P.underlying t with
  |some .bool=>true
  |some (.int _)=>true
  |some .string=>true
  |some (.slice e)=>nest&&AE P nest f e
  |some (.struct fs)=>AD P (AE P nest f) fs.toList 0 (P.cellsOf t)
  |some (.array n e)=>AE P nest f e&&P.cellsOf t==n*P.cellsOf e
  |_=>false
def YO(w:World)(b o:Nat):Option Value:=if b<w.heap.size then w.cell? ⟨b,o,none⟩else none
def apY{b o:Nat}{v:Value}(h:w.cell? ⟨b,o,none⟩=some v):YO w b o=some v:=by
 unfold YO;rw[afl,h];unfold World.cell? at h
 grind
def YP{a:Addr}(h:a.spot=none)(n:Nat):a.add n=⟨a.block,a.off+n,none⟩:=by
 unfold Addr.add;split
 ·obtain⟨b,o,s⟩:=a;grind
 ·rfl
def apZ{a:Addr}(e:a.spot=none){c:Nat}{cs:List Value}(h:w.cells? 0 (a.add k) c=some cs):cs.length=c/\ ∀ (j:Nat) (v:Value),cs[j]?=some v->w.cell? ⟨a.block,a.off+k+j,none⟩=some v:=by
 have b:=mapM_some_length h;rw[aCv]at b;refine⟨b,λj v d=>?_⟩;have:=mapM_some_get h j j (by grind);rw[d]at this;rw[YP e,YP rfl]at this;omega
def YQ{e:TypeId}{R:DataW H->lA->Prop}{a:Addr}(A:a.spot=none)
  (D: ∀ (cs:List Value) d ps,(∀ (j:Nat) (v:Value),cs[j]?=some v-> ∃o,w.cell? ⟨a.block,o,none⟩=some v)->DataW.trod enc P w 0 sp held n e cs=some (d,ps)-> ∃xs,R d xs/\aD (Gh.start w) xs cs/\Leaves cs/\xs.length=cs.length)
  {es:List (DataW H×List MemPlace)} (len:Nat) (M:len<=es.length)
  (h: ∀i,i<len->(w.cells? 0 (a.add (i*P.cellsOf e)) (P.cellsOf e)).bind (DataW.trod enc P w 0 sp held n e)=es[i]?):
  ∃ (af:List lA) (vs:List Value),af.length=len/\ (∀ (i:Nat) (x:DataW H×List MemPlace) (b:lA),es[i]?=some x->af[i]?=some b->b.length=P.cellsOf e/\R x.1 b)/\aD (Gh.start w) af.flatten vs/\Leaves vs/\vs.length=len*P.cellsOf e/\mZ (Gh.start w) a.block a.off vs:=by
 induction len with
 |zero=>exact⟨[],[],rfl,λi x b _ f=>by grind,rfl,λv c=>by grind,by simp,λj v c=>by grind⟩
 |succ m y=>
  obtain⟨af,vs,q,J,I,G,F,E⟩:=y (by omega) (λi p=>h i (by omega));have hm:=h m (auJ m);have g:es[m]?=some es[m]:=afu (by omega);rw[g,ao9]at hm;obtain⟨cs,C,z⟩:=hm;obtain⟨K,r⟩:=apZ A C;obtain⟨xs,u,t,s,L⟩:=D cs es[m].1 es[m].2 (λj v c=>⟨_,r j v c⟩) z;refine⟨af++[xs],vs++cs,by simp[q],λi x b k f=>?_,by rw[aoZ];simpa using I.append t,G.append s,by simp[F,K,aq9],λj v c=>?_⟩
  ·by_cases p:i<af.length
   ·rw[aez p]at f;exact J i x b k f
   ·have l:=(aeA.1 f).1;rw[agU,arF]at l;have:i=m:=by omega
    subst this;rw[ag8 (by omega),q,Nat.sub_self]at f;simp only[aro,afh]at f;rw[g]at k;cases k;cases f;exact⟨by omega,u⟩
  ·by_cases B:j<vs.length
   ·rw[aez B]at c;exact E j v c
   ·rw[ag8 (by omega)]at c;have:=r _ _ c;have e1:a.off+m*P.cellsOf e+(j-vs.length)=a.off+j:=by omega
    rw[e1]at this;exact apY this
theorem OG{n:Nat}{R:TypeId->DataW H->lA->Prop}{g:TypeId->Bool}{cs:List Value}
  (m: ∀t c d ps,g t=true->(∀v∈c,v∈cs)->DataW.trod enc P w 0 sp held n t c=some (d,ps)-> ∃xs,R t d xs/\aD (Gh.start w) xs c/\Leaves c/\xs.length=c.length)
  (N:Nat) (u:cs.length=N):
  ∀ (fs:List Field) (ys:List (DataW H×List MemPlace)) (off:Nat),AD P g fs off N=true->ys.length=fs.length->(∀ (i:Nat) (f:Field),fs[i]?=some f->DataW.trod enc P w 0 sp held n f.type ((cs.drop f.offset).take (P.cellsOf f.type))=ys[i]?)->
    ∃xs,OF R fs (ys.map (·.1)) xs/\aD (Gh.start w) xs (cs.drop off)/\Leaves (cs.drop off)/\xs.length=(cs.drop off).length
 | [],ys,off,j,k,_=>by
   simp only[AD,aud]at j;have:cs.drop off=[]:=akU (by omega);rw[this];cases ys with
   |nil=>exact⟨[],⟨rfl,rfl⟩,rfl,λv l=>by grind,rfl⟩
   |cons _ _=>grind
 |x::r,ys,off,j,k,h=>by
  simp only[AD,aiq,aud]at j;obtain⟨⟨rfl,s⟩,p⟩:=j;cases ys with
  |nil=>grind
  |cons y ys=>
   have o:=h 0 x rfl;simp only[aro]at o;obtain⟨a,G,F,E,D⟩:=m x.type _ y.1 y.2 s (λv l=>ap0 (alP l)) o;obtain⟨b,C,B,A,z⟩:=OG m N u r ys (x.offset+P.cellsOf x.type) p (by simpa using k) (λi f q=>by have:=h (i+1) f q;simpa using this);have e:cs.drop x.offset=(cs.drop x.offset).take (P.cellsOf x.type)++cs.drop (x.offset+P.cellsOf x.type):=by
    rw[<-aqX];exact(apt _ _).symm
   refine⟨a++b,⟨y.1,ys.map (·.1),a,b,rfl,rfl,G,C⟩,?_,?_,?_⟩
   ·rw[e];exact F.append B
   ·rw[e];exact E.append A
   ·rw[e,agU,agU,D,z]
def YR{e:TypeId}{R:DataW H->lA->Prop}{cs:List Value}
  (A: ∀ (c:List Value) d ps,(∀v∈c,v∈cs)->DataW.trod enc P w 0 sp held n e c=some (d,ps)-> ∃xs,R d xs/\aD (Gh.start w) xs c/\Leaves c/\xs.length=c.length)
  {ys:List (DataW H×List MemPlace)} (k:Nat) (z:k*P.cellsOf e<=cs.length) (F:k<=ys.length) (h: ∀i,i<k->DataW.trod enc P w 0 sp held n e ((cs.drop (i*P.cellsOf e)).take (P.cellsOf e))=ys[i]?):
  ∃af:List lA,af.length=k/\ (∀ (i:Nat) (x:DataW H×List MemPlace) (b:lA),ys[i]?=some x->af[i]?=some b->R x.1 b)/\aD (Gh.start w) af.flatten (cs.take (k*P.cellsOf e))/\Leaves (cs.take (k*P.cellsOf e))/\af.flatten.length=k*P.cellsOf e:=by
 induction k with
 |zero=>exact⟨[],rfl,λi x b _ a=>by grind,by simp[aD],λv l=>by grind,by simp⟩
 |succ m y=>
  rw[aq9]at z;obtain⟨af,p,E,D,C,B⟩:=y (by omega) (by omega) (λi o=>h i (by omega));have hm:=h m (auJ m);have g:ys[m]?=some ys[m]:=afu (by omega);rw[g]at hm;obtain⟨xs,u,t,s,r⟩:=A _ ys[m].1 ys[m].2 (λv l=>ap0 (alP l)) hm;have f:xs.length=P.cellsOf e:=by rw[r,aiI,anA];omega
  have q:cs.take ((m+1)*P.cellsOf e)=cs.take (m*P.cellsOf e)++(cs.drop (m*P.cellsOf e)).take (P.cellsOf e):=by rw[aq9,List.take_add]
  refine⟨af++[xs],by simp[p],λi x b f a=>?_,by rw[q,aoZ];simpa using D.append t,by rw[q];exact C.append s,by rw[aoZ,agU,B,aq9];simp[f]⟩;by_cases o:i<af.length
  ·rw[aez o]at a;exact E i x b f a
  ·have j:=(aeA.1 a).1;rw[agU,arF]at j;have:i=m:=by omega
   subst this;rw[ag8 (by omega),p,Nat.sub_self]at a;simp only[aro,afh]at a;rw[g]at f;cases f;cases a;exact u
theorem HM{nest:Bool}(J:nest=true-> ∀b o v,w.cell? ⟨b,o,none⟩=some v->HL v): ∀ (f:Nat) (t:TypeId) (n:Nat) (cs:List Value) (d:DataW H) (ps:List MemPlace),AE P nest f t=true->(nest=true-> ∀v∈cs,HL v)->
  DataW.trod enc P w 0 sp held n t cs=some (d,ps)-> ∃xs,gb P f t d xs/\aD (Gh.start w) xs cs/\Leaves cs/\xs.length=cs.length
 |0,_,_,_,_,_,r,_,_=>by trivial
 |f+1,t,n,cs,d,ps,r,C,h=>by
  unfold AE at r;unfold gb;cases B:P.underlying t with
  |none=>grind
  |some td=>
   rw[B]at r;cases td with
   |bool=>
    obtain⟨b,rfl,l⟩:=DataW.trod_bool B h;cases l;exact⟨[.bool b],⟨b,rfl,rfl⟩,aD.single.2 rfl,λv g=>by simp at g;subst g;rfl,rfl⟩
   |int k=>
    obtain⟨b,rfl,l,T⟩:=DataW.trod_int B h;cases l;exact⟨[.int k b],⟨b,rfl,rfl,T⟩,aD.single.2 rfl,λv g=>by simp at g;subst g;rfl,rfl⟩
   |string=>
    obtain⟨s,rfl,l,F⟩:=DataW.trod_string B h;cases l;exact⟨[.str s],⟨s,rfl,rfl,F⟩,aD.single.2 rfl,λv g=>by simp at g;subst g;rfl,rfl⟩
   |slice e=>
    simp only[aiq]at r;obtain⟨D,r⟩:=r;rcases DataW.trod_slice B h with⟨rfl,l⟩| ⟨a,len,cap,es,rest,m,rfl,rfl,l,_,hlc,XW,W,V,_,_⟩
    ·cases l;exact⟨[.ai],.inl ⟨rfl,rfl⟩,aD.single.2 rfl,λv g=>by simp at g;subst g;rfl,rfl⟩
    ·cases l;have F:a.spot=none:=C D _ (List.mem_singleton_self _);obtain⟨af,vs,Q,O,N,M,h5,h6⟩:=YQ (R:=gb P f e) F (λc I p u q=>HM J f e m c I p r (λ_ v g=>by
      obtain⟨j,L⟩:=aut.1 g;obtain⟨o,ho⟩:=u j v L;exact J D _ _ _ ho) q) len (by omega) V
     refine⟨[.sl af false],.inr ⟨es.map (·.1),rest.map (·.1),af,rfl,rfl,by simp[W,Q],by omega,λi x b l Y=>?_⟩,aD.single.2 ?_,λv g=>by simp at g;subst g;rfl,rfl⟩
     ·rw[aiG,agY]at l;obtain⟨y,S,rfl⟩:=l;exact O i y b S Y
     ·refine⟨a.block,a.off,cap,P.cellsOf e,vs,?_,by omega,(λu=>absurd u (by decide)),λel G=>?_,h6,M,bp.iff.2 N⟩
      ·rw[Q];obtain⟨b,o,s⟩:=a;simp at F;subst F;rfl
      ·obtain⟨j,L⟩:=aut.1 G;have hjl:=(aeA.1 L).1;exact(O j es[j] el (afu (by omega)) L).1
   |struct fs=>
    obtain⟨ys,m,rfl,l,K,A,z⟩:=DataW.trod_struct B h;cases l;obtain⟨xs,x1,x2,x3,x4⟩:=OG (R:=gb P f) (cs:=cs) (λt' c I p hg u q=>HM J f t' m c I p hg (λD v g=>C D v (u v g)) q) _ K fs.toList ys 0 r (by simpa using A) (λi fl hi=>z i fl (by simpa using hi));exact⟨xs,⟨_,rfl,x1⟩,by simpa using x2,by simpa using x3,by simpa using x4⟩
   |array k e=>
    simp only[aiq,aud]at r;obtain⟨U,u⟩:=r;obtain⟨ys,m,rfl,l,K,A,z⟩:=DataW.trod_array B h;cases l;obtain⟨af,Q,O,N,M,h5⟩:=YR (R:=gb P f e) (cs:=cs) (λc I p X q=>HM J f e m c I p U (λD v g=>C D v (X v g)) q) k (by rw[K,u];exact agW _) (by omega) z;have E:k*P.cellsOf e=cs.length:=by rw[K,u]
    rw[E,ag4]at N M;exact⟨af.flatten,⟨_,af,rfl,rfl,by simpa using A,Q,λi a b Z Y=>by
     rw[aiG,agY]at Z;obtain⟨y,S,rfl⟩:=Z;exact O i y b S Y⟩,N,M,by rw[h5,E]⟩
   |_=>cases r
theorem YS{W j:World}(g:laidOutB P=true)(i:Below W.heap.size W j): ∀ {ts:List TypeId} {vs:List Value} {e:List (DataW H)} {ps:List MemPlace},(ts.all λt=>P.readableRec t&&decide (t<P.types.size))=true->
  DataW.TrodAll enc P W 0 (λ_=>true) true ts vs e ps->(∀x∈ps,x.block<W.heap.size)->DataW.TrodAll enc P j 0 (λb=>decide (b<W.heap.size)) true ts vs e ps
 | [],[],[],_,_,h,_=>h
 |t::ts,v::vs,d::e,ps,c,h,f=>by
  simp only[awi,aiq,amB]at c;obtain⟨p,q,l,k,rfl⟩:=h;exact⟨p,q,Below.trod g c.1.1 c.1.2 l i (λx a=>f x (List.mem_append_left _ a)),YS g i (by grind) k (λx a=>f x (List.mem_append_right _ a)),rfl⟩
 | [],[],_::_,_,_,h,_=>h.elim
 | [],_::_,_,_,_,h,_=>h.elim
 |_::_,[],_,_,_,h,_=>h.elim
 |_::_,_::_,[],_,_,h,_=>h.elim
end
def ap2{P:Program}{X:Ctx}(n:fo X w.heap.size w)(r:o5 P X)(s: ∀f p,X.bU f=some p->ga P w.heap.size w f p){fn:Func}(j:P.funcs[f]?=some fn)(q:fn.body.isSome=true)
  (d: (fn.name== "runtime.NumGoroutine")=false) {args:lA} {a:Array Value} (m:aD (Gh.start w) args a.toList)  {l:AS} (h:D X (.fn (.func f) [] []) args ⟨[],none⟩=some (.ret v l)):
  Calls P f a w λe w'=> ∃G v',e= .returned v'/\an G v v'/\Below w.heap.size w w':=by
 have k:=OE n r s _ _ _ _ h (Gh.start w) w (.func (.func f) #[] #[]) a (.start w) ⟨_,_,_,rfl,rfl,rfl,rfl⟩ m;have b: (wa (.func (.func f) #[] #[]) a).run P w= .ok (.enter f a) w:=by
  have g: ¬fn.name= "runtime.NumGoroutine" :=by grind
  obtain⟨c,o⟩:=atx.1 q;simp[wa,Deferred.ofValue,invoke,callFunc,arC,j,g,o]
 rw[b]at k;have i:CallsIn Fence.wide 0 P f a w (Ends P w.heap.size w (Gh.start w) {heap:=[],lo:=none} (.ret v l)):=k;refine callsIn_wide.1 (i.mono λe w' he=>?_);cases e with
 |returned v'=>
  obtain⟨x,y,u,t,_⟩:=he;exact⟨x,v',rfl,t,u.lJ⟩
 |panicked _=>trivial
 |outgrown=>trivial
section
abbrev bQ:=Ex->Fr->AS->Prop
variable(X:Ctx)
def wp(f:FuncId)(rd:Bool)(c:PC)(fr:Fr)(E:AS)(Q:bQ):Prop:=
 ∃ex a b,aX X (D X) Lw f rd c fr E=some (ex,a,b)/\Q ex a b
def dm(os:List aO)(fr:Fr)(E:AS)(Q:bQ):Prop:=
 ∃ex a b,eD X (D X) os fr E=some (ex,a,b)/\Q ex a b
def gp(b:List FP)(os:List (aO×lN))(fr:Fr)(E:AS)(Q:bQ):Prop:=
 ∃ex a c,fY X (D X) b os fr E=some (ex,a,c)/\Q ex a c
def qE(K Kp:AV->AS->Prop):Option Out->Prop
 |some (.ok v E)=>K v E
 |some (.panic v E)=>Kp v E
 |none=>False
def aP(i:I)(e:Env)(E:AS)(K Kp:AV->AS->Prop):Prop:=qE K Kp (exec X (D X) i e E)
def DB(f:FuncId)(rd:Bool)(b:PC)(Q:bQ):bQ
 |.normal,fr,E=>wp X f rd b fr E Q
 |ex,fr,E=>Q ex fr E
def yu(id:Nat)(Q:bQ):bQ
 |.exit i,fr,E=>if i=id then Q .normal fr E else Q (.exit i) fr E
 |ex,fr,E=>Q ex fr E
def HN(K Kp:AV->AS->Prop):Option aS->Prop
 |some (.ret v E)=>K v E
 |some (.panic v E)=>Kp v E
 |none=>False
def dn(n:Nat)(lo:oN)(b:List RV)(R:aS->Prop):bQ
 |.normal,fr,E|.ret,fr,E=> ∃a v,dy E fr.marks=some a/\fk X a fr.env b=some v/\R (.ret (finish n lo v a).1 (finish n lo v a).2)
 |.panic v,fr,E=> ∃a,dy E fr.marks=some a/\R (.panic (finish n lo v a).1 (finish n lo v a).2)
 |.exit _,_,_=>False
def HO(c:AV)(b:Bool)(A B:Prop):Prop:=
 match c with
 |.bool t=>(t=b->A)/\ (t=(!b)->B)
 |_=>False
variable{X}{f:FuncId}{rd:Bool}{fr:Fr}{E:AS}{Q:bQ}{e:Env}{ms:lN}{K Kp:AV->AS->Prop}
theorem aCO{a:Ex}{b:Fr}{c:AS}: (∃ex d g,(some (a,b,c):ja)=some (ex,d,g)/\Q ex d g)↔Q a b c:=
 by grind
def yv(c:AV)(b:Bool)(A B C:Prop):Prop:=
 match c with
 |.bool t=>(t=b->A)/\ (t=(!b)->B)
 |_=>C
theorem wp_skip:wp X f rd .skip fr E Q=Q .normal fr E:=propext (by simp only[wp,aX];grind)
theorem wp_exit{id:Nat}:wp X f rd (.exit id) fr E Q=Q (.exit id) fr E:=propext (by simp only[wp,aX];grind)
theorem wp_ret:wp X f rd .ret fr E Q=Q .ret fr E:=propext (by simp only[wp,aX];grind)
def wp_seq{a:PC}:wp X f rd (.seq a b) fr E Q=wp X f rd a fr E (DB X f rd b Q):=by
 apply propext;simp only[wp,aX];constructor
 ·rintro⟨ex,d,j,h,c⟩;split at h
  ·rename_i g i k;exact⟨_,_,_,k,ex,d,j,h,c⟩
  ·refine⟨_,_,_,h,?_⟩;cases ex with
   |normal=>grind
   |_=>exact c
 ·rintro⟨ex,d,j,h,c⟩;rw[h];cases ex with
  |normal=>exact c
  |exit _=>exact⟨_,_,_,rfl,c⟩
  |ret=>exact⟨_,_,_,rfl,c⟩
  |panic _=>exact⟨_,_,_,rfl,c⟩
def wp_block{id:Nat}:wp X f rd (.block id b) fr E Q=wp X f rd b fr E (yu id Q):=by
 apply propext;simp only[wp,aX];constructor
 ·rintro⟨ex,c,d,h,a⟩;split at h
  ·simp only[yu]
   grind
  ·refine⟨_,_,_,h,?_⟩;cases ex with
   |exit i=>grind
   |_=>exact a
 ·rintro⟨ex,c,d,h,a⟩;rw[h];cases ex with
  |normal=>exact⟨_,_,_,rfl,a⟩
  |exit i=>
   simp only[yu]at a
   grind
  |ret=>exact⟨_,_,_,rfl,a⟩
  |panic _=>exact⟨_,_,_,rfl,a⟩
def wp_cond{c:ao}{a:PC}:wp X f rd (.cond c a b) fr E Q=HO (c.get fr.env) true (wp X f rd a fr E Q) (wp X f rd b fr E Q):=by
 apply propext;simp only[wp,aX,HO];constructor
 ·grind
 ·intro h;cases d:c.get fr.env<;>rw[d]at h<;>simp only at h<;>try rfl
  rename_i t;cases t
  ·grind
  grind
theorem OH{os:List aO}:wp X f rd (.aL os) fr E Q=dm X os fr E Q:=by rfl
theorem ap3{os:List (aO×lN)}:wp X f rd (.ui os) fr E Q=gp X [] (gR E.heap.length os) fr (E.mg (dq os)) Q:=by rfl
def wp_loop{S:Type}(I:S->Fr->AS->Prop)(μ:S->Nat)(s:S)(k:I s fr E)
  (j: ∀s fr E,I s fr E->wp X f rd b fr E (λex a c=>match ex with|.normal=> ∃d,μ d<μ s/\I d a c|ex=>Q ex a c)):wp X f rd (.loop b) fr E Q:=by
 have key: ∀n s fr E,μ s<n->I s fr E-> ∃ex a c,Lw (aX X (D X) Lw f rd b) fr E=some (ex,a,c)/\Q ex a c:=by
  intro n
  induction n with
  |zero=>simp
  |succ n l=>
   intro s fr E m i;obtain⟨ex,a,c,g,h⟩:=j s fr E i;rw[apW,g]
   grind
 obtain⟨ex,a,c,g,h⟩:=key _ s fr E (auJ _) k;exact⟨ex,a,c,by trivial,h⟩
def wp_mono{c:PC}{d:bQ}(h:wp X f rd c fr E Q)(i: ∀ex fr E,Q ex fr E->d ex fr E):wp X f rd c fr E d:=by
 obtain⟨ex,b,j,g,a⟩:=h;exact⟨ex,b,j,g,i _ _ _ a⟩
theorem YT:DB X f rd b Q .normal fr E=wp X f rd b fr E Q:=rfl
theorem YU:DB X f rd b Q (.exit i) fr E=Q (.exit i) fr E:=rfl
theorem YW:DB X f rd b Q .ret fr E=Q .ret fr E:=rfl
theorem YX:DB X f rd b Q (.panic v) fr E=Q (.panic v) fr E:=rfl
theorem YY{id:Nat}:yu id Q .normal fr E=Q .normal fr E:=rfl
theorem YZ{id:Nat}:yu id Q (.exit i) fr E=if i=id then Q .normal fr E else Q (.exit i) fr E:=rfl
theorem Y0{id:Nat}:yu id Q .ret fr E=Q .ret fr E:=rfl
theorem Y1{id:Nat}:yu id Q (.panic v) fr E=Q (.panic v) fr E:=rfl
theorem wj{b:List RV}{R:aS->Prop}:dn X n lo b R .ret fr E= ∃a v,dy E fr.marks=some a/\fk X a fr.env b=some v/\R (.ret (finish n lo v a).1 (finish n lo v a).2):=rfl
theorem HP{t b:Bool}{A B:Prop}:HO (.bool t) b A B=((t=b->A)/\ (t=(!b)->B)):=rfl
theorem Y2:HN K Kp (some (.ret v E))=K v E:=rfl
theorem Y3:HN K Kp (some (.panic v E))=Kp v E:=rfl
theorem Y4:dm X [] fr E Q=Q .normal fr E:=propext (by simp only[dm,eD];grind)
theorem Fr.Y5{d:Nat}:Fr.put ⟨e,ms⟩ (some d) v=⟨e.set d v,ms⟩:=rfl
theorem Fr.Y6:Fr.put ⟨e,ms⟩ none v=⟨e,ms⟩:=rfl
def OI{i:I}{os:List aO}:dm X (⟨none,d,i⟩::os) fr E Q=aP X i fr.env E (λv a=>dm X os (fr.put d v) a Q) (λv a=>Q (.panic v) fr a):=by
 simp only[dm,aP,eD,fK,aiH];cases b:exec X (D X) i fr.env E with
 |none=>simp[qE]
 |some o=>
  cases o with
  |ok v a=>rfl
  |panic v a=>simp only[qE];grind
def Env.OJ{e:Env}:e.set t (e t)=e:=by
 unfold Env.set;grind
def Y7{b:Bool}{i:I}{os:List aO}:dm X (⟨some (t,b),d,i⟩::os) ⟨e,ms⟩ E Q=
  yv (e t) b (aP X i (e.set t (.bool b)) E (λv l=>dm X os (Fr.put ⟨e.set t (.bool b),ms⟩ d v) l Q) (λv l=>Q (.panic v) ⟨e.set t (.bool b),ms⟩ l))
   (dm X os (Fr.put ⟨e.set t (.bool (!b)),ms⟩ d .undef) E Q) (dm X os (Fr.put ⟨e,ms⟩ d .undef) E Q):=by
 cases g:e t with
 |bool c=>
  have p:c=b->dm X (⟨some (t,b),d,i⟩::os) ⟨e,ms⟩ E Q=dm X (⟨none,d,i⟩::os) ⟨e,ms⟩ E Q:=by
   intro h;subst h;simp only[dm,eD,fK,g,beq_self_eq_true,aiH]
  have o:c=(!b)->dm X (⟨some (t,b),d,i⟩::os) ⟨e,ms⟩ E Q=dm X os (Fr.put ⟨e,ms⟩ d .undef) E Q:=by
   intro h;subst h;have: ((!b)==b)=false:=by simp
   simp only[dm,eD,fK,g,this,agX,amn]
  have m:e.set t (.bool c)=e:=by rw[<-g];exact Env.OJ
  apply propext;simp only[yv];by_cases j:c=b
  ·have n: ¬c=(!b):=by subst j;cases c<;>simp
   rw[p j,OI];subst j;rw[m];exact⟨λh=>⟨λ_=>h,λk=>absurd k n⟩,λh=>h.1 rfl⟩
  ·have a:c=(!b):=by cases c<;>cases b<;>simp_all
   rw[o a,<-a,m];exact⟨λh=>⟨λk=>absurd k j,λ_=>h⟩,λh=>h.2 rfl⟩
 |_=>simp only[dm,eD,fK,g,yv,agX,amn]
theorem OK{f:FuncId}{first cap args:lA}{H:List ae}{R:aS->Prop}(j:X.bU f=none)(l:X.code f=some pf)(n: (first++args++cap).length<=pf.ntmps)
  (h:wp X f false pf.body ⟨cZ (first++args++cap),[]⟩ ⟨H,none⟩ (dn X H.length lo pf.results R)): ∃b,D X (.fn (.func f) first cap) args ⟨H,lo⟩=some b/\R b:=by
 obtain⟨ex,fr,E,m,g⟩:=h;have key: ∀b,leave X H.length lo pf (some (ex,fr,E))=some b->D X (.fn (.func f) first cap) args ⟨H,lo⟩=some b:=by
  intro b k;refine HK ?_;simp only[step,j,l]
  grind
 cases ex with
 |normal=>obtain⟨a,v,d,i,c⟩:=g;exact⟨_,key _ (by simp only[leave,qw,d,i]),c⟩
 |ret=>obtain⟨a,v,d,i,c⟩:=g;exact⟨_,key _ (by simp only[leave,qw,d,i]),c⟩
 |panic v=>obtain⟨a,d,c⟩:=g;exact⟨_,key _ (by simp only[leave,d]),c⟩
 |exit _=>trivial
theorem Y8{f:FuncId}{first cap args:lA}{H:List ae}{a:aS}(b:X.bU f=none)(d:X.code f=some pf)(c: (first++args++cap).length<=pf.ntmps)
 (h:wp X f false pf.body ⟨cZ (first++args++cap),[]⟩ ⟨H,none⟩ (dn X H.length lo pf.results (· =a))):D X (.fn (.func f) first cap) args ⟨H,lo⟩=some a:=by grind [OK]
end
section
variable{X:Ctx}{f:FuncId}{rd:Bool}{fr:Fr}{E:AS}{Q:bQ}{e:Env}{ms:lN}{K Kp:AV->AS->Prop}
def cP{α:Type}(r:Option α)(K:α->Prop):Prop:=
 match r with
 |some a=>K a
 |none=>False
def Y9{g:ao}{as:List ao}:aP X (.call g as) e E K Kp=HN K Kp (D X (g.get e) (as.map (·.get e)) E):=by
 simp only[aP,exec];cases D X (g.get e) (as.map (·.get e)) E with
 |none=>rfl
 |some r=>cases r<;>rfl
def jd{r:Option AV}:qE K Kp (fF E r)=cP r (λv=>K v E):=by cases r<;>rfl
def kW(c:BinOp)(x y:AV):Option AV:=match x,y with
 |.int k a,.int _ b=>vZ c k a b
 |_,_=>none
theorem aCP:aP X (.mov x) e E K Kp=(K (x.get e) E):=by
 rfl
def ap4{c:ao}{a:ao}{b:ao}:aP X (.pick c a b) e E K Kp=(cP (match c.get e with|.bool t=>some t|_=>none) λt=>K (if t then a.get e else b.get e) E):=by
 simp only[aP,exec];cases c.get e<;>rfl
theorem aCQ:aP X (.alloc z tg) e E K Kp=(K (.ptr E.heap.length 0) (E.push (.box z tg))):=by
 rfl
def ap5:aP X (.box x tg) e E K Kp=(((x.get e).cb=false/\K (.ptr E.heap.length 0) (E.push (.box (x.get e).cells tg)))):=by
 simp only[aP,exec];cases h: (x.get e).cb<;>simp[qE]
def ap6{a:List (Nat×Nat×ao)}:aP X (.build z a) e E K Kp=(cP (dZ z (a.map λp=>(p.1,p.2.1,p.2.2.get e))) λcs=>K (.agg cs) E):=by
 simp only[aP,exec];cases dZ z (a.map λp=>(p.1,p.2.1,p.2.2.get e))<;>rfl
def ap7{len:Nat}{a:List (Nat×Nat×ao)}:aP X (.bslice z len a) e E K Kp=(cP (dZ (List.replicate len z).flatten (a.map λp=>(p.1,p.2.1,p.2.2.get e))) λcs=>K (.sl (chunks z.length len cs) true) E):=by
 simp only[aP,exec];cases dZ (List.replicate len z).flatten (a.map λp=>(p.1,p.2.1,p.2.2.get e))<;>rfl
def ap8{ty:TypeId}{len:Nat}{a:List (Nat×Nat×ao)}:aP X (.rN ty z len a) e E K Kp=(cP (dZ (List.replicate len z).flatten (a.map λp=>(p.1,p.2.1,p.2.2.get e))) λcs=>K (.ref E.heap.length 0 z.length 0 len false) (E.push (.row 0 z.length ty (chunks z.length len cs)))):=by
 simp only[aP,exec];cases dZ (List.replicate len z).flatten (a.map λp=>(p.1,p.2.1,p.2.2.get e))<;>rfl
theorem ap9{agg:Bool}{a:ao}:aP X (.load agg n a) e E K Kp=(cP (cg X E agg n (a.get e)) λv=>K v E):=by
 simp only[aP,exec,jd]
theorem aqa{a:ao}{v:ao}:aP X (.store n a v) e E K Kp=(cP (kK E n (a.get e) (v.get e)) λb=>K .undef b):=by
 simp only[aP,exec];cases kK E n (a.get e) (v.get e)<;>rfl
theorem aqb:aP X (.nilck x) e E K Kp=(cP (v8 (x.get e)) λv=>K v E):=by
 simp only[aP,exec,jd]
theorem aqc{a:BinOp}:aP X (.bin a x y) e E K Kp=(cP (dg a (x.get e) (y.get e)) λv=>K v E):=by
 simp only[aP,exec,jd]
theorem aqd{a:BinOp}:aP X (.shf a x y) e E K Kp=(cP (kW a (x.get e) (y.get e)) λv=>K v E):=by
 simp only[aP,exec,kW];cases x.get e<;>first|rfl| (cases y.get e<;>first|rfl|exact jd)
def aqe{k:EK}:aP X (.eq k x y) e E K Kp=(cP (ea k (x.get e) (y.get e)) λb=>K (.bool b) E):=by
 simp only[aP,exec];cases ea k (x.get e) (y.get e)<;>rfl
def aqf{k:EK}:aP X (.ne k x y) e E K Kp=(cP (ea k (x.get e) (y.get e)) λb=>K (.bool !b) E):=by
 simp only[aP,exec];cases ea k (x.get e) (y.get e)<;>rfl
theorem aqg{a:UnOp}:aP X (.un a x) e E K Kp=(cP (xU a (x.get e)) λv=>K v E):=by
 simp only[aP,exec,jd]
def aqh{k:IntKind}:aP X (.conv k x) e E K Kp=(cP (rO (x.get e)) λn=>K (.int k (k.wrap n)) E):=by
 simp only[aP,exec];cases x.get e<;>rfl
def aqi:aP X (.s2b x) e E K Kp=(cP (match x.get e with|.str s=>if s.size<=room then some s else none|_=>none) λs=>K (.sl (rP s) false) E):=by
 simp only[aP,exec];cases x.get e<;>first|rfl| (simp only[];split<;>rfl)
theorem aCR{t:TypeId}:aP X (.mki t x) e E K Kp=(K (.c9 t (x.get e)) E):=by
 rfl
theorem aCS{f:Fn}{first:List ao}{cap:List ao}:aP X (.mkf f first cap) e E K Kp=(K (.fn f (first.map (·.get e)) (cap.map (·.get e))) E):=by
 rfl
theorem aCT:aP X (.nJ) e E K Kp=(K (.mp E.heap.length) (E.push (.map []))):=by
 rfl
theorem aqj{lo:Option ao}{a:Option ao}:aP X (.slstr x lo a) e E K Kp=(cP (uj (x.get e) (lo.map (·.get e)) (a.map (·.get e))) λv=>K v E):=by
 simp only[aP,exec,jd]
theorem aqk{lo:Option ao}{b:Option ao}{a:Option ao}:aP X (.slsl n x lo b a) e E K Kp=(cP (fW n (x.get e) (lo.map (·.get e)) (b.map (·.get e)) (a.map (·.get e))) λv=>K v E):=by
 simp only[aP,exec,jd]
theorem aql{lo:Option ao}{a:Option ao}:aP X (.slarr n sz x lo a) e E K Kp=(cP (qs X n sz (x.get e) (lo.map (·.get e)) (a.map (·.get e))) λv=>K v E):=by
 simp only[aP,exec,jd]
theorem aqm:aP X (.faddr n x) e E K Kp=(cP (rS X n (x.get e)) λv=>K v E):=by
 simp only[aP,exec,jd]
def aqn{agg:Bool}{off:Nat}:aP X (.fld agg n off x) e E K Kp=(cP (match x.get e with|.agg cs=>part agg n cs off|_=>none) λv=>K v E):=by
 simp only[aP,exec];cases x.get e<;>first|rfl|exact jd
theorem aqo{i:ao}:aP X (.iaddra n sz x i) e E K Kp=(cP (uk X n sz (x.get e) (i.get e)) λv=>K v E):=by
 simp only[aP,exec,jd]
theorem aqp{i:ao}:aP X (.iaddrs sz x i) e E K Kp=(cP (jU sz (x.get e) (i.get e)) λv=>K v E):=by
 simp only[aP,exec,jd]
theorem aqq{agg:Bool}{i:ao}:aP X (.idxa agg n sz x i) e E K Kp=(cP (qu agg n sz (x.get e) (i.get e)) λv=>K v E):=by
 simp only[aP,exec,jd]
theorem aqr{i:ao}:aP X (.idxs x i) e E K Kp=(cP (xV (x.get e) (i.get e)) λv=>K v E):=by
 simp only[aP,exec,jd]
theorem aqs{b:EK}{z:AV}{m:ao}{k:ao}{a:Bool}:aP X (.lookup b z m k a) e E K Kp=(cP (gQ X.fa E b z (m.get e) (k.get e) a) λv=>K v E):=by
 simp only[aP,exec,jd]
theorem aqt{a:EK}{m:ao}{k:ao}{v:ao}:aP X (.oV a m k v) e E K Kp=(cP (mf E a (m.get e) (k.get e) (v.get e)) λb=>K .undef b):=by
 simp only[aP,exec];cases mf E a (m.get e) (k.get e) (v.get e)<;>rfl
theorem aqu{z:AV}{t:TypeId}{a:Bool}:aP X (.ta z x t a) e E K Kp=(cP (Ac z (x.get e) t a) λv=>K v E):=by
 simp only[aP,exec,jd]
def aqv:aP X (.ext x i) e E K Kp=(cP (match x.get e with|.au vs=>vs[i]?|_=>none) λv=>K v E):=by
 simp only[aP,exec];cases x.get e<;>first|rfl|exact jd
theorem aqw{k:EK}:aP X (.len k x) e E K Kp=(cP (fj E k (x.get e)) λv=>K v E):=by
 simp only[aP,exec,jd]
def aqx{ty:TypeId}{bytes:Nat}{s:ao}:aP X (.append ty sz bytes s x) e E K Kp=(cP (elems E sz (x.get e)) λys=>cP (dw E ty sz bytes (s.get e) ys) λp=>K p.1 p.2):=by
 simp only[aP,exec];cases elems E sz (x.get e)with
 |none=>rfl
 |some ys=>simp only[cP];cases dw E ty sz bytes (s.get e) ys<;>rfl
theorem aqy{d:ao}{s:ao}:aP X (.copy sz d s) e E K Kp=(cP (rQ E sz (d.get e) (s.get e)) λp=>K p.1 p.2):=by
 simp only[aP,exec];cases rQ E sz (d.get e) (s.get e)<;>rfl
theorem aqz:aP X (.clear z x) e E K Kp=(cP (rR E z (x.get e)) λa=>K .undef a):=by
 simp only[aP,exec];cases rR E z (x.get e)<;>rfl
theorem aqA{xs:List ao}:aP X (.max xs) e E K Kp=(cP (fX qt (xs.map (·.get e))) λv=>K v E):=by
 simp only[aP,exec,jd]
theorem aqB{xs:List ao}:aP X (.min xs) e E K Kp=(cP (fX v7 (xs.map (·.get e))) λv=>K v E):=by
 simp only[aP,exec,jd]
def aqC:aP X (.panic x) e E K Kp=(cP (match x.get e with|.c9 t v=>some (AV.c9 t v)|_=>none) λv=>Kp v E):=by
 simp only[aP,exec];cases x.get e<;>rfl
def HQ(b:Bool)(v:AV)(e:Env)(t:Nat):AV:=match b with|true=>v|false=>e t
theorem Za:HQ true v e t=v:=rfl
theorem Zb:HQ false v e t=e t:=rfl
def Zc{d:Nat}: (e.set d v) t=HQ (d==t) v e t:=by
 unfold Env.set HQ
 grind
theorem HR{t b:Bool}{A B C:Prop}:yv (.bool t) b A B C=((t=b->A)/\ (t=(!b)->B)):=rfl
theorem push_mk{H:List ae}{o:ae}:AS.push ⟨H,lo⟩ o=⟨H++[o],lo⟩:=rfl
theorem set_mk{H:List ae}{id:Nat}{o:ae}:AS.set ⟨H,lo⟩ id o r=⟨H.set id o,if r<=id+1 then lo else cC lo id⟩:=rfl
end
section
variable{H L:List ae}{n k:Nat}
def dh(h:H.length=n): (H++L)[n]?=L[0]?:=by grind
def bz(h:H.length=n): (H++L)[n+k]?=L[k]?:=by grind
theorem DC{o:ae}(h:H.length=n): (H++L).set n o=H++L.set 0 o:=by grind
theorem m0{o:ae}(h:H.length=n): (H++L).set (n+k) o=H++L.set k o:=by grind
def mn(h:H.length=n): (H++L).take n=H:=by grind
end
def HS{v':AV}{H:List ae}(a: (match ak with|none=>true|some j=>decide (n<=j))=true)(b:freeze ⟨H,ak⟩ n 12 v=some v'):finish n lo v ⟨H,ak⟩=(v',⟨H.take n,lo⟩):=by
 cases ak with
 |none=>simp[finish,b]
 |some j=>simp[finish,a,b]
def yw{E:AS}(h:v.refs<=n):freeze E n (k+1) v=some v:=by
 unfold freeze;grind
theorem Zd{H:List ae}(a: (match ak with|none=>true|some j=>decide (n<=j))=true)(b:v.refs<=n):finish n lo v ⟨H,ak⟩=(v,⟨H.take n,lo⟩):=
 HS a (yw b)
def wrap_i64{n:Int}(h: -9223372036854775808<=n)(a:n<=9223372036854775807):IntKind.wrap .i64 n=n:=by
 unfold IntKind.wrap IntKind.bits IntKind.signed;grind
def wrap_u64{n:Int}(h:0<=n)(a:n<=18446744073709551615):IntKind.wrap .u64 n=n:=by
 unfold IntKind.wrap IntKind.bits IntKind.signed;grind
def wrap_u32{n:Int}(h:0<=n)(a:n<=4294967295):IntKind.wrap .u32 n=n:=by
 unfold IntKind.wrap IntKind.bits IntKind.signed;grind
def wrap_i32{n:Int}(h: -2147483648<=n)(a:n<=2147483647):IntKind.wrap .i32 n=n:=by
 unfold IntKind.wrap IntKind.bits IntKind.signed;grind
def wrap_u16{n:Int}(h:0<=n)(a:n<=65535):IntKind.wrap .u16 n=n:=by
 unfold IntKind.wrap IntKind.bits IntKind.signed;grind
def wrap_u8{n:Int}(h:0<=n)(a:n<=255):IntKind.wrap .u8 n=n:=by
 unfold IntKind.wrap IntKind.bits IntKind.signed;grind
def S(l:lB):AV:=.str ⟨l.toArray⟩
theorem aqD(l:lB): (⟨l.toArray⟩:ByteArray).size=l.length:=by rfl
def o(d:Nat)(i:I):aO:=⟨none,some d,i⟩
def u(i:I):aO:=⟨none,none,i⟩
def gt(t:Nat)(d:oN)(i:I):aO:=⟨some (t,true),d,i⟩
def gf(t:Nat)(d:oN)(i:I):aO:=⟨some (t,false),d,i⟩
def ci(n:Int):ao:=.c (.int .i64 n)
def cf(f:Nat):ao:=.c (.fn (.func f) [] [])
def eO(P:Program)(f:Nat)(pf:PF):Prop:= ∃rows fn,P.funcs[f]?=some fn/\C3 P rows fn=some pf
section
variable{X:Ctx}{f:FuncId}{rd:Bool}{fr:Fr}{E:AS}{Q:bQ}{e:Env}{ms:lN}{K Kp:AV->AS->Prop}
theorem aqE{i:I}{os:List aO}:dm X (gt t d i::os) ⟨e,ms⟩ E Q=
 yv (e t) true (aP X i (e.set t (.bool true)) E (λv a=>dm X os (Fr.put ⟨e.set t (.bool true),ms⟩ d v) a Q) (λv a=>Q (.panic v) ⟨e.set t (.bool true),ms⟩ a))
  (dm X os (Fr.put ⟨e.set t (.bool false),ms⟩ d .undef) E Q) (dm X os (Fr.put ⟨e,ms⟩ d .undef) E Q):=Y7
theorem aqF{i:I}{os:List aO}:dm X (gf t d i::os) ⟨e,ms⟩ E Q=
 yv (e t) false (aP X i (e.set t (.bool false)) E (λv a=>dm X os (Fr.put ⟨e.set t (.bool false),ms⟩ d v) a Q) (λv a=>Q (.panic v) ⟨e.set t (.bool false),ms⟩ a))
  (dm X os (Fr.put ⟨e.set t (.bool true),ms⟩ d .undef) E Q) (dm X os (Fr.put ⟨e,ms⟩ d .undef) E Q):=Y7
end
theorem Ze:ao.get e (.t i)=e i:=rfl
theorem Zf:ao.get e (.c v)=v:=rfl
theorem Zg{n:Int}:ao.get e (ci n)= .int .i64 n:=rfl
theorem Zh{f:Nat}:ao.get e (cf f)= .fn (.func f) [] []:=rfl
def OM{X:Ctx}(pf:PF){args:lA}{H:List ae}{a:aS}(b:X.bU f=none)(g:X.code f=some pf)(c:Nat.ble args.length pf.ntmps=true)
 (h: ∀n,H.length=n->wp X f false pf.body ⟨cZ args,[]⟩ ⟨H,none⟩ (dn X n lo pf.results (· =a))):D X (.fn (.func f) [] []) args ⟨H,lo⟩=some a:=by grind [Nat.le_of_ble_eq_true,Y8]
def aqG{X:Ctx}(pf:PF){args:lA}{H:List ae}{R:aS->Prop}(b:X.bU f=none)(g:X.code f=some pf)(c:Nat.ble args.length pf.ntmps=true)
 (h: ∀n,H.length=n->wp X f false pf.body ⟨cZ args,[]⟩ ⟨H,none⟩ (dn X n lo pf.results R)): ∃a,D X (.fn (.func f) [] []) args ⟨H,lo⟩=some a/\R a:=by simp_all[ara,OK]
theorem Zi{X:Ctx}{E:AS}:fk X E e [.t t]=some (e t):=rfl
theorem aqH{X:Ctx}{E:AS}{u:Nat}:fk X E e [.t t,.t u]=some (.au [e t,e u]):=rfl
theorem aqI{X:Ctx}{E:AS}{u v:Nat}:fk X E e [.t t,.t u,.t v]=some (.au [e t,e u,e v]):=rfl
theorem wk{E:AS}:dy E []=some E:=rfl
def DD(x:AV)(i:Nat):Option AV:=match x with|.au vs=>vs[i]?|_=>none
def Zj(agg:Bool)(n off:Nat)(x:AV):Option AV:=match x with|.agg cs=>part agg n cs off|_=>none
def qF(E:AS)(x:AV)(tg:Option TypeId):Option (AV×AS):=if x.cb=false then some (.ptr E.heap.length 0,E.push (.box x.cells tg))else none
def ON(z:lA)(a:List (Nat×Nat×AV)):Option AV:=(dZ z a).map .agg
def OO(z:lA)(len:Nat)(a:List (Nat×Nat×AV)):Option AV:=(dZ (List.replicate len z).flatten a).map λcs=>.sl (chunks z.length len cs) true
def OP(E:AS)(ty:TypeId)(z:lA)(len:Nat)(a:List (Nat×Nat×AV)):Option (AV×AS):=
 (dZ (List.replicate len z).flatten a).map λcs=>(.ref E.heap.length 0 z.length 0 len false,E.push (.row 0 z.length ty (chunks z.length len cs)))
def Zk(x:AV):Option AV:=match x with|.c9 t v=>some (.c9 t v)|_=>none
def HT(x:AV):Option AV:=match x with|.str s=>if s.size<=room then some (.sl (rP s) false)else none|_=>none
section
variable(X:Ctx)
def kV(os:List aO)(d:Nat)(e:Env)(ms:lN)(Q:bQ):AV->AS->Prop:=λv E=>dm X os ⟨e.set d v,ms⟩ E Q
def kU(os:List aO)(e:Env)(ms:lN)(Q:bQ):AV->AS->Prop:=λ_ E=>dm X os ⟨e,ms⟩ E Q
def kP(e:Env)(ms:lN)(Q:bQ):AV->AS->Prop:=λv E=>Q (.panic v) ⟨e,ms⟩ E
def okV(r:Option AV)(K:AV->AS->Prop)(E:AS):Prop:=match r with|some v=>K v E|none=>False
def wm(r:Option AS)(K:AV->AS->Prop):Prop:=match r with|some E=>K .undef E|none=>False
def uD(r:Option (AV×AS))(K:AV->AS->Prop):Prop:=match r with|some p=>K p.1 p.2|none=>False
def okB(r:Option Bool)(a:Bool)(K:AV->AS->Prop)(E:AS):Prop:=match r with|some b=>K (.bool (if a then !b else b)) E|none=>False
def Zl(k:IntKind)(x:AV)(K:AV->AS->Prop)(E:AS):Prop:=match x with|.int _ n=>K (.int k (k.wrap n)) E|_=>False
def OQ(c a b:AV)(K:AV->AS->Prop)(E:AS):Prop:=match c with|.bool t=>K (if t then a else b) E|_=>False
def Zm(r:Option (List lA))(ty:TypeId)(sz bytes:Nat)(s:AV)(K:AV->AS->Prop)(E:AS):Prop:=match r with|some ys=>uD (dw E ty sz bytes s ys) K|none=>False
def nU(f:FuncId)(rd:Bool)(a b:PC)(fr:Fr)(E:AS)(Q:bQ)(c:AV):Prop:=HO c true (wp X f rd a fr E Q) (wp X f rd b fr E Q)
def gK(t:Nat)(b:Bool)(d:oN)(i:I)(os:List aO)(e:Env)(ms:lN)(E:AS)(Q:bQ)(c:AV):Prop:=
 yv c b (aP X i (e.set t (.bool b)) E (match d with|some d=>kV X os d (e.set t (.bool b)) ms Q|none=>kU X os (e.set t (.bool b)) ms Q) (kP (e.set t (.bool b)) ms Q))
  (dm X os (Fr.put ⟨e.set t (.bool (!b)),ms⟩ d .undef) E Q) (dm X os (Fr.put ⟨e,ms⟩ d .undef) E Q)
end
section
variable{X:Ctx}{f:FuncId}{rd:Bool}{fr:Fr}{E:AS}{Q:bQ}{e:Env}{ms:lN}{K Kp:AV->AS->Prop}{t:Nat}{d:oN}{i:I}{os:List aO}{dd:Nat}
theorem je{r:Option AV}:cP r (λv=>K v E)=okV r K E:=by cases r<;>rfl
theorem OR{r:Option AS}:cP r (λa=>K .undef a)=wm r K:=by cases r<;>rfl
theorem Zn{r:Option (AV×AS)}:cP r (λp=>K p.1 p.2)=uD r K:=by cases r<;>rfl
theorem Zo:dm X (o dd i::os) ⟨e,ms⟩ E Q=aP X i e E (kV X os dd e ms Q) (kP e ms Q):=OI
theorem Zp:dm X (u i::os) ⟨e,ms⟩ E Q=aP X i e E (kU X os e ms Q) (kP e ms Q):=OI
def OS:dm X (gt t d i::os) ⟨e,ms⟩ E Q=gK X t true d i os e ms E Q (e t):=by
 rw[aqE];cases d<;>rfl
def OT:dm X (gf t d i::os) ⟨e,ms⟩ E Q=gK X t false d i os e ms E Q (e t):=by
 rw[aqF];cases d<;>rfl
theorem Zq:kV X os dd e ms Q v E=dm X os ⟨e.set dd v,ms⟩ E Q:=rfl
theorem Zr:kU X os e ms Q v E=dm X os ⟨e,ms⟩ E Q:=rfl
theorem Zs:kP e ms Q v E=Q (.panic v) ⟨e,ms⟩ E:=rfl
theorem Zt:okV (some v) K E=K v E:=rfl
def Zu{c:Prop}[Decidable c]{v:Option AV}:okV (if c then v else none) K E=(c/\okV v K E):=by split<;>simp[*,okV]
theorem Zv:wm (some E) K=K .undef E:=rfl
def Zw{c:Prop}[Decidable c]{v:Option AS}:wm (if c then v else none) K=(c/\wm v K):=by split<;>simp[*,wm]
theorem Zx:uD (some (v,E)) K=K v E:=rfl
theorem Zy{b:Bool}:okB (some b) false K E=K (.bool b) E:=rfl
theorem ZA{b:Bool}:okB (some b) true K E=K (.bool (!b)) E:=rfl
theorem ZB{k:IntKind}{n:Int}:Zl k (.int k' n) K E=K (.int k (k.wrap n)) E:=rfl
theorem ZC{a b:AV}:OQ (.bool true) a b K E=K a E:=rfl
theorem ZD{a b:AV}:OQ (.bool false) a b K E=K b E:=rfl
theorem ZE{ys:List lA}{ty:TypeId}{bytes:Nat}{s:AV}:Zm (some ys) ty sz bytes s K E=uD (dw E ty sz bytes s ys) K:=rfl
theorem OU{c:ao}{a:PC}:wp X f rd (.cond c a b) fr E Q=nU X f rd a b fr E Q (c.get fr.env):=wp_cond
def ZF{a:PC}:nU X f rd a b fr E Q (.bool true)=wp X f rd a fr E Q:=by simp[nU,HP]
def ZG{a:PC}:nU X f rd a b fr E Q (.bool false)=wp X f rd b fr E Q:=by simp[nU,HP]
def bR{a:PC}{p:Prop}[Decidable p]:nU X f rd a b fr E Q (.bool (decide p))=((p->wp X f rd a fr E Q)/\ (¬p->wp X f rd b fr E Q)):=by simp[nU,HP]
def ZH{a:PC}:nU X f rd a b fr E Q (.bool (!c))=nU X f rd b a fr E Q (.bool c):=by cases c<;>simp[nU,HP]
theorem ZI{b:Bool}{c:lA}:gK X t b (some dd) i os e ms E Q (.au c)=dm X os ⟨e.set dd .undef,ms⟩ E Q:=rfl
theorem ZJ{b:Bool}{c:lA}:gK X t b none i os e ms E Q (.au c)=dm X os ⟨e,ms⟩ E Q:=rfl
def ZK:gK X t true (some dd) i os e ms E Q (.bool true)=aP X i (e.set t (.bool true)) E (kV X os dd (e.set t (.bool true)) ms Q) (kP (e.set t (.bool true)) ms Q):=by simp[gK,HR]
def ZL:gK X t false (some dd) i os e ms E Q (.bool false)=aP X i (e.set t (.bool false)) E (kV X os dd (e.set t (.bool false)) ms Q) (kP (e.set t (.bool false)) ms Q):=by simp[gK,HR]
def ZM:gK X t true d i os e ms E Q (.bool false)=dm X os (Fr.put ⟨e.set t (.bool false),ms⟩ d .undef) E Q:=by simp[gK,HR]
def ZN:gK X t false d i os e ms E Q (.bool true)=dm X os (Fr.put ⟨e.set t (.bool true),ms⟩ d .undef) E Q:=by simp[gK,HR]
def ZO{b:Bool}{p:Prop}[Decidable p]:gK X t b d i os e ms E Q (.bool (decide p))=((p->gK X t b d i os e ms E Q (.bool true))/\ (¬p->gK X t b d i os e ms E Q (.bool false))):=by
 by_cases h:p<;>simp[h]
theorem ZP:aP X (.mov x) e E K Kp=(K (x.get e) E):=by rfl
def ZQ{c:ao}{a:ao}{b:ao}:aP X (.pick c a b) e E K Kp=(OQ (c.get e) (a.get e) (b.get e) K E):=by
 first|rfl|rfl|rfl|rfl| (rw[ap4];cases c.get e<;>rfl)
theorem ZR:aP X (.alloc z tg) e E K Kp=(K (.ptr E.heap.length 0) (E.push (.box z tg))):=by rfl
def ZS{agg:Bool}{a:ao}:aP X (.load agg n a) e E K Kp=(okV (cg X E agg n (a.get e)) K E):=by grind [ap9,je]
def ZT{a:ao}{v:ao}:aP X (.store n a v) e E K Kp=(wm (kK E n (a.get e) (v.get e)) K):=by grind [aqa,OR]
def ZU:aP X (.nilck x) e E K Kp=(okV (v8 (x.get e)) K E):=by grind [aqb,je]
def ZV{a:BinOp}:aP X (.bin a x y) e E K Kp=(okV (dg a (x.get e) (y.get e)) K E):=by grind [aqc,je]
def ZW{a:BinOp}:aP X (.shf a x y) e E K Kp=(okV (kW a (x.get e) (y.get e)) K E):=by grind [aqd,je]
def ZX{k:EK}:aP X (.eq k x y) e E K Kp=(okB (ea k (x.get e) (y.get e)) false K E):=by
 first|rfl|rfl|rfl|rfl| (rw[aqe];cases ea k (x.get e) (y.get e)<;>rfl)
def ZY{k:EK}:aP X (.ne k x y) e E K Kp=(okB (ea k (x.get e) (y.get e)) true K E):=by
 first|rfl|rfl|rfl|rfl| (rw[aqf];cases ea k (x.get e) (y.get e)<;>rfl)
def ZZ{a:UnOp}:aP X (.un a x) e E K Kp=(okV (xU a (x.get e)) K E):=by grind [aqg,je]
def Z0{k:IntKind}:aP X (.conv k x) e E K Kp=(Zl k (x.get e) K E):=by
 first|rfl|rfl|rfl|rfl| (rw[aqh];cases x.get e<;>rfl)
theorem Z1{t:TypeId}:aP X (.mki t x) e E K Kp=(K (.c9 t (x.get e)) E):=by rfl
theorem Z2{f:Fn}{first:List ao}{cap:List ao}:aP X (.mkf f first cap) e E K Kp=(K (.fn f (first.map (ao.get e)) (cap.map (ao.get e))) E):=by rfl
theorem Z3:aP X (.nJ) e E K Kp=(K (.mp E.heap.length) (E.push (.map []))):=by rfl
def Z4{lo:Option ao}{a:Option ao}:aP X (.slstr x lo a) e E K Kp=(okV (uj (x.get e) (lo.map (ao.get e)) (a.map (ao.get e))) K E):=by grind [aqj,je]
def Z5{lo:Option ao}{b:Option ao}{a:Option ao}:aP X (.slsl n x lo b a) e E K Kp=(okV (fW n (x.get e) (lo.map (ao.get e)) (b.map (ao.get e)) (a.map (ao.get e))) K E):=by grind [aqk,je]
def Z6{lo:Option ao}{a:Option ao}:aP X (.slarr n sz x lo a) e E K Kp=(okV (qs X n sz (x.get e) (lo.map (ao.get e)) (a.map (ao.get e))) K E):=by grind [aql,je]
def Z7:aP X (.faddr n x) e E K Kp=(okV (rS X n (x.get e)) K E):=by grind [aqm,je]
def Z8{i:ao}:aP X (.iaddra n sz x i) e E K Kp=(okV (uk X n sz (x.get e) (i.get e)) K E):=by grind [aqo,je]
def Z9{i:ao}:aP X (.iaddrs sz x i) e E K Kp=(okV (jU sz (x.get e) (i.get e)) K E):=by grind [aqp,je]
def aaa{agg:Bool}{i:ao}:aP X (.idxa agg n sz x i) e E K Kp=(okV (qu agg n sz (x.get e) (i.get e)) K E):=by grind [aqq,je]
def aab{i:ao}:aP X (.idxs x i) e E K Kp=(okV (xV (x.get e) (i.get e)) K E):=by grind [aqr,je]
def aac{b:EK}{z:AV}{m:ao}{k:ao}{a:Bool}:aP X (.lookup b z m k a) e E K Kp=(okV (gQ X.fa E b z (m.get e) (k.get e) a) K E):=by grind [aqs,je]
def aad{a:EK}{m:ao}{k:ao}{v:ao}:aP X (.oV a m k v) e E K Kp=(wm (mf E a (m.get e) (k.get e) (v.get e)) K):=by grind [aqt,OR]
def aae{z:AV}{t:TypeId}{a:Bool}:aP X (.ta z x t a) e E K Kp=(okV (Ac z (x.get e) t a) K E):=by grind [aqu,je]
def aaf{k:EK}:aP X (.len k x) e E K Kp=(okV (fj E k (x.get e)) K E):=by grind [aqw,je]
def aag{ty:TypeId}{bytes:Nat}{s:ao}:aP X (.append ty sz bytes s x) e E K Kp=(Zm (elems E sz (x.get e)) ty sz bytes (s.get e) K E):=by
 first|rfl|rfl|rfl|rfl| (rw[aqx];cases elems E sz (x.get e)<;>first|rfl|exact Zn)
def aah{d:ao}{s:ao}:aP X (.copy sz d s) e E K Kp=(uD (rQ E sz (d.get e) (s.get e)) K):=by grind [aqy,Zn]
def aai:aP X (.clear z x) e E K Kp=(wm (rR E z (x.get e)) K):=by grind [aqz,OR]
def aaj{xs:List ao}:aP X (.max xs) e E K Kp=(okV (fX qt (xs.map (ao.get e))) K E):=by grind [aqA,je]
def aak{xs:List ao}:aP X (.min xs) e E K Kp=(okV (fX v7 (xs.map (ao.get e))) K E):=by grind [aqB,je]
def aal{i:Nat}:aP X (.ext x i) e E K Kp=(okV (DD (x.get e) i) K E):=by
 first|rfl| (rw[aqv];exact je)|rfl|rfl|rfl
def aam{agg:Bool}{off:Nat}:aP X (.fld agg n off x) e E K Kp=(okV (Zj agg n off (x.get e)) K E):=by
 first|rfl| (rw[aqn];exact je)|rfl|rfl|rfl
def aan:aP X (.box x tg) e E K Kp=(uD (qF E (x.get e) tg) K):=by
 first|rfl|rfl|rfl|rfl| (rw[ap5];unfold qF;cases h: (x.get e).cb<;>simp[uD])
def aao{a:List (Nat×Nat×ao)}:aP X (.build z a) e E K Kp=(okV (ON z (a.map λp=>(p.1,p.2.1,p.2.2.get e))) K E):=by
 first|rfl|rfl|rfl|rfl| (rw[ap6];unfold ON;cases dZ z (a.map λp=>(p.1,p.2.1,p.2.2.get e))<;>rfl)
def aap{len:Nat}{a:List (Nat×Nat×ao)}:aP X (.bslice z len a) e E K Kp=(okV (OO z len (a.map λp=>(p.1,p.2.1,p.2.2.get e))) K E):=by
 first|rfl|rfl|rfl|rfl| (rw[ap7];unfold OO;cases dZ (List.replicate len z).flatten (a.map λp=>(p.1,p.2.1,p.2.2.get e))<;>rfl)
def aaq{ty:TypeId}{len:Nat}{a:List (Nat×Nat×ao)}:aP X (.rN ty z len a) e E K Kp=(uD (OP E ty z len (a.map λp=>(p.1,p.2.1,p.2.2.get e))) K):=by
 first|rfl|rfl|rfl|rfl| (rw[ap8];unfold OP;cases dZ (List.replicate len z).flatten (a.map λp=>(p.1,p.2.1,p.2.2.get e))<;>rfl)
def aar:aP X (.panic x) e E K Kp=(okV (Zk (x.get e)) Kp E):=by
 first|rfl|rfl|rfl|rfl| (rw[aqC];cases x.get e<;>rfl)
def aas:aP X (.s2b x) e E K Kp=(okV (HT (x.get e)) K E):=by
 first|rfl|rfl|rfl|rfl| (rw[aqi];cases x.get e<;>first|rfl| (rename_i q;simp only[HT];by_cases a:q.size<=room<;>simp only[a,aiH,amn]<;>rfl))
end
def R1:=gG @wp_skip<|gG @wp_exit<|gG @wp_ret<|gG @wp_seq<|gG @wp_block<|gG @OU<|gG @OH<|gG @YT<|gG @YU<|gG @YW<|gG @YX<|gG @YY<|gG @YZ<|gG @Y0<|gG @Y1<|gG @Y4<|gG @Zo<|gG @Zp<|gG @OS<|gG @OT<|gG @Zq<|gG @Zr<|gG @Zs<|gG @Y9<|gG @ZP<|gG @ZQ<|gG @ZR<|gG @ZS<|gG @ZT<|gG @ZU<|gG @ZV<|gG @ZW<|gG @ZX<|gG @ZY<|gG @ZZ<|gG @Z0<|gG @Z1<|gG @Z2<|gG @Z3<|gG @Z4<|gG @Z5<|gG @Z6<|gG @Z7<|gG @Z8<|gG @Z9<|gG @aaa<|gG @aab<|gG @aac<|gG @aad<|gG @aae<|gG @aaf<|gG @aag<|gG @aah<|gG @aai<|gG @aaj<|gG @aak<|gG @aal<|gG @aam<|gG @aan<|gG @aao<|gG @aap<|gG @aaq<|gG @aar @aas
def R2:=gG @Y2<|gG @Y3<|gG @Zt<|gG @Zu<|gG @Zv<|gG @Zw<|gG @Zx<|gG @Zy<|gG @ZA<|gG @ZB<|gG @ZC<|gG @ZD<|gG @ZE<|gG @ZF<|gG @ZG<|gG @ZH<|gG @ZI<|gG @ZJ<|gG @ZK<|gG @ZL<|gG @ZM<|gG @ZN<|gG @Fr.Y5<|gG @Fr.Y6<|gG @Ze<|gG @Zf<|gG @Zg<|gG @Zh<|gG @push_mk @set_mk
def R4:=gG @ZO @bR
section
variable{X:Ctx}{f:FuncId}{rd:Bool}{E:AS}{Q:bQ}{e:Env}{ms:lN}{K Kp:AV->AS->Prop}{k:IntKind}{a b c:Int}{l m:lB}{n:Nat}{lo:oN}{H L:List ae}{R:aS->Prop}
def aat:dg .add (.int k a) (.int k b)=some (.int k (k.wrap (a+b))):=by simp[dg,me]
def aau:dg .sub (.int k a) (.int k b)=some (.int k (k.wrap (a-b))):=by simp[dg,me]
def aav:dg .mul (.int k a) (.int k b)=some (.int k (k.wrap (a*b))):=by simp[dg,me]
def aaw:dg .quo (.int k a) (.int k b)=if b≠0 then some (.int k (k.wrap (a.tdiv b)))else none:=by
 by_cases h:b=0<;>simp[dg,me,h]
def aax:dg .rem (.int k a) (.int k b)=if b≠0 then some (.int k (a.tmod b))else none:=by
 by_cases h:b=0<;>simp[dg,me,h]
def aay:dg .lss (.int k a) (.int k b)=some (.bool (decide (a<b))):=by simp[dg,me]
def aaz:dg .leq (.int k a) (.int k b)=some (.bool (decide (a<=b))):=by simp[dg,me]
def aaA:dg .gtr (.int k a) (.int k b)=some (.bool (decide (b<a))):=by simp[dg,me]
def aaB:dg .geq (.int k a) (.int k b)=some (.bool (decide (b<=a))):=by simp[dg,me]
def DE:dg .and (.int k a) (.int k b)=some (.int k (k.wrap (BitVec.ofInt k.bits a&&&BitVec.ofInt k.bits b).toNat)):=by simp[dg,me,vY]
def HU:dg .or (.int k a) (.int k b)=some (.int k (k.wrap (BitVec.ofInt k.bits a|||BitVec.ofInt k.bits b).toNat)):=by simp[dg,me,vY]
def OV:dg .xor (.int k a) (.int k b)=some (.int k (k.wrap (BitVec.ofInt k.bits a^^^BitVec.ofInt k.bits b).toNat)):=by simp[dg,me,vY]
def OW:dg .andNot (.int k a) (.int k b)=some (.int k (k.wrap (BitVec.ofInt k.bits a&&& ~~~ (BitVec.ofInt k.bits b)).toNat)):=by simp[dg,me,vY]
def AF:kW .shl (.int k a) (.int k' b)=if 0<=b then some (.int k (k.wrap (a*2^(min b.toNat k.bits))))else none:=by
 by_cases h:0<=b
 ·have: ¬b<0:=by omega
  simp[kW,vZ,h,this]
 ·have:b<0:=by omega
  simp[kW,vZ,h,this]
def DF:kW .shr (.int k a) (.int k' b)=if 0<=b then some (.int k (a.fdiv (2^(min b.toNat k.bits))))else none:=by
 by_cases h:0<=b
 ·have: ¬b<0:=by omega
  simp[kW,vZ,h,this]
 ·have:b<0:=by omega
  simp[kW,vZ,h,this]
def eq_int:ea .int (.int k a) (.int k b)=some (decide (a=b)):=by
 simp only[ea,qq,aiH];grind
theorem aaC{x y:Bool}:ea .bool (.bool x) (.bool y)=some (x==y):=rfl
theorem aaD{x:Bool}:xU .not (.bool x)=some (.bool !x):=rfl
theorem aaE:xU .neg (.int k a)=some (.int k (k.wrap (0-a))):=rfl
theorem aaF:fj E .str (S l)=some (.int .i64 l.length):=by rfl
def aaG:xV (S l) (.int k a)=if 0<=a/\a<l.length then some (.int .u8 (l.getD a.toNat 0).toNat)else none:=by
 simp only[xV,rO,S]
 grind
def aqJ(i j:Nat): (⟨l.toArray⟩:ByteArray).extract i j=⟨((l.take j).drop i).toArray⟩:=by
 apply ByteArray.ext;simp[ByteArray.data_extract,ayE]
def HV:uj (S l) (some (.int k a)) none=if 0<=a/\a<=l.length then some (S (l.drop a.toNat))else none:=by
 simp only[uj,S,fV,lF,aqD];by_cases h:0<=a/\a<=l.length
 ·simp_all[afl,aqJ]
 grind
theorem aaH: (S l).cb=false:=rfl
theorem aaI: (S l).cells=[S l]:=rfl
theorem aaJ: (S l).refs=0:=rfl
def aaK:dn X n lo [.t t] R .ret ⟨e,[]⟩ E=R (.ret (finish n lo (e t) E).1 (finish n lo (e t) E).2):=by
 simp[dn,dy,Zi]
def aaL{u:Nat}:dn X n lo [.t t,.t u] R .ret ⟨e,[]⟩ E=R (.ret (finish n lo (.au [e t,e u]) E).1 (finish n lo (.au [e t,e u]) E).2):=by
 simp[dn,dy,aqH]
def aaM{u v:Nat}:dn X n lo [.t t,.t u,.t v] R .ret ⟨e,[]⟩ E=R (.ret (finish n lo (.au [e t,e u,e v]) E).1 (finish n lo (.au [e t,e u,e v]) E).2):=by
 simp[dn,dy,aqI]
def aaN:dn X n lo [] R .ret ⟨e,[]⟩ E=R (.ret (finish n lo (.au []) E).1 (finish n lo (.au []) E).2):=by
 simp[dn,dy,fk,ju]
def aaO:dn X n lo [] R .normal ⟨e,[]⟩ E=R (.ret (finish n lo (.au []) E).1 (finish n lo (.au []) E).2):=by
 simp[dn,dy,fk,ju]
def AG:finish n lo v ⟨H,none⟩=if v.refs<=n then(v,⟨H.take n,lo⟩)else match freeze ⟨H,none⟩ n 12 v with|some v'=>(v',⟨H.take n,lo⟩)|none=>(v,⟨H,fU lo none⟩):=by
 by_cases h:v.refs<=n
 ·rw[afl h,Zd rfl h]
 ·rw[afi h];rfl
def DG:finish n lo v ⟨H,some j⟩=if n<=j then(if v.refs<=n then(v,⟨H.take n,lo⟩)else match freeze ⟨H,some j⟩ n 12 v with|some v'=>(v',⟨H.take n,lo⟩)|none=>(v,⟨H,fU lo (some j)⟩))else(v,⟨H,fU lo (some j)⟩):=by
 by_cases d:n<=j
 ·rw[afl d];by_cases h:v.refs<=n
  ·rw[afl h,Zd (by grind) h]
  ·rw[afi h];simp only[finish,amB,afl d];rfl
 ·simp only[finish,amB,afi d]
def aaP(h:H.length=n):H.take n=H:=by grind
theorem aaQ{agg:Bool}{m id off:Nat}{lo:oN}:cg X ⟨H,lo⟩ agg m (.ptr id off)=match H[id]? with
 |some (.box cs _)=>part agg m cs off
 |_=>none:=rfl
theorem aaR{agg:Bool}{m off:Nat}{cs:lA}:cg X E agg m (.eL cs off)=part agg m cs off:=rfl
theorem aaS{m id off:Nat}{v:AV}{lo:oN}:kK ⟨H,lo⟩ m (.ptr id off) v=match H[id]? with
 |some (.box cs tg)=>if v.cb=false/\v.cells.length=m/\off+m<=cs.length then some (AS.set ⟨H,lo⟩ id (.box (aH cs off v.cells) tg) v.refs)else none
 |_=>none:=rfl
theorem aaT{m:Nat}{cs:lA}{off:Nat}:part false m cs off=cs[off]?:=rfl
theorem aaU{m:Nat}{cs:lA}{off:Nat}:part true m cs off=if off+m<=cs.length then some (.agg ((cs.drop off).take m))else none:=rfl
theorem aaV{id off:Nat}:v8 (.ptr id off)=some (.ptr id off):=rfl
theorem aaW{id off:Nat}:v8 (.dp id aj i off)=some (.dp id aj i off):=rfl
theorem aaX{cs:lA}{off:Nat}:v8 (.eL cs off)=some (.eL cs off):=rfl
theorem aaY{id off m:Nat}:rS X m (.ptr id off)=some (.ptr id (off+m)):=rfl
theorem aaZ{id off m:Nat}:rS X m (.dp id aj i off)=some (.dp id aj i (off+m)):=rfl
theorem aa0{cs:lA}{off m:Nat}:rS X m (.eL cs off)=some (.eL cs (off+m)):=rfl
theorem aa1:qF E (.int k a) tg=some (.ptr E.heap.length 0,E.push (.box [.int k a] tg)):=rfl
theorem aa2{b:Bool}:qF E (.bool b) tg=some (.ptr E.heap.length 0,E.push (.box [.bool b] tg)):=rfl
theorem aa3:qF E (S l) tg=some (.ptr E.heap.length 0,E.push (.box [S l] tg)):=rfl
theorem aa4{cs:lA}:qF E (.agg cs) tg=some (.ptr E.heap.length 0,E.push (.box cs tg)):=rfl
def aa5{cs:lA}:aH cs 0 vs=vs++cs.drop vs.length:=by simp[aH]
def aa6{cs:lA}{c:AV}{off:Nat}:aH (c::cs) (off+1) vs=c::aH cs off vs:=by
 simp[aH,Nat.add_right_comm]
theorem aa7{k:IntKind}{n:Int}:AV.cb (.int k n)=false:=rfl
theorem aa8{k:IntKind}{n:Int}:AV.cells (.int k n)=[.int k n]:=rfl
theorem aa9{b:Bool}:AV.cb (.bool b)=false:=rfl
theorem aba{b:Bool}:AV.cells (.bool b)=[.bool b]:=rfl
theorem abb{o:Nat}:AV.cb (.ptr i o)=false:=rfl
theorem abc{o:Nat}:AV.cells (.ptr i o)=[.ptr i o]:=rfl
theorem abd{v o:Nat}:AV.cb (.dp i v j o)=false:=rfl
theorem abe{v o:Nat}:AV.cells (.dp i v j o)=[.dp i v j o]:=rfl
theorem abf{cs:lA}{o:Nat}:AV.cb (.eL cs o)=false:=rfl
theorem abg{cs:lA}{o:Nat}:AV.cells (.eL cs o)=[.eL cs o]:=rfl
theorem abh:AV.cb (.dY)=false:=rfl
theorem abi:AV.cells (.dY)=[.dY]:=rfl
theorem abj:AV.cb (.ai)=false:=rfl
theorem abk:AV.cells (.ai)=[.ai]:=rfl
theorem abl{c:Bool}:AV.cb (.sl af c)=false:=rfl
theorem abm{c:Bool}:AV.cells (.sl af c)=[.sl af c]:=rfl
theorem abn{v z o l:Nat}{c:Bool}:AV.cb (.ref i v z o l c)=false:=rfl
theorem abo{v z o l:Nat}{c:Bool}:AV.cells (.ref i v z o l c)=[.ref i v z o l c]:=rfl
theorem abp{z o l:Nat}:AV.cb (.eZ i z o l)=false:=rfl
theorem abq{z o l:Nat}:AV.cells (.eZ i z o l)=[.eZ i z o l]:=rfl
theorem abr:AV.cb (.mc)=false:=rfl
theorem abt:AV.cells (.mc)=[.mc]:=rfl
theorem abu:AV.cb (.mp i)=false:=rfl
theorem abv:AV.cells (.mp i)=[.mp i]:=rfl
theorem abw{f:Fn}{a b:lA}:AV.cb (.fn f a b)=false:=rfl
theorem abx{f:Fn}{a b:lA}:AV.cells (.fn f a b)=[.fn f a b]:=rfl
theorem aby:AV.cb (.cJ)=false:=rfl
theorem abz:AV.cells (.cJ)=[.cJ]:=rfl
theorem abA{t:TypeId}:AV.cb (.c9 t v)=false:=rfl
theorem abB{t:TypeId}:AV.cells (.c9 t v)=[.c9 t v]:=rfl
theorem abC:AV.cb (.ew)=false:=rfl
theorem abD:AV.cells (.ew)=[.ew]:=rfl
theorem abE{g:Nat}:AV.cb (.df g)=false:=rfl
theorem abF{g:Nat}:AV.cells (.df g)=[.df g]:=rfl
theorem abG{cs:lA}:AV.cb (.agg cs)=false:=rfl
theorem abH{cs:lA}:AV.cells (.agg cs)=cs:=rfl
theorem abI{k:IntKind}{n:Int}:AV.refs (.int k n)=0:=by rfl
theorem abJ{b:Bool}:AV.refs (.bool b)=0:=by rfl
theorem abK{o:Nat}:AV.refs (.ptr i o)=i+1:=by rfl
theorem abL:AV.refs (.ai)=0:=by rfl
theorem abM{v z o l:Nat}{c:Bool}:AV.refs (.ref i v z o l c)=i+1:=by rfl
theorem abN:AV.refs (.mp i)=i+1:=by rfl
theorem abO{f:Nat}{a b:lA}:AV.refs (.fn (.func f) a b)=max (aG a) (aG b):=by rfl
theorem abP{t:TypeId}:AV.refs (.c9 t v)=v.refs:=by rfl
theorem abQ{cs:lA}:AV.refs (.agg cs)=aG cs:=by rfl
theorem abR{cs:lA}:AV.refs (.au cs)=aG cs:=by rfl
theorem abS{c:Bool}:AV.refs (.sl af c)=b8 af:=by rfl
theorem abT:aG []=0:=by rfl
theorem abU{a:AV}{as:lA}:aG (a::as)=max a.refs (aG as):=by rfl
theorem abV{a:AV}{as:lA}:cZ (a::as) 0=a:=rfl
theorem abW{a:AV}{as:lA}{n:Nat}:cZ (a::as) (n+1)=cZ as n:=rfl
theorem abX{n:Nat}:cZ [] n= .undef:=rfl
theorem abY: (!true)=false:=rfl
theorem abZ: (!false)=true:=rfl
end
structure Rd(E:AS)(v:AV)(sz:Nat)(af:List lA):Prop where
 kind:match v with|.ai|.sl .. |.ref .. =>True|_=>False
 eq:elems E sz v=some af
 aCU: ∀el∈af,el.length=sz
def fu(v:AV)(j off:Nat):AV:=
 match v with
 |.sl af _=>.eL (af.getD j []) off
 |.ref id aj _ o _ _=>.dp id aj (o+j) off
 |_=>.iB
section
variable{X:Ctx}{E:AS}{v:AV}{sz:Nat}{af:List lA}{k:IntKind}{a:Int}
def Rd.len(h:Rd E v sz af):fj E .sl v=some (.int .i64 af.length):=by
 obtain⟨i,d,j⟩:=h;cases v<;>simp only[]at i
 ·cases d;rfl
 ·simp only[elems]at d;split at d<;>cases d;rfl
 ·simp only[elems]at d;split at d
  ·split at d
   ·simp only[fj];grind
   grind
  grind
def Rd.addr(h:Rd E v sz af):jU sz v (.int k a)=if 0<=a/\a<af.length then some (fu v a.toNat 0)else none:=by
 obtain⟨o,d,p⟩:=h;cases v<;>simp only[]at o
 ·cases d;have: ¬(0<=a/\a< (([]:List lA).length:Int)):=by simp
  rw[afi this];rfl
 ·simp only[elems]at d;simp only[jU,rO,fu]
  grind
 ·rename_i id aj z off len cy;simp only[elems]at d;split at d
  ·split at d
   ·rename_i j;cases d;simp only[jU,rO,fu];have e: ((List.take len (List.drop off (by assumption))).length:Nat)=len:=by rw[aiI,anA];omega
    rw[e];by_cases i:0<=a/\a<len
    ·rw[afl ⟨i.1,i.2,j.2.2.1⟩,afl i]
    ·rw[afi (λh=>i ⟨h.1,h.2.1⟩),afi i]
   grind
  grind
def Rd.load(h:Rd E v sz af){off:Nat}{agg:Bool}(r:j<af.length):cg X E agg n (fu v j off)=part agg n (af.getD j []) off:=by
 obtain⟨q,d,s⟩:=h;cases v<;>simp only[]at q
 ·simp only[elems]at d;grind
 ·simp only[elems]at d;split at d<;>cases d;rfl
 ·simp only[elems]at d;split at d
  ·rename_i v' o ty i p;split at d
   ·simp only[fu,cg,p]
    grind
   grind
  grind
def Rd.faddr(h:Rd E v sz af){off:Nat}(o:j<af.length):rS X n (fu v j off)=some (fu v j (off+n)):=by
 obtain⟨i,d,p⟩:=h;cases v<;>simp only[]at i
 ·simp only[elems]at d;grind
 ·rfl
 ·rfl
theorem Rd.sl{af:List lA}(h: ∀el∈af,el.length=sz):Rd E (.sl af c) sz af:=
 ⟨trivial,by simp only[elems];grind,h⟩
theorem Rd.ai:Rd E .ai sz []:=⟨trivial,rfl,by simp⟩
def Rd.ext{H L:List ae}(h:Rd ⟨H,lo⟩ v sz af):Rd ⟨H++L,ak⟩ v sz af:=by
 obtain⟨i,d,j⟩:=h;refine⟨i,?_,j⟩;cases v<;>simp only[]at i
 ·exact d
 ·exact d
 ·simp only[elems]at d⊢
  grind
end
def OX{f:AV->AV->Option AV}{x:AV}:fX f [x]=some x:=by rw[fX]
def ab0{f:AV->AV->Option AV}{x y z:AV}{r:lA}(h:f x y=some z):fX f (x::y::r)=fX f (z::r):=by rw[fX,h]
def OY{k:IntKind}{a b:Int}{r:lA}:fX qt (.int k a:: .int k' b::r)=fX qt (.int k (max a b)::r):=by
 refine ab0 ?_;simp only[qt];grind
def ab1{k:IntKind}{a b:Int}{r:lA}:fX v7 (.int k a:: .int k' b::r)=fX v7 (.int k (min a b)::r):=by
 refine ab0 ?_;simp only[v7];grind
def Rd.mono{H H':List ae}(h:Rd ⟨H,lo⟩ v sz af)(d:H<+:H'):Rd ⟨H',ak⟩ v sz af:=by
 obtain⟨L,rfl⟩:=d;exact h.ext
def Rv(v:AV)(sz:Nat)(af:List lA):Prop:= ∀E,Rd E v sz af
theorem Rv.len(h:Rv v sz af){E:AS}:fj E .sl v=some (.int .i64 af.length):=(h E).len
theorem Rv.addr(h:Rv v sz af){k:IntKind}{a:Int}:jU sz v (.int k a)=if 0<=a/\a<af.length then some (fu v a.toNat 0)else none:=(h ⟨[],none⟩).addr
theorem Rv.load{X:Ctx}(h:Rv v sz af){E:AS}{off:Nat}{agg:Bool}(d:j<af.length):cg X E agg n (fu v j off)=part agg n (af.getD j []) off:=(h E).load d
theorem Rv.faddr{X:Ctx}(h:Rv v sz af){off:Nat}(d:j<af.length):rS X n (fu v j off)=some (fu v j (off+n)):=(h ⟨[],none⟩).faddr d
theorem Rv.elems(h:Rv v sz af){E:AS}:Den.elems E sz v=some af:=(h E).eq
theorem Rv.sl(h: ∀el∈af,el.length=sz):Rv (.sl af c) sz af:=λ_=>.sl h
theorem Rv.ai:Rv .ai sz []:=λ_=>.ai
def da{v':AV}{H H':List ae}(h:v=v')(d:H=H'):aS.ret v ⟨H,lo⟩=aS.ret v' ⟨H',lo⟩:=by grind
theorem ab2: ((k+m:Nat):Int)=(k:Int)+(m:Int):=by rfl
theorem cast_zero: ((0:Nat):Int)=0:=rfl
def ab3{α:Type}[Inhabited α]{g:α->lA}{l:List α}(h:j<l.length): (l.map g).getD j []=g (l.getD j default):=by grind
section
variable{α:Type}{g:α->lA}{l:List α}{v:AV}{sz:Nat}
def Rv.bK(h:Rv v sz (l.map g)){E:AS}:fj E .sl v=some (.int .i64 l.length):=by rw[h.len,agZ]
def Rv.ck(h:Rv v sz (l.map g)){k:IntKind}{a:Int}:jU sz v (.int k a)=if 0<=a/\a<l.length then some (fu v a.toNat 0)else none:=by rw[h.addr,agZ]
def Rv.cE[Inhabited α]{X:Ctx}(h:Rv v sz (l.map g)){E:AS}{off:Nat}{agg:Bool}(d:j<l.length):cg X E agg n (fu v j off)=part agg n (g (l.getD j default)) off:=by
 rw[h.load (by grind),ab3 d]
def Rd.bK{E:AS}(h:Rd E v sz (l.map g)):fj E .sl v=some (.int .i64 l.length):=by rw[h.len,agZ]
def Rd.ck{E:AS}(h:Rd E v sz (l.map g)){k:IntKind}{a:Int}:jU sz v (.int k a)=if 0<=a/\a<l.length then some (fu v a.toNat 0)else none:=by rw[h.addr,agZ]
def Rd.cE[Inhabited α]{X:Ctx}{E:AS}(h:Rd E v sz (l.map g)){off:Nat}{agg:Bool}(d:j<l.length):cg X E agg n (fu v j off)=part agg n (g (l.getD j default)) off:=by
 rw[h.load (by grind),ab3 d]
end
def V1:=gG @aat<|gG @aau<|gG @aav<|gG @aaw<|gG @aax<|gG @aay<|gG @aaz<|gG @aaA<|gG @aaB<|gG @DE<|gG @HU<|gG @OV<|gG @OW<|gG @AF<|gG @DF<|gG @eq_int<|gG @aaC<|gG @aaD<|gG @aaE<|gG @aaF<|gG @aaG<|gG @HV<|gG @aaH<|gG @aaI<|gG @aaJ<|gG @aaK<|gG @aaL<|gG @aaM<|gG @aaN<|gG @aaO<|gG @aaQ<|gG @aaR<|gG @aaS<|gG @aaT<|gG @aaU<|gG @aaV<|gG @aaW<|gG @aaX<|gG @aaY<|gG @aaZ<|gG @aa0<|gG @aa1<|gG @aa2<|gG @aa3<|gG @aa4<|gG @aa5<|gG @aa6<|gG @Zc<|gG @Za @Zb
theorem V3:type_of% @abV/\type_of% @cast_zero/\type_of% @ab2/\type_of% @Int.toNat_natCast/\type_of% @Int.natCast_nonneg/\type_of% @OX/\type_of% @OY/\type_of% @ab1/\type_of% @abW/\type_of% @abX/\type_of% @abY/\type_of% @abZ/\type_of% @Option.map_some.{0,0}/\type_of% @Option.map_none.{0,0}/\type_of% @List.map_cons.{0,0}/\type_of% @List.map_nil.{0,0}/\type_of% @not_false_eq_true/\type_of% @true_and/\type_of% @and_true/\type_of% @Nat.zero_le/\type_of% @List.length_cons.{0}/\type_of% @List.length_nil.{0}/\type_of% @List.length_append.{0}/\type_of% @List.length_map.{0,0}/\type_of% @if_true.{1}/\type_of% @if_false.{1}/\type_of% @if_true.{0}/\type_of% @if_false.{0}/\type_of% @ne_eq.{1}/\type_of% @List.cons_append.{0}/\type_of% @List.nil_append.{0}/\type_of% @List.append_nil.{0}/\type_of% @Nat.zero_add/\type_of% @List.length_set.{0}/\type_of% @List.append_assoc.{0}/\type_of% @List.getElem?_cons_zero.{0}/\type_of% @List.getElem?_cons_succ.{0}/\type_of% @List.set_cons_zero.{0}/\type_of% @List.set_cons_succ.{0}/\type_of% @List.drop_succ_cons.{0}/\type_of% @List.drop_zero.{0}/\type_of% @List.take_succ_cons.{0}/\type_of% @List.take_zero.{0}/\type_of% @Nat.max_self/\type_of% @Nat.zero_max/\type_of% @Nat.max_zero:=
 ⟨@abV,@cast_zero,@ab2,@aCF,@Int.natCast_nonneg,@OX,@OY,@ab1,@abW,@abX,@abY,@abZ,@ag0.{0,0},@Option.map_none.{0,0},@anw.{0,0},@ayu.{0,0},@not_false_eq_true,@azq,@apw,@agS,@ag5.{0},@aoY.{0},@agU.{0},@agZ.{0,0},@aiH.{1},@amn.{1},@aiH.{0},@amn.{0},@ne_eq.{1},@akr.{0},@aiL.{0},@aip.{0},@ana,@ag7.{0},@afq.{0},@aro.{0},@aza.{0},@List.set_cons_zero.{0},@List.set_cons_succ.{0},@anx.{0},@amy.{0},@ark.{0},@List.take_zero.{0},@Nat.max_self,@Nat.zero_max,@Nat.max_zero⟩
def F1:=gG @AG @DG
def V2:=gG @aa7<|gG @aa9<|gG @abb<|gG @abd<|gG @abf<|gG @abh<|gG @abj<|gG @abl<|gG @abn<|gG @abp<|gG @abr<|gG @abu<|gG @abw<|gG @aby<|gG @abA<|gG @abC<|gG @abE<|gG @abG<|gG @aa8<|gG @aba<|gG @abc<|gG @abe<|gG @abg<|gG @abi<|gG @abk<|gG @abm<|gG @abo<|gG @abq<|gG @abt<|gG @abv<|gG @abx<|gG @abz<|gG @abB<|gG @abD<|gG @abF<|gG @abH<|gG @abI<|gG @abJ<|gG @abK<|gG @abL<|gG @abM<|gG @abN<|gG @abO<|gG @abP<|gG @abQ<|gG @abR<|gG @abS<|gG @abT @abU
def gq:List aO->lN
 | []=>[]
 |o::os=>match o.dst with
  |some d=>d::gq os
  |none=>gq os
def Fr.Dj{fr:Fr}(h:d≠some t): (fr.put d v).env t=fr.env t:=by
 cases d with
 |none=>rfl
 |some d=>
  simp only[Fr.put,Env.set]
  grind
section
variable{X:Ctx}{C:bu}{L:ed}
theorem OZ: ∀ (os:List aO) (fr a:Fr) (E E':AS) (ex:Ex),eD X C os fr E=some (ex,a,E')-> ∀t,t∉gq os->a.env t=fr.env t
 | [],fr,a,E,E',ex,h,t,j=>by simp only[eD,afh,aq5]at h;grind
 |o::os,fr,a,E,E',ex,h,t,j=>by
  have k:o.dst≠some t:=by
   intro e;apply j;simp[gq,e]
  have g:t∉gq os:=by
   intro e;apply j;simp only[gq];grind
  simp only[eD]at h;split at h
  ·split at h
   ·rw[OZ os _ _ _ _ _ h t g,Fr.Dj k]
   ·grind
   grind
  ·rw[OZ os _ _ _ _ _ h t g,Fr.Dj k]
end
def sb:lN->Nat->Bool
 | [],_=>false
 |a::as,t=>a==t||sb as t
theorem ab4{t:Nat}: ∀ {W:lN},sb W t=true↔t∈W
 | []=>by simp[sb]
 |a::as=>by
  simp only[sb,aqR,aud,aiK];rw[ab4]
  grind
def ab5(b:Bool)(a e:Env)(t:Nat):AV:=match b with|true=>a t|false=>e t
theorem ab6{a:Env}:ab5 true a e t=a t:=rfl
theorem ab7{a:Env}:ab5 false a e t=e t:=rfl
section
variable{X:Ctx}{f:FuncId}{rd:Bool}{E nT:AS}{Q:bQ}{e:Env}{ms:lN}{t:Nat}{b c:Bool}{d:oN}{i:I}{os:List aO}
def O0(r:Nat)(v:AV)(ms:lN)(nT:AS)(Q:bQ):bQ
 |.normal,fr,E'=>fr.env r=v/\fr.marks=ms/\E'=nT
 |ex,fr,E'=>Q ex fr E'
theorem ab8{ms a:lN}:O0 r v ms nT Q .normal ⟨e,a⟩ E=(e r=v/\a=ms/\E=nT):=rfl
end
def wo(e:Env):lN->Env->Env
 | [],a=>a
 |t::ts,a=>(wo e ts a).set t (e t)
theorem ab9{W:lN}{e g:Env}(h: ∀t,t∉W->g t=e t): ∀a:lN,a.all (λk=>!sb W k)=true->wo e a g=g
 | [],_=>rfl
 |k::a,j=>by
  simp only[awi,aiq]at j;have l:k∉W:=by grind [ab4]
  simp only[wo];rw[ab9 h a j.2,<-h k l,Env.OJ]
section
variable{X:Ctx}{f:FuncId}{rd:Bool}{E:AS}{Q:bQ}{e:Env}{ms:lN}{t:Nat}{b c:Bool}{d:oN}{i:I}{os:List aO}
def aqK(nT:AS)(r:Nat)(v:AV)(g:lN)(l:g.all (λk=>!sb (gq os) k)=true)(u:dm X os ⟨e,ms⟩ E (O0 r v ms nT Q))(q: ∀w,Q .normal ⟨(wo e g w).set r v,ms⟩ nT):dm X os ⟨e,ms⟩ E Q:=by
 obtain⟨ex,a,E',h,j⟩:=u;have m:=OZ os _ _ _ _ _ h;refine⟨ex,a,E',h,?_⟩;cases ex with
 |normal=>
  obtain⟨p,o,n⟩:=j;have:=q a.env;rw[ab9 m g l,<-p,Env.OJ,<-o,<-n]at this;omega
 |_=>exact j
def uE(r:Nat)(v:AV)(a:lN){g:AV}(l:e t=g)(j:a.all (λk=>!sb (gq (⟨none,d,i⟩::os)) k)=true)(h:gK X t b d i os e ms E (O0 r v ms E Q) g)(m: ∀n,Q .normal ⟨(wo e a n).set r v,ms⟩ E):gK X t b d i os e ms E Q g:=by
 subst l;have key: ∀Q,gK X t b d i os e ms E Q (e t)=dm X (⟨some (t,b),d,i⟩::os) ⟨e,ms⟩ E Q:=by
  intro Q;cases b
  ·exact OT.symm
  ·exact OS.symm
 rw[key]at h⊢;exact aqK E r v a j h m
def aqL(r:Nat)(v:AV)(ms:lN)(P:AS->Prop)(Q:bQ):bQ
 |.normal,fr,E'=>fr.env r=v/\fr.marks=ms/\P E'
 |ex,fr,E'=>Q ex fr E'
theorem aca{ms a:lN}{P:AS->Prop}:aqL r v ms P Q .normal ⟨e,a⟩ E=(e r=v/\a=ms/\P E):=rfl
def O2(P:Env->List ae->oN->Prop)(Q:bQ):bQ
 |.normal,fr,E'=>fr.marks=[]/\P fr.env E'.heap E'.lo
 |ex,fr,E'=>Q ex fr E'
def HW{P:Env->List ae->oN->Prop}{H:List ae}:O2 P Q .normal ⟨e,[]⟩ ⟨H,lo⟩=P e H lo:=by simp[O2]
def acb{p q:PC}{a:AV}(P:Env->List ae->oN->Prop)(g:nU X f rd p q ⟨e,[]⟩ E (O2 P Q) a)(l: ∀e H lo,P e H lo->Q .normal ⟨e,[]⟩ ⟨H,lo⟩):nU X f rd p q ⟨e,[]⟩ E Q a:=by
 have key: ∀Q,nU X f rd p q ⟨e,[]⟩ E Q a=wp X f rd (.cond (.c a) p q) ⟨e,[]⟩ E Q:=λQ=>by rw[OU];rfl
 rw[key]at g⊢;refine wp_mono g ?_;rintro ex ⟨m,ms⟩ ⟨H,lo⟩ h;cases ex with
 |normal=>obtain⟨k,j⟩:=h;grind
 |_=>exact h
end
def uF(n:Nat)(a:AV):FP:=match a with
 |.ptr id off=>.rd id off (Nat.max n 1)
 |.dp .. =>.q
 |.eL .. =>.no
 |.df _=>.no
 |_=>.all
def HX(n:Nat)(a:AV):FP:=match a with
 |.ptr id off=>.wr id off n
 |.dp .. =>.app
 |_=>.all
noncomputable def O3(E E':AS):FP:=open Classical in if E'=E then .q else .all
section
variable{e:Env}{E E':AS}
theorem acd:ba (.mov x) e E E'= .no:=rfl
theorem ace{c:ao}{a:ao}{b:ao}:ba (.pick c a b) e E E'= .no:=rfl
theorem acf{a:List (Nat×Nat×ao)}:ba (.build z a) e E E'= .no:=rfl
theorem acg{a:List (Nat×Nat×ao)}:ba (.bslice z n a) e E E'= .no:=rfl
theorem ach:ba (.nilck x) e E E'= .no:=rfl
theorem aci{a:BinOp}:ba (.bin a x y) e E E'= .no:=rfl
theorem acj{a:BinOp}:ba (.shf a x y) e E E'= .no:=rfl
theorem ack{k:EK}:ba (.eq k x y) e E E'= .no:=rfl
theorem acm{k:EK}:ba (.ne k x y) e E E'= .no:=rfl
theorem acn{a:UnOp}:ba (.un a x) e E E'= .no:=rfl
theorem aco{a:IntKind}:ba (.conv a x) e E E'= .no:=rfl
theorem acp:ba (.s2b x) e E E'= .no:=rfl
theorem acq{ty:TypeId}:ba (.mki ty x) e E E'= .no:=rfl
theorem acr{fn:Fn}{g:List ao}{a:List ao}:ba (.mkf fn g a) e E E'= .no:=rfl
theorem acs{lo:Option ao}{a:Option ao}:ba (.slstr x lo a) e E E'= .no:=rfl
theorem acu{lo:Option ao}{g:Option ao}{a:Option ao}:ba (.slsl n x lo g a) e E E'= .no:=rfl
theorem acv{lo:Option ao}{a:Option ao}:ba (.slarr n m x lo a) e E E'= .no:=rfl
theorem acw:ba (.faddr n x) e E E'= .no:=rfl
theorem acx:ba (.fld ag n m x) e E E'= .no:=rfl
theorem acy:ba (.iaddra n m x y) e E E'= .no:=rfl
theorem acz:ba (.iaddrs n x y) e E E'= .no:=rfl
theorem acA:ba (.idxa ag n m x y) e E E'= .no:=rfl
theorem acB:ba (.idxs x y) e E E'= .no:=rfl
theorem acC{a:AV}{ty:TypeId}{g:Bool}:ba (.ta a x ty g) e E E'= .no:=rfl
theorem acD:ba (.ext x n) e E E'= .no:=rfl
theorem acE{a:List ao}:ba (.max a) e E E'= .no:=rfl
theorem acF{a:List ao}:ba (.min a) e E E'= .no:=rfl
theorem acG{k:EK}{a:AV}{g:Bool}:ba (.lookup k a x y g) e E E'= .q:=rfl
theorem acH:ba (.len .sl x) e E E'= .no/\ba (.len .str x) e E E'= .no/\ba (.len .map x) e E E'= .q:=⟨rfl,rfl,rfl⟩
theorem acI{ty:TypeId}:ba (.append ty n m x y) e E E'= .app:=rfl
theorem acJ:ba (.alloc z tg) e E E'= .all:=rfl
theorem acK:ba (.box x tg) e E E'= .all:=rfl
theorem acL{ty:TypeId}{a:List (Nat×Nat×ao)}:ba (.rN ty z n a) e E E'= .all:=rfl
theorem acM:ba (.nJ) e E E'= .all:=rfl
theorem acN{k:EK}{c:ao}:ba (.oV k x y c) e E E'= .all:=rfl
theorem acO:ba (.copy n x y) e E E'= .all:=rfl
theorem acP:ba (.clear z x) e E E'= .all:=rfl
theorem acQ:ba (.panic x) e E E'= .all:=rfl
theorem acR:ba (.load ag n x) e E E'=uF n (x.get e):=by rfl
theorem acS:ba (.store n x y) e E E'=HX n (x.get e):=by rfl
theorem acT{a:List ao}:ba (.call x a) e E E'=O3 E E':=rfl
def acU:O3 E E= .q:=by simp[O3]
theorem acV{id off:Nat}:uF n (.ptr id off)= .rd id off (Nat.max n 1)/\uF n (.dp id aj i off)= .q:=⟨rfl,rfl⟩
theorem acW{off:Nat}{cs:lA}:uF n (.eL cs off)= .no:=rfl
theorem acX{g:Nat}:uF n (.df g)= .no:=rfl
theorem acY{id off:Nat}:HX n (.ptr id off)= .wr id off n/\HX n (.dp id aj i off)= .app:=⟨rfl,rfl⟩
theorem Rv.uF(h:Rv v sz af){off:Nat}(k:j<af.length):Den.uF n (fu v j off)= .no:=by
 obtain⟨g,a,l⟩:=h ⟨[],none⟩;cases v<;>simp only[]at g
 ·simp only[Den.elems]at a;grind
 ·rfl
 ·trivial
theorem HY{x:FP}:FP.ok .no x=true:=by rfl
def HZ{x:FP}:FP.ok x .no=true:=by cases x<;>rfl
theorem H4{b c h g:Nat}:FP.ok (.rd a b c) (.rd a' h g)=true:=rfl
theorem H5{b c:Nat}:FP.ok (.rd a b c) .q=true:=rfl
theorem H6{b c:Nat}:FP.ok .q (.rd a b c)=true:=rfl
theorem H7:FP.ok .q .q=true:=rfl
theorem H8{b c:Nat}:FP.ok (.rd a b c) .app=true:=rfl
theorem H9{b c:Nat}:FP.ok .app (.rd a b c)=true:=rfl
theorem Ia{b c g h:Nat}:FP.ok (.rd a b c) (.wr a' g h)=(a !=a'||b+c<=g||g+h<=b):=rfl
theorem Ib{b c g h:Nat}:FP.ok (.wr a b c) (.rd a' g h)=(a !=a'||b+c<=g||g+h<=b):=rfl
end
def qG(bH:List FP)(x:FP):lN->Bool
 | []=>true
 |j::js=>(bH.getD j .all).ok x&&qG bH x js
theorem O4{bH:List FP}{x:FP}: ∀js:lN,js.all (λj=>(bH.getD j .all).ok x)=qG bH x js
 | []=>rfl
 |j::js=>by simp only[awi,qG,O4 js]
def kD(X:Ctx)(i:I)(ch:AS)(bH:List FP)(js:lN)(os:List (aO×lN))(d:oN)(e:Env)(ms:lN)(Q:bQ):AV->AS->Prop:=λv E=>
 qG bH (ba i e ch E) js=true/\gp X (bH++[ba i e ch E]) os (Fr.put ⟨e,ms⟩ d v) E Q
def kF(bH:List FP)(i:I)(d:oN)(js:lN)(os:List (aO×lN))(e:Env)(ms:lN)(Q:bQ):AV->AS->Prop:=λv E=>C0 bH (⟨none,d,i⟩,js) os=true/\Q (.panic v) ⟨e,ms⟩ E
def acZ{X:Ctx}{E:AS}{Q:bQ}{ms:lN}{bH:List FP}{js:lN}{os:List (aO×lN)}{i:I}:gp X bH ((⟨none,d,i⟩,js)::os) ⟨e,ms⟩ E Q=aP X i e E (kD X i E bH js os d e ms Q) (kF bH i d js os e ms Q):=by
 apply propext;simp only[gp,aP,fY,fK,aiH];cases g:exec X (D X) i e E with
 |none=>simp[qE]
 |some o=>
  cases o with
  |ok v E'=>
   simp only[qE,O4];by_cases a:qG bH (ba i e E E') js=true
   ·rw[afl a];exact⟨λh=>⟨a,h⟩,λh=>h.2⟩
   ·simp[kD,a]
  |panic v E'=>
   simp only[qE,kF]
   grind
section
variable{X:Ctx}{f:FuncId}{rd:Bool}{E ch:AS}{Q:bQ}{e:Env}{ms:lN}{bH:List FP}{js:lN}{os:List (aO×lN)}{i:I}{d:Nat}{v:AV}
theorem ac0:gp X bH [] ⟨e,ms⟩ E Q=Q .normal ⟨e,ms⟩ E:=propext (by simp only[gp,fY];grind)
theorem ac1:gp X bH ((o d i,js)::os) ⟨e,ms⟩ E Q=aP X i e E (kD X i E bH js os (some d) e ms Q) (kF bH i (some d) js os e ms Q):=acZ
theorem ac2:gp X bH ((u i,js)::os) ⟨e,ms⟩ E Q=aP X i e E (kD X i E bH js os none e ms Q) (kF bH i none js os e ms Q):=acZ
theorem ac3:kD X i ch bH js os (some d) e ms Q v E=(qG bH (ba i e ch E) js=true/\gp X (bH++[ba i e ch E]) os ⟨e.set d v,ms⟩ E Q):=rfl
theorem ac4:kD X i ch bH js os none e ms Q v E=(qG bH (ba i e ch E) js=true/\gp X (bH++[ba i e ch E]) os ⟨e,ms⟩ E Q):=rfl
theorem ac5{x:FP}:qG bH x []=true:=rfl
theorem ac6{x:FP}:qG bH x (j::js)=((bH.getD j .all).ok x&&qG bH x js):=rfl
theorem ac7{H:List ae}:wp X f rd (.ui os) ⟨e,ms⟩ ⟨H,lo⟩ Q=gp X [] (gR H.length os) ⟨e,ms⟩ ⟨H++dq os,lo⟩ Q:=ap3
theorem ac8{x y:FP}{l:List FP}: (x::l).getD 0 y=x:=rfl
end
def db:I->Option ae
 |.alloc z tg=>some (.box z tg)
 |_=>none
theorem ac9{d:Nat}{i:I}:aO.fA (o d i)=db i:=by rfl
theorem ada{i:I}:aO.fA (u i)=db i:=by rfl
theorem adb{i:I}:aO.fA (gt t d i)=db i:=by rfl
theorem ade{i:I}:aO.fA (gf t d i)=db i:=by rfl
def iF(n:Nat)(x:aO)(l:lN)(os:List (aO×lN)):Option ae->List (aO×lN)
 |none=>(x,l)::gR n os
 |some _=>({x with i:=.mov (.c (.ptr n 0))},l)::gR (n+1) os
def zC(os:List (aO×lN)):Option ae->List ae
 |none=>dq os
 |some b=>b::dq os
theorem adf:gR n []=[]:=rfl
def adg{x:aO}{l:lN}{os:List (aO×lN)}:gR n ((x,l)::os)=iF n x l os x.fA:=by
 simp only[gR,lI];cases x.fA<;>rfl
theorem adh{x:aO}{l:lN}{os:List (aO×lN)}:iF n x l os none=(x,l)::gR n os:=rfl
theorem adi{d:Nat}{i:I}{l:lN}{os:List (aO×lN)}{b:ae}:iF n (o d i) l os (some b)=(o d (.mov (.c (.ptr n 0))),l)::gR (n+1) os:=rfl
theorem adj{i:I}{l:lN}{os:List (aO×lN)}{b:ae}:iF n (gt t d i) l os (some b)=(gt t d (.mov (.c (.ptr n 0))),l)::gR (n+1) os:=rfl
theorem adk{i:I}{l:lN}{os:List (aO×lN)}{b:ae}:iF n (gf t d i) l os (some b)=(gf t d (.mov (.c (.ptr n 0))),l)::gR (n+1) os:=rfl
theorem adl:dq []=[]:=rfl
def adm{x:aO}{l:lN}{os:List (aO×lN)}:dq ((x,l)::os)=zC os x.fA:=by
 simp only[dq];cases x.fA<;>rfl
theorem adn{os:List (aO×lN)}:zC os none=dq os:=rfl
theorem ado{os:List (aO×lN)}{b:ae}:zC os (some b)=b::dq os:=rfl
theorem adp:db (.alloc z tg)=some (.box z tg):=rfl
theorem adq{a:_}:db (.mov a)=none:=rfl
theorem adr{h:_}{g:_}{a:_}:db (.pick h g a)=none:=rfl
theorem ads{g:_}{a:_}:db (.box g a)=none:=rfl
theorem adt{g:_}{a:_}:db (.build g a)=none:=rfl
theorem adu{h:_}{g:_}{a:_}:db (.bslice h g a)=none:=rfl
theorem adv{j:_}{h:_}{g:_}{a:_}:db (.rN j h g a)=none:=rfl
theorem adw{h:_}{g:_}{a:_}:db (.load h g a)=none:=rfl
theorem adx{h:_}{g:_}{a:_}:db (.store h g a)=none:=rfl
theorem ady{a:_}:db (.nilck a)=none:=rfl
theorem adz{h:_}{g:_}{a:_}:db (.bin h g a)=none:=rfl
theorem adA{h:_}{g:_}{a:_}:db (.shf h g a)=none:=rfl
theorem adB{h:_}{g:_}{a:_}:db (.eq h g a)=none:=rfl
theorem adC{h:_}{g:_}{a:_}:db (.ne h g a)=none:=rfl
theorem adD{g:_}{a:_}:db (.un g a)=none:=rfl
theorem adE{g:_}{a:_}:db (.conv g a)=none:=rfl
theorem adF{a:_}:db (.s2b a)=none:=rfl
theorem adG{g:_}{a:_}:db (.mki g a)=none:=rfl
theorem adH{h:_}{g:_}{a:_}:db (.mkf h g a)=none:=rfl
theorem adI:db .nJ=none:=rfl
theorem adJ{h:_}{g:_}{a:_}:db (.slstr h g a)=none:=rfl
theorem adK{k:_}{j:_}{h:_}{g:_}{a:_}:db (.slsl k j h g a)=none:=rfl
theorem adL{k:_}{j:_}{h:_}{g:_}{a:_}:db (.slarr k j h g a)=none:=rfl
theorem adM{g:_}{a:_}:db (.faddr g a)=none:=rfl
theorem adN{j:_}{h:_}{g:_}{a:_}:db (.fld j h g a)=none:=rfl
theorem adO{j:_}{h:_}{g:_}{a:_}:db (.iaddra j h g a)=none:=rfl
theorem adP{h:_}{g:_}{a:_}:db (.iaddrs h g a)=none:=rfl
theorem adQ{k:_}{j:_}{h:_}{g:_}{a:_}:db (.idxa k j h g a)=none:=rfl
theorem adR{g:_}{a:_}:db (.idxs g a)=none:=rfl
theorem adS{k:_}{j:_}{h:_}{g:_}{a:_}:db (.lookup k j h g a)=none:=rfl
theorem adT{j:_}{h:_}{g:_}{a:_}:db (.oV j h g a)=none:=rfl
theorem adU{j:_}{h:_}{g:_}{a:_}:db (.ta j h g a)=none:=rfl
theorem adV{g:_}{a:_}:db (.ext g a)=none:=rfl
theorem adW{g:_}{a:_}:db (.len g a)=none:=rfl
theorem adX{k:_}{j:_}{h:_}{g:_}{a:_}:db (.append k j h g a)=none:=rfl
theorem adY{h:_}{g:_}{a:_}:db (.copy h g a)=none:=rfl
theorem adZ{g:_}{a:_}:db (.clear g a)=none:=rfl
theorem ad0{a:_}:db (.max a)=none:=rfl
theorem ad1{a:_}:db (.min a)=none:=rfl
theorem ad2{g:_}{a:_}:db (.call g a)=none:=rfl
theorem ad3{a:_}:db (.panic a)=none:=rfl
def N1:=gG @ac9<|gG @ada<|gG @adb<|gG @ade<|gG @adf<|gG @adg<|gG @adh<|gG @adi<|gG @adj<|gG @adk<|gG @adl<|gG @adm<|gG @adn<|gG @ado<|gG @adp<|gG @adq<|gG @adr<|gG @ads<|gG @adt<|gG @adu<|gG @adv<|gG @adw<|gG @adx<|gG @ady<|gG @adz<|gG @adA<|gG @adB<|gG @adC<|gG @adD<|gG @adE<|gG @adF<|gG @adG<|gG @adH<|gG @adI<|gG @adJ<|gG @adK<|gG @adL<|gG @adM<|gG @adN<|gG @adO<|gG @adP<|gG @adQ<|gG @adR<|gG @adS<|gG @adT<|gG @adU<|gG @adV<|gG @adW<|gG @adX<|gG @adY<|gG @adZ<|gG @ad0<|gG @ad1<|gG @ad2 @ad3
def P1:=gG @ac7<|gG @ac0<|gG @ac1<|gG @ac2<|gG @ac3<|gG @ac4<|gG @ac5<|gG @ac6<|gG @ac8<|gG @acR<|gG @acS<|gG @acT<|gG @acU<|gG @acV<|gG @acW<|gG @acX<|gG @acY<|gG @HY<|gG @HZ<|gG @H4<|gG @H5<|gG @H6<|gG @H7<|gG @H8<|gG @H9<|gG @Ia<|gG @Ib<|gG @acd<|gG @ace<|gG @acf<|gG @acg<|gG @ach<|gG @aci<|gG @acj<|gG @ack<|gG @acm<|gG @acn<|gG @aco<|gG @acp<|gG @acq<|gG @acr<|gG @acs<|gG @acu<|gG @acv<|gG @acw<|gG @acx<|gG @acy<|gG @acz<|gG @acA<|gG @acB<|gG @acC<|gG @acD<|gG @acE<|gG @acF<|gG @acG<|gG @acH<|gG @acI<|gG @acJ<|gG @acK<|gG @acL<|gG @acM<|gG @acN<|gG @acO<|gG @acP @acQ
def aqM{X:Ctx}(pf:PF){args cap:lA}{H:List ae}{a:aS}(g:X.bU f=none)(k:X.code f=some pf)(j:Nat.ble (args++cap).length pf.ntmps=true)
 (h: ∀n,H.length=n->wp X f false pf.body ⟨cZ (args++cap),[]⟩ ⟨H,none⟩ (dn X n lo pf.results (· =a))):D X (.fn (.func f) [] cap) args ⟨H,lo⟩=some a:=by grind [Nat.le_of_ble_eq_true,Y8]
def aqN{X:Ctx}{rd:Bool}{E:AS}{Q:bQ}(m:Nat)(I:Nat->Env->List ae->Prop){H:List ae}(k:Nat)(g:k<=m)(n:I k e H)
  (l: ∀k,k<=m-> ∀e H,I k e H->wp X f rd b ⟨e,[]⟩ ⟨H,none⟩ (λex a E'=>match ex with|.normal=>k<m/\ ∃h H',a=⟨h,[]⟩/\E'=⟨H',none⟩/\I (k+1) h H'|ex=>Q ex a E')):wp X f rd (.loop b) ⟨e,[]⟩ ⟨H,none⟩ Q:=by
 refine wp_loop (S:=Nat) (λk fr E=>k<=m/\ ∃e H,fr=⟨e,[]⟩/\E=⟨H,none⟩/\I k e H) (λk=>m-k) k ⟨g,e,H,rfl,rfl,n⟩ ?_;rintro k fr E ⟨g,e,H,rfl,rfl,j⟩;refine wp_mono (l k g e H j) ?_
 grind
def AH(k m:Nat)(I:Nat->Env->List ae->Prop)(Q:bQ):bQ:=λex a E'=>match ex with|.normal=>k<m/\ ∃g H',a=⟨g,[]⟩/\E'=⟨H',none⟩/\I (k+1) g H'|ex=>Q ex a E'
def ad4{I:Nat->Env->List ae->Prop}{Q:bQ}{H:List ae}:AH k m I Q .normal ⟨e,[]⟩ ⟨H,none⟩=(k<m/\I (k+1) e H):=by
 simp only[AH]
 grind
theorem ad5{I:Nat->Env->List ae->Prop}{Q:bQ}{fr:Fr}{E:AS}:AH k m I Q (.exit i) fr E=Q (.exit i) fr E:=rfl
theorem ad6{I:Nat->Env->List ae->Prop}{Q:bQ}{fr:Fr}{E:AS}:AH k m I Q .ret fr E=Q .ret fr E:=rfl
theorem ad7{I:Nat->Env->List ae->Prop}{Q:bQ}{fr:Fr}{E:AS}:AH k m I Q (.panic v) fr E=Q (.panic v) fr E:=rfl
theorem dU{X:Ctx}{rd:Bool}{Q:bQ}(m:Nat)(I:Nat->Env->List ae->Prop){H:List ae}(k:Nat)(a:k<=m)(j:I k e H)
  (h: ∀k,k<=m-> ∀e H,I k e H-> ∀n,H.length=n->wp X f rd b ⟨e,[]⟩ ⟨H,none⟩ (AH k m I Q)):wp X f rd (.loop b) ⟨e,[]⟩ ⟨H,none⟩ Q:=
 aqN (E:=⟨H,none⟩) m I k a j λk a e H g=>h k a e H g _ rfl
def AI(k m:Nat)(I:Nat->Env->List ae->oN->Prop)(Q:bQ):bQ:=λex a E'=>match ex with|.normal=>k<m/\a.marks=[]/\I (k+1) a.env E'.heap E'.lo|ex=>Q ex a E'
def ad8{I:Nat->Env->List ae->oN->Prop}{Q:bQ}{H:List ae}:AI k m I Q .normal ⟨e,[]⟩ ⟨H,lo⟩=(k<m/\I (k+1) e H lo):=by
 simp[AI]
theorem ad9{I:Nat->Env->List ae->oN->Prop}{Q:bQ}{fr:Fr}{E:AS}:AI k m I Q (.exit i) fr E=Q (.exit i) fr E:=rfl
theorem aea{I:Nat->Env->List ae->oN->Prop}{Q:bQ}{fr:Fr}{E:AS}:AI k m I Q .ret fr E=Q .ret fr E:=rfl
def gS{X:Ctx}{rd:Bool}{Q:bQ}(m:Nat)(I:Nat->Env->List ae->oN->Prop){H:List ae}(k:Nat)(g:k<=m)(o:I k e H lo)
  (l: ∀k,k<=m-> ∀e H lo,I k e H lo-> ∀n,H.length=n->wp X f rd b ⟨e,[]⟩ ⟨H,lo⟩ (AI k m I Q)):wp X f rd (.loop b) ⟨e,[]⟩ ⟨H,lo⟩ Q:=by
 refine wp_loop (S:=Nat) (λk fr E=>k<=m/\fr.marks=[]/\I k fr.env E.heap E.lo) (λk=>m-k) k ⟨g,rfl,o⟩ ?_;rintro k ⟨e,ms⟩ ⟨H,lo⟩ ⟨g,a,j⟩;subst a;refine wp_mono (l k g e H lo j _ rfl) ?_;intro ex fr E h;cases ex with
 |normal=>
  obtain⟨r,q,p⟩:=h
  grind
 |_=>exact h
section
variable{S:Type}{I:S->Env->List ae->Prop}{μ:S->Nat}{s:S}{Q:bQ}
end
def Ic(X:Ctx)(f:FuncId)(rd:Bool)(b:PC)(Q:bQ):bQ
 |.normal,fr,E=>wp X f rd (.loop b) fr E Q
 |ex,fr,E=>Q ex fr E
section
variable{X:Ctx}{f:FuncId}{rd:Bool}{b:PC}{fr:Fr}{E:AS}{Q:bQ}{i:Nat}{v:AV}
theorem aeb:Ic X f rd b Q .normal fr E=wp X f rd (.loop b) fr E Q:=rfl
theorem aec:Ic X f rd b Q (.exit i) fr E=Q (.exit i) fr E:=rfl
theorem aed:Ic X f rd b Q .ret fr E=Q .ret fr E:=rfl
theorem aee:Ic X f rd b Q (.panic v) fr E=Q (.panic v) fr E:=rfl
end
theorem aef{a:Env}:wo e [] a=a:=rfl
theorem aeg{g:Env}{a:lN}:wo e (t::a) g=(wo e a g).set t (e t):=rfl
def aeh{p:Prop}[Decidable p]: (!decide p)=decide (¬p):=by simp
theorem aei:gq []=[]:=rfl
theorem aej{i:I}{os:List aO}:gq (o a i::os)=a::gq os:=rfl
theorem aek{i:I}{os:List aO}:gq (u i::os)=gq os:=rfl
theorem ael{i:I}{os:List aO}:gq (gt t (some a) i::os)=a::gq os:=rfl
theorem aem{i:I}{os:List aO}:gq (gf t (some a) i::os)=a::gq os:=rfl
theorem aen{i:I}{os:List aO}:gq (gt t none i::os)=gq os:=rfl
theorem aeo{i:I}{os:List aO}:gq (gf t none i::os)=gq os:=rfl
theorem aep{i:I}{os:List aO}:gq (⟨none,some a,i⟩::os)=a::gq os:=rfl
theorem aeq{i:I}{os:List aO}:gq (⟨none,none,i⟩::os)=gq os:=rfl
theorem aer:sb [] t=false:=rfl
theorem aes{as:lN}:sb (a::as) t=(a==t||sb as t):=rfl
def ff: (false=true)=False:=by simp
def tt: (true=true)=True:=by simp
def C1:=gG @aca<|gG @ad8<|gG @ad9<|gG @aea<|gG @aeb<|gG @aec<|gG @aed<|gG @aee<|gG @ad4<|gG @ad5<|gG @ad6<|gG @ad7<|gG @ab6<|gG @ab7<|gG @arG<|gG @arK<|gG @azc<|gG @anz<|gG @aef<|gG @aeg<|gG @aeh<|gG @aei<|gG @aej<|gG @aek<|gG @ael<|gG @aem<|gG @aen<|gG @aeo<|gG @aep<|gG @aeq<|gG @aer<|gG @aes<|gG @ff @ab8
def aF{X:Ctx}(pf:PF){args:lA}{H:List ae}{a:aS}
 (h: ∀n,H.length=n->wp X f false pf.body ⟨cZ args,[]⟩ ⟨H,none⟩ (dn X n lo pf.results (· =a))) (g:X.bU f=none:=by exact rfl) (k:X.code f=some pf:=by exact rfl) (j:Nat.ble args.length pf.ntmps=true:=by exact rfl):D X (.fn (.func f) [] []) args ⟨H,lo⟩=some a:=OM pf g k j h
def cz{X:Ctx}(pf:PF){args:lA}{H:List ae}{R:aS->Prop}
 (h: ∀n,H.length=n->wp X f false pf.body ⟨cZ args,[]⟩ ⟨H,none⟩ (dn X n lo pf.results R)) (g:X.bU f=none:=by exact rfl) (k:X.code f=some pf:=by exact rfl) (j:Nat.ble args.length pf.ntmps=true:=by exact rfl): ∃a,D X (.fn (.func f) [] []) args ⟨H,lo⟩=some a/\R a:=aqG pf g k j h
def eP{X:Ctx}(pf:PF){args cap:lA}{H:List ae}{a:aS}
 (h: ∀n,H.length=n->wp X f false pf.body ⟨cZ (args++cap),[]⟩ ⟨H,none⟩ (dn X n lo pf.results (· =a))) (g:X.bU f=none:=by exact rfl) (k:X.code f=some pf:=by exact rfl) (j:Nat.ble (args++cap).length pf.ntmps=true:=by exact rfl):D X (.fn (.func f) [] cap) args ⟨H,lo⟩=some a:=aqM pf g k j h
section
variable{P:Program}{X:Ctx}{B:Nat}{av:World}{cS:List Deferred}
section
variable{C:bu}(hC:fG P B av C)(hg:fo X B av){r:oN}{n nt:Nat}{rows:Bool}
include hC hg
theorem O5{c:Array Oper}(k:lN): ∀ (os:List Oper) (is:lN) (l:List aO),is.map (c[·]?)=os.map some->kO P rows c os=some l->(∀x∈l,∀d,x.dst=some d->d<nt)->
  ∀ (G:Gh) (E:AS) (w:World) (fr:Fr) (a:Act) (res:Ex×Fr×AS) (Q:Exit->Act->World->Prop),aU P B av G E w->cD G nt fr.env a.tmps->fZ cS G fr.marks a.defers->eD X C l fr E=some res->
  (∀a w,res.1= .normal->mj P B av cS G E nt res .normal a w->wpOpsIn (W r) n P c Q k a w)->(∀e a w,res.1≠ .normal->mj P B av cS G E nt res e a w->Q e a w)->wpOpsIn (W r) n P c Q (is++k) a w
 | [],is,l,q,p,s,G,E,w,fr,a,res,Q,hw,he,hm,j,A,z=>by
   have:is=[]:=by simp_all
   subst this;simp only[kO,afh]at p;subst p;simp only[eD,afh]at j;subst j;exact A _ _ rfl ⟨G,G.le_refl,hw,he,hm,.refl E,trivial⟩
 |o::os,is,l,q,p,s,G,E,w,fr,a,res,Q,hw,he,hm,j,A,z=>by
  cases is with
  |nil=>grind
  |cons i is=>
   simp only[anw,azp]at q;obtain⟨H,q⟩:=q;simp only[kO]at p;split at p
   ·rename_i x xs g t;cases p;simp only[akr,wpOpsIn,H];have I:guardOf c o=some x.g:=by
     unfold ic at g;split at g
     ·rename_i J;cases g;exact J
     ·cases g
    have u:x.dst=o.dst:=by
     unfold ic at g;split at g
     ·cases g;rfl
     ·cases g
    have F:=yd he I;simp only[eD]at j;rw[F];split at j
    ·rename_i m;rw[afl m];split at j
     ·rename_i v N hex;refine ye hC hg g (s x (by simp)) hw he hm hex (λb f e Y a' w' M J K U T=>?_) (λb f e=>by cases e);cases e;exact O5 k os is xs q t (λy D=>s y (by simp[D])) Y N w' _ a' res Q J U T j (λa w e h=>A a w e (h.trans M K)) (λe a w V h=>z e a w V (h.trans M K))
     ·rename_i v N hex;cases j;exact ye hC hg g (s x (by simp)) hw he hm hex (λb f e=>by cases e) (λb f e Z a' w' h=>by cases e;exact z _ _ _ (by simp) h)
     ·cases j
    ·rename_i m;rw[afi m];refine⟨λ_ _=>trivial,?_⟩;obtain⟨S,R,O⟩:=qx (a:=a) he (s x (by simp)) (v:=.undef) (v':=undef) yc;rw[<-u];exact O5 k os is xs q t (λy D=>s y (by simp[D])) G E w _ _ res Q hw S (by rw[R,O];exact hm) j A z
   grind
end
structure wq where
 dst:Nat
 pf:PF
 deriving Inhabited
def aet(o:Oper):Bool:=match o.op with
 |.call c=>match c.callee,c.args.toList,o.guard with
  |.builtin .recover,[],none=>true
  |_,_,_=>false
 |_=>false
def O6(o:Oper):Bool:=match o.op,o.guard with
 |.move _,none=>true
 |.assign _,none=>true
 |_,_=>false
def aeu(P:Program)(rows:Bool)(nt:Nat):Code->Option (Nat×PC)
 |.seq (.region _ ops false) b=>match ops.toList with
  |o::os=>match o.dst,kO P rows ops os,eF P rows nt b with
   |some d,some xs,some a=>if aet o=true/\os.all O6=true/\d<nt/\xs.all (λx=>match x.dst with|some d=>d<nt|none=>true)then some (d,.seq (.aL xs) a)else none
   |_,_,_=>none
  | []=>none
 |_=>none
def AJ(P:Program)(rows:Bool)(fn:Func):Option wq:=
 match fn.body with
 |some c=>match aeu P rows fn.ntmps c,oX P fn.results.toList with
  |some (d,b),some rs=>if(fn.name != "runtime.NumGoroutine")then some ⟨d,{ntmps:=fn.ntmps,results:=rs,body:=b}⟩else none
  |_,_=>none
 |none=>none
noncomputable def Ie(X:Ctx)(C:bu)(L:ed)(g:FuncId)(pr:wq)(args:lA)(rv:AV)(E:AS):Option AS:=
 if args.length<=pr.pf.ntmps then
  match aX X C L g false pr.pf.body {env:=(cZ args).set pr.dst rv,marks:=[]} {E with lo:=none}with
  |some (.normal,⟨e,[]⟩,a)=>(fk X a e pr.pf.results).map λv=>(finish E.heap.length E.lo v a).2
  |some (.ret,⟨e,[]⟩,a)=>(fk X a e pr.pf.results).map λv=>(finish E.heap.length E.lo v a).2
  |_=>none
 else none
def aev(G:Gh)(u:FrameMode)(rv:AV):Prop:=
 (u= .returning/\rv= .ew)\/ ∃v',u= .panicking [{v:=v',recovered:=false}]/\an G rv v'
section
variable{C:bu}(hC:fG P B av C)(hg:fo X B av)(hX:o5 P X)(gn:Aq P X B av){L:ed}(hL:yf L)
include hC hg hX gn hL
omit hC hg hX gn hL in
theorem aew{n nt:Nat}{rows:Bool}{b:Array Oper}{cs:List Frame}: ∀ (os:List Oper) (is:lN) (l:List aO),is.map (b[·]?)=os.map some->kO P rows b os=some l->os.all O6=true->(∀x∈l,∀d,x.dst=some d->d<nt)->
  ∀ (G:Gh) (E:AS) (w:World) (fr:Fr) (a:Act) (Q:Exit->Act->List Frame->World->Prop) (res:Ex×Fr×AS),aU P B av G E w->cD G nt fr.env a.tmps->fZ [] G fr.marks a.defers->eD X C l fr E=some res->
  (∀a' m,res=(.normal,m,E)->cD G nt m.env a'.tmps->fZ [] G m.marks a'.defers->Q .normal a' cs w)->wpOpsSIn (W none) n P b Q is a cs w
 | [],is,l,k,h,_,J,G,E,w,fr,a,Q,res,hw,he,hm,q,K=>by
   have:is=[]:=by simpa using k
   subst this;simp only[kO,afh]at h;subst h;simp only[eD,afh]at q;exact K a fr q.symm he hm
 |o::os,is,l,k,h,e,J,G,E,w,fr,a,Q,res,hw,he,hm,q,K=>by
  cases is with
  |nil=>simp at k
  |cons i is=>
   simp only[anw,azp]at k;obtain⟨I,k⟩:=k;simp only[awi,aiq]at e;obtain⟨j,e⟩:=e;simp only[kO]at h;split at h
   ·rename_i x xs c D;cases h;have s: (∃z,(o.op= .move z\/o.op= .assign z))/\o.guard=none:=by
     unfold O6 at j;split at j
     ·rename_i z v u;exact⟨⟨_,.inl v⟩,u⟩
     ·rename_i z v u;exact⟨⟨_,.inr v⟩,u⟩
     ·cases j
    obtain⟨⟨z,f⟩,t⟩:=s;have F: ∃y,bJ z=some y/\x={g:=none,dst:=o.dst,i:=.mov y}:=by
     unfold ic at c;have v:guardOf b o=some none:=by unfold guardOf;rw[t]
     rw[v]at c;have u:kN P rows o=(bJ z).map .mov:=by
      rcases f with f|f<;>simp only[kN,f]
     rw[u]at c;cases A:bJ z with
     |none=>rw[A]at c;cases c
     |some y=>rw[A]at c;cases c;exact⟨y,rfl,rfl⟩
    obtain⟨y,A,rfl⟩:=F;have p: (execOp a.eval o).run P w= .ok (.value (a.eval z)) w:=by
     rcases f with f|f<;>(unfold execOp;simp only[f];rfl)
    simp only[wpOpsSIn,I];have H:Region.wanted o (yielded b a.tmps)=true:=by simp[Region.wanted,t]
    rw[afl H,p];refine⟨λ_ _=>trivial,?_⟩;simp only[eD,fK,aiH,exec]at q;obtain⟨O,N,M⟩:=qx (a:=a) (dst:=o.dst) he (J {g:=none,dst:=o.dst,i:=.mov y} (by simp)) (cu he A);exact aew os is xs k D e (λx c=>J x (by simp[c])) G E w _ _ Q res hw O (by rw[N,M];exact hm) q K
   ·cases h
theorem aqO{g:FuncId}{fn:Func}{pr:wq}{rows:Bool}(hfn:P.funcs[g]?=some fn)(q:AJ P rows fn=some pr){args:lA}{E f:AS}{rv:AV}
  (h:Ie X C L g pr args rv E=some f) {G:Gh}  {a:Array Value} (hw:aU P B av G E w) (hl:aD G args a.toList) {u:FrameMode} (hu:aev G u rv):
  CallsDIn (W none) n P g a u w (λe A w'=>settle A= .returning/\ ∃v K,e= .returned v/\G.le K/\aU P B av K f w'/\E.Ext f):=by
 unfold AJ at q;split at q
 case h_2=>grind
 rename_i c hb;split at q
 case h_2=>grind
 rename_i d b rs p hrs;split at q
 case isFalse=>grind
 cases q;unfold aeu at p;split at p
 case h_2=>cases p
 rename_i id ops b';split at p
 case h_2=>cases p
 rename_i o os y;split at p
 case h_2=>cases p
 rename_i d' xs pb O7 wu hpb;split at p
 case isFalse=>cases p
 rename_i U;cases p;obtain⟨I,hmv,hdn,uA⟩:=U;unfold Ie at h;split at h
 case isFalse=>cases h
 rename_i z;simp only at z h;cases H:aX X C L g false (.seq (.aL xs) pb) {env:=(cZ args).set d rv,marks:=[]} {E with lo:=none}with
 |none=>rw[H]at h;cases h
 |some res=>
 have k:=H;simp only[aX]at k;cases s:eD X C xs {env:=(cZ args).set d rv,marks:=[]} {E with lo:=none}with
 |none=>rw[s]at k;cases k
 |some Y=>
 rw[s]at k;refine callsDIn_of_wpSIn hfn hb trivial λl cs T=>?_
 refine wpSIn_seq (wpSIn_region ?_);have aCV:0<ops.size:=by rw[<-anr,y];simp
 have M:List.range ops.size=0:: (List.range' 1 (ops.size-1)):=by
  rw[aAl,show ops.size=(ops.size-1)+1 by omega,List.range'_succ];simp
 have h0:ops[0]?=some o:=by rw[<-arf,y];rfl
 rw[M];simp only[wpOpsSIn,h0];have aqU: (∃c,o.op= .call c/\c.callee= .builtin .recover/\c.args.toList=[])/\o.guard=none:=by
  unfold aet at I;split at I
  ·rename_i c R;split at I
   ·rename_i h1 h2 h3;exact⟨⟨c,R,h1,h2⟩,h3⟩
   ·cases I
  ·cases I
 obtain⟨⟨cc,R,O8,aCW⟩,ig⟩:=aqU;have O9: ∀t:Array Value,Region.wanted o (yielded ops t)=true:=λt=>by simp[Region.wanted,ig]
 have S: ∀ρ,(execOp ρ o).run P w= .ok .recover w:=by
  intro ρ;unfold execOp;simp only[R,resolve,O8];simp[invoke,builtin]
 rw[afl (O9 _),S];refine⟨λ_ _=>trivial,?_⟩;have he0:cD G fn.ntmps (cZ args) (a++Array.replicate (fn.ntmps-a.size) undef):=Hp hl z;have Pa: (List.range' 1 (ops.size-1)).map (ops[·]?)=os.map some:=by
  apply aoI;intro j;have hos:os.length=ops.size-1:=by
   have:ops.toList.length=os.length+1:=by rw[y];rfl
   rw[anr]at this;omega
  by_cases hj:j<os.length
  ·have e1: (List.range' 1 (ops.size-1))[j]?=some (1+j):=by
     rw[List.getElem?_range' (by omega)];simp
   simp only[aiG,e1,ag0,afu hj];rw[<-arf,y,Nat.add_comm,aza,afu hj]
  ·rw[ane (by simp;omega),ane (by simp;omega)]
 have aqW: ∀x∈xs,∀d,x.dst=some d->d<fn.ntmps:=by
  intro x hx d Z;have:=ag6.1 uA x hx;rw[Z]at this;simpa using this
 have key: ∀ (v':Value) (N:List Frame) (A:FrameMode),an G rv v'->settle A= .returning->N={l with mode:=A}::cs->
   wpOpsSIn (W none) n P ops (Exit.thenS (b'.wpSIn (W none) n P (bodyPostS P fn l cs (λe A w'=>settle A= .returning/\ ∃v K,e= .returned v/\G.le K/\aU P B av K f w'/\E.Ext f))) (bodyPostS P fn l cs (λe A w'=>settle A= .returning/\ ∃v K,e= .returned v/\G.le K/\aU P B av K f w'/\E.Ext f)))
    (List.range' 1 (ops.size-1)) (Act.put {tmps:=a++Array.replicate (fn.ntmps-a.size) undef,defers:=[]} o.dst v') N w:=by
  intro v' N A hv O Hj;rw[O7];have he1:cD G fn.ntmps ((cZ args).set d rv) (Act.put {tmps:=a++Array.replicate (fn.ntmps-a.size) undef,defers:=[]} (some d) v').tmps:=he0.set hdn hv;refine aew os _ xs Pa wu hmv aqW G {E with lo:=none} w {env:=(cZ args).set d rv,marks:=[]} _ _ Y (hw.lo none) he1 rfl s (λa1 Ig Q he2 hm2=>?_);subst Q;simp only at k;simp only[Exit.thenS];refine wpSIn_of_wpIn rfl (wb hC hg hX gn hL (r:=none) rfl b' pb hpb G {E with lo:=none} w Ig a1 res _ (hw.lo none) he2 hm2 k (λe a2 w2 aq0=>?_));obtain⟨G2,q1,q2,q3,q4,q5,q6⟩:=aq0;obtain⟨ex,⟨e2,ms⟩,V⟩:=res;rw[H]at h;have fin:ms=[]->(∃v,fk X V e2 rs=some v/\ (finish E.heap.length E.lo v V).2=f)->(e= .normal\/e= .ret)->bodyPostS P fn l cs (λe A w'=>settle A= .returning/\ ∃v K,e= .returned v/\G.le K/\aU P B av K f w'/\E.Ext f) e a2 N w2:=by
   intro hms ⟨v,F,D⟩ hee;subst hms;obtain⟨v2,r1,r2⟩:=Dh hg q2 q3 hrs F;obtain⟨G3,p1,p2,p3,p4⟩:=yb hw q1 q2 q5 r2;rw[D]at p2 p4;have hd2:a2.defers=[]:=q4;rcases hee with rfl|rfl
   ·exact⟨hd2,A,Hj,v2,r1,O,v2,G3,rfl,p1,p2,p4⟩
   ·exact⟨hd2,A,Hj,v2,r1,O,v2,G3,rfl,p1,p2,p4⟩
  cases ex with
  |normal=>
   cases ms with
   |cons m ms=>cases h
   |nil=>
    obtain⟨v,F,D⟩:=agY.1 h;cases e<;>simp[fH]at q6;exact fin rfl ⟨v,F,D⟩ (.inl rfl)
  |ret=>
   cases ms with
   |cons m ms=>cases h
   |nil=>
    obtain⟨v,F,D⟩:=agY.1 h;cases e<;>simp[fH]at q6;exact fin rfl ⟨v,F,D⟩ (.inr rfl)
  |exit i=>cases h
  |panic v=>cases h
 rcases hu with⟨rfl,rfl⟩| ⟨v',rfl,hv⟩
 ·have J:recoverD (l::cs)=none:=by simp[recoverD,T]
  simp only[J];refine key .nilIface (l::cs) .returning (by simp[an]) rfl ?_;rw[<-T]
 ·have J:recoverD (l::cs)=some (v',{l with mode:=.panicking [{v:=v',recovered:=true}]}::cs):=by simp[recoverD,T]
  simp only[J];exact key v' _ _ hv rfl rfl
end
end
section
variable{P:Program}{X:Ctx}{B:Nat}{av:World}{cS:List Deferred}
inductive DH where
 |here(ops:List aO)(kX:ao)(fw:List ao)(rest:PC)
 |later(pre:PC)(d:DH)
 deriving Inhabited
structure uG where
 ntmps:Nat
 results:List RV
 body:DH
 deriving Inhabited
def aey(P:Program)(rows:Bool)(nt:Nat):Code->Option (List aO×ao×List ao)
 |.region _ ops false=>match ops.toList.getLast? with
  |some o=>match o.op,o.guard,o.dst with
   |.defer c,none,none=>match c.callee with
    |.value f=>match kO P rows ops ops.toList.dropLast,bJ f,nL c.args.toList with
     |some xs,some a,some as=>if xs.all (λx=>match x.dst with|some d=>d<nt|none=>true)then some (xs,a,as)else none
     |_,_,_=>none
    |_=>none
   |_,_,_=>none
  |none=>none
 |_=>none
def DI(P:Program)(rows:Bool)(nt:Nat):Code->Option DH
 |.seq a b=>match aey P rows nt a with
  |some (xs,f,as)=>(eF P rows nt b).map (.here xs f as)
  |none=>match eF P rows nt a,DI P rows nt b with
   |some d,some c=>some (.later d c)
   |_,_=>none
 |_=>none
def AK(P:Program)(rows:Bool)(fn:Func):Option uG:=
 match fn.body with
 |some c=>match DI P rows fn.ntmps c,oX P fn.results.toList with
  |some b,some rs=>if(fn.name != "runtime.NumGoroutine")then some {ntmps:=fn.ntmps,results:=rs,body:=b}else none
  |_,_=>none
 |none=>none
def AV.Ih:AV->Bool
 |.fn .. =>true
 |_=>false
noncomputable def wv(X:Ctx)(C:bu)(L:ed)(bO:FuncId):DH->Fr->AS->Option (Option (AV×lA)×(Ex×Fr×AS))
 |.here ops a c rest,fr,E=>match eD X C ops fr E with
  |some (.normal,⟨e,[]⟩,f)=>if(a.get e).Ih then(aX X C L bO false rest ⟨e,[]⟩ f).map λr=>(some (a.get e,c.map (·.get e)),r)else none
  |some (.normal,_,_)=>none
  |some r=>some (none,r)
  |none=>none
 |.later pre d,fr,E=>match aX X C L bO false pre fr E with
  |some (.normal,b,f)=>wv X C L bO d b f
  |some r=>some (none,r)
  |none=>none
abbrev o8:=FuncId->Option wq
noncomputable def AL(X:Ctx)(C:bu)(L:ed)(R:o8)(b:AV)(a:lA)(rv:AV)(E:AS):Option AS:=
 match b with
 |.fn (.func g) first cap=>(R g).bind λpr=>Ie X C L g pr (first++a++cap) rv E
 |_=>none
def Ex.Pb:Ex->Option AV
 |.normal=>some .ew
 |.ret=>some .ew
 |.panic v=>some v
 |.exit _=>none
noncomputable def Pc(X:Ctx)(C:bu)(L:ed)(R:o8)(n:Nat)(dx:oN)(c:uG):Option (Option (AV×lA)×(Ex×Fr×AS))->Option aS
 |some (none,r)=>leave X n dx {ntmps:=c.ntmps,results:=c.results,body:=.skip} (some r)
 |some (some (tv,d),(ex,fr,E))=>match ex.Pb,dy E fr.marks with
  |some rv,some b=>(AL X C L R tv d rv b).bind λa=>(fk X a fr.env c.results).map λv=>.ret (finish n dx v a).1 (finish n dx v a).2
  |_,_=>none
 |none=>none
noncomputable def wx(X:Ctx)(C:bu)(L:ed)(R:o8)(f:FuncId)(a:uG)(args:lA)(E:AS):Option aS:=
 if args.length<=a.ntmps then Pc X C L R E.heap.length E.lo a (wv X C L f a.body {env:=cZ args,marks:=[]} {E with lo:=none})else none
def Pd(P:Program)(R:o8):Prop:= ∀g pr,R g=some pr-> ∃rows fn,P.funcs[g]?=some fn/\AJ P rows fn=some pr
section
variable{C:bu}(hC:fG P B av C)(hg:fo X B av)(hX:o5 P X)(gn:Aq P X B av){L:ed}(hL:yf L)
include hC hg hX gn hL
theorem aq3{rows:Bool}{nt:Nat}{bO:FuncId}: ∀ (c:Code) (pd:DH),DI P rows nt c=some pd->
  ∀ (G:Gh) (E:AS) (w:World) (fr:Fr) (a:Act) (O:Option (AV×lA)) (r:Ex×Fr×AS) (Q:Exit->Act->World->Prop),aU P B av G E w->cD G nt fr.env a.tmps->fZ [] G fr.marks a.defers->wv X C L bO pd fr E=some (O,r)->
  (O=none-> ∀e a w,mj P B av [] G E nt r e a w->Q e a w)->
  (∀tv J,O=some (tv,J)-> ∀A s G1,G.le G1->an G1 tv A->aD G1 J s.toList-> ∀d,(∀w:World,(Deferred.ofValue A s).run P w= .ok d w)-> ∀e a w,mj P B av [d] G1 E nt r e a w->Q e a w)->c.wpIn (W none) n P Q a w:=by
 intro c
 induction c with
 |seq x y ihx ihy=>
  intro pd h G E w fr a O r Q hw he hm i hN hD;rw[DI]at h;split at h
  ·rename_i xs f' as g;obtain⟨rest,M,rfl⟩:=agY.1 h;unfold aey at g;split at g
   case h_2=>cases g
   rename_i id ops;split at g
   case h_2=>cases g
   rename_i o v;split at g
   case h_2=>cases g
   rename_i cc o7 ig O7;split at g
   case h_2=>cases g
   rename_i fop O8;split at g
   case h_2=>cases g
   rename_i xs' f'' Ho wu hfo has;split at g
   case isFalse=>cases g
   rename_i ux;cases g;have hd: ∀x∈xs,∀d,x.dst=some d->d<nt:=by
    intro x hx d uA;have:=ag6.1 ux x hx;rw[uA]at this;simpa using this
   have q:ops.toList=ops.toList.dropLast++[o]:=by
    rw[List.getLast?_eq_some_iff]at v;obtain⟨ys,Pe⟩:=v;rw[Pe];simp
   have r0:ops.size=ops.toList.dropLast.length+1:=by
    rw[<-anr];conv=>lhs;rw[q]
    simp
   have D:List.range ops.size=List.range (ops.size-1)++[ops.size-1]:=by
    conv=>lhs;rw[show ops.size=(ops.size-1)+1 by omega,aqZ]
   have Pa: (List.range (ops.size-1)).map (ops[·]?)=ops.toList.dropLast.map some:=by
    apply aoI;intro j;by_cases hj:j<ops.toList.dropLast.length
    ·have e1: (List.range (ops.size-1))[j]?=some j:=by rw[aq1 (by omega)]
     simp only[aiG,e1,ag0,afu hj];rw[<-arf]
     conv=>lhs;rw[q]
     rw[aez hj,afu hj]
    ·rw[ane (by simp;simp at hj;omega),ane (by simpa using hj)]
   have H:ops[ops.size-1]?=some o:=by
    rw[<-arf]
    conv=>lhs;rw[q]
    rw[ag8 (by omega)];rw[show ops.size-1-ops.toList.dropLast.length=0 by omega];rfl
   refine aAY (wpIn_region ?_);rw[D];simp only[wv]at i;cases b:eD X C xs fr E with
   |none=>rw[b]at i;cases i
   |some k=>
   refine O5 hC hg [ops.size-1] _ _ xs Pa wu hd G E w fr a k _ hw he hm b (λl w1 F f=>?_) (λe l w1 F f=>?_)
   ·obtain⟨ex,⟨e1,ms⟩,t⟩:=k;simp only at F;subst F;obtain⟨G1,q1,q2,S,q4,q5,q6⟩:=f;rw[b]at i;cases ms with
    |cons m ms=>cases i
    |nil=>
    simp only at i;split at i
    case isFalse=>cases i
    rename_i z;obtain⟨r',Pf,AM⟩:=agY.1 i;cases AM;have Pg:l.defers=[]:=q4;have aq6:=x5 S has;have I:=cu S hfo;simp only[wpOpsIn,H];have O9:Region.wanted o (yielded ops l.tmps)=true:=by simp[Region.wanted,ig]
    rw[afl O9];refine⟨λ_ _=>trivial,?_⟩;have Dp:o.semAt (W none).round l.eval=execOp l.eval o:=Oper.semAt_none _ _;rw[Dp];have aq7: ∀d,(∀w:World,(Deferred.ofValue (l.eval fop) (cc.args.map l.eval)).run P w= .ok d w)->(execOp l.eval o).run P w1= .ok (.defer d) w1:=by
     intro d u;unfold execOp;simp only[o7,resolve,O8];rw[Sem.run_bind,u w1];rfl
    have aq8: ∃d,∀w:World,(Deferred.ofValue (l.eval fop) (cc.args.map l.eval)).run P w= .ok d w:=by
     cases htv:f'.get e1<;>rw[htv]at z<;>simp only[AV.Ih,agX]at z;rw[htv]at I;simp only[an]at I;obtain⟨f0,fs0,Ph,hfe,_⟩:=I;rw[hfe];exact⟨_,λw=>rfl⟩
    obtain⟨d,u⟩:=aq8;rw[aq7 d u];simp only[Oper.uponIn,O7,Act.put,Pg];refine wb hC hg hX gn hL (r:=none) (cS:=[d]) rfl y rest M G1 t w1 ⟨e1,[]⟩ {l with defers:=[d]} r _ q2 S rfl Pf (λe a2 R p=>?_);refine hD _ _ rfl _ _ G1 q1 I (by simpa using aq6) d u e a2 R ?_;obtain⟨G2,Z,Y,V,U,T,K⟩:=p;exact⟨G2,Z,Y,V,U,q5.trans T,K⟩
   ·rw[b]at i;obtain⟨ex,⟨e1,ms⟩,t⟩:=k;have N:some (none,(ex,⟨e1,ms⟩,t))=some (O,r):=by
     cases ex with
     |normal=>exact absurd rfl F
     |_=>exact i
    cases N;have N:=hN rfl e l w1 f;obtain⟨G2,Z,Y,V,U,T,K⟩:=f;cases e<;>first|exact N| (exfalso;cases ex<;>simp[fH]at K;exact F rfl)
  ·split at h
   ·rename_i px pd' hx hy;cases h;simp only[wv]at i;cases b:aX X C L bO false px fr E with
    |none=>rw[b]at i;cases i
    |some k=>
    rw[b]at i;obtain⟨ex,Ig,t⟩:=k;by_cases F:ex= .normal
    ·subst F;simp only at i;refine aAY (wb hC hg hX gn hL (r:=none) rfl x px hx G E w fr a _ _ hw he hm b (λe l w1 f=>?_));obtain⟨G1,q1,q2,S,q4,q5,q6⟩:=f;cases e<;>simp[fH]at q6;refine ihy pd' hy G1 t w1 Ig l O r Q q2 S q4 i (λarb e a2 R hh=>hN arb e a2 R (hh.trans q1 q5)) (λtv J u A s G2 hG2 hv hl d hd e a2 R p=>?_);refine hD tv J u A s G2 (Gh.le_trans q1 hG2) hv hl d hd e a2 R ?_;obtain⟨G3,Z,Y,V,U,T,K⟩:=p;exact⟨G3,Z,Y,V,U,q5.trans T,K⟩
    ·have N:some (none,(ex,Ig,t))=some (O,r):=by
       cases ex with
       |normal=>exact absurd rfl F
       |_=>exact i
     cases N;refine aAY (wb hC hg hX gn hL (r:=none) rfl x px hx G E w fr a _ _ hw he hm b (λe l w1 f=>?_));have N:=hN rfl e l w1 f;obtain⟨G2,Z,Y,V,U,T,K⟩:=f;cases e<;>first|exact N| (exfalso;cases ex<;>simp[fH]at K;exact F rfl)
   ·cases h
 |_=>intro pd h;simp[DI]at h
omit hC hX gn hL in
theorem ard{fn:Func}{G:Gh}{E:AS}{w':World}{r:Ex×Fr×AS}{k:aS}{e:Exit}{a:Act}(g:oX P fn.results.toList=some pf.results)(y:aU P B av G E w)
  (h:leave X E.heap.length E.lo pf (some r)=some k) (F:mj P B av [] G {heap:=E.heap,lo:=none} fn.ntmps r e a w'):bodyPostM (W none) 0 P fn (Ends P B av G E k) e a w':=by
 obtain⟨H,x,u,A,t,s,j⟩:=F;obtain⟨ex,fr,q⟩:=r;have f:qw X E.heap.length E.lo pf fr q=some k->LeavesInM (W none) 0 P fn a.tmps (Ends P B av G E k) a.defers .returning w':=by
  intro h;unfold qw at h;split at h
  ·rename_i d i;split at h
   ·rename_i v D;cases h;refine yh (by simp) fr.marks a.defers q d w' t u i (λl b=>?_);obtain⟨v',e1,z⟩:=Dh hg b A g D;refine⟨v',e1,?_⟩;obtain⟨c,p,o,n,m⟩:=yb y x b (s.trans (yg _ _ _ i)) z;exact⟨c,p,o,n,m⟩
   ·cases h
  ·cases h
 cases ex with
 |normal=>cases e<;>simp[fH]at j;exact f h
 |ret=>cases e<;>simp[fH]at j;exact f h
 |exit id=>simp[leave]at h
 |panic v=>
  cases e<;>simp[fH]at j;rename_i chain;obtain⟨v',rfl,rv⟩:=j;simp only[leave]at h;split at h
  ·rename_i d i;cases h;refine yh (by simp) fr.marks a.defers q d w' t u i (λl b=>?_);obtain⟨c,p,o,n,m⟩:=yb y x b (s.trans (yg _ _ _ i)) rv;exact⟨c,v',rfl,p,o,n,m⟩
  ·cases h
theorem are{R:o8}(hR:Pd P R){fn:Func}{pd:uG}{rows:Bool}(O:P.funcs[f]?=some fn)(n:AK P rows fn=some pd):ga P B av f (wx X C L R f pd):=by
 intro args E cr h G w l hw hl;unfold AK at n;split at n
 case h_2=>grind
 rename_i c hb;split at n
 case h_2=>grind
 rename_i bd rs D y;split at n
 case isFalse=>grind
 rename_i aC2;cases n;unfold wx at h;split at h
 case isFalse=>cases h
 rename_i q;simp only at q h;have x: ¬fn.name= "runtime.NumGoroutine" :=by grind
 have Q: (callFunc f l).run P w= .ok (.enter f l) w:=by
  simp[callFunc,arC,O,x,hb]
 rw[Q];show CallsIn (W none) 0 P f l w _;have he:cD G fn.ntmps (cZ args) (l++Array.replicate (fn.ntmps-l.size) undef):=Hp hl q;cases t:wv X C L f bd {env:=cZ args,marks:=[]} {E with lo:=none}with
 |none=>rw[t]at h;cases h
 |some res=>
 obtain⟨dr,r⟩:=res;rw[t]at h;refine azk O hb trivial (aq3 hC hg hX gn hL c bd D G {E with lo:=none} w {env:=cZ args,marks:=[]} _ dr r _ (hw.lo none) he rfl t ?_ ?_) rfl
 ·rintro rfl e a w' hr;exact ard hg (pf:={ntmps:=fn.ntmps,results:=rs,body:=.skip}) y hw h hr
 ·rintro tv T rfl tv' m G1 hG1 hv hld d hd e a w' ⟨G',Y,q2,q3,q4,q5,V⟩;obtain⟨ex,fr,I⟩:=r;simp only[Pc]at h;have az: ∀ (rv:AV) (j:AS) (u:FrameMode),dy I fr.marks=some j->aev G' u rv->u≠ .run->
    ((AL X C L R tv T rv j).bind λs=>(fk X s fr.env rs).map λv=>aS.ret (finish E.heap.length E.lo v s).1 (finish E.heap.length E.lo v s).2)=some cr->
    LeavesInM (W none) 0 P fn a.tmps (Ends P B av G E cr) a.defers u w':=by
   intro rv j u o A hu hcr;refine yh hu fr.marks a.defers I j w' q4 q2 o (λw'' J=>?_);obtain⟨s,p,N⟩:=ao9.1 hcr;obtain⟨v,hv1,rfl⟩:=agY.1 N;unfold AL at p;split at p
   case h_2=>cases p
   rename_i g first cap
   obtain⟨pr,hpr,AM⟩:=ao9.1 p;obtain⟨apb,S,z,b⟩:=hR g pr hpr;have hgb: ∃Z,S.body=some Z/\ ¬S.name= "runtime.NumGoroutine" :=by
    unfold AJ at b;split at b
    case h_2=>cases b
    rename_i Z F;split at b
    case h_2=>cases b
    split at b
    case isFalse=>cases b
    rename_i hn;exact⟨Z,F,by simpa using hn⟩
   obtain⟨Z,F,hgn⟩:=hgb;have K:=hv;simp only[an,kR]at K;obtain⟨f',i,k,rfl,rfl,hf,hc⟩:=K;have yn:d={target:=.fn (.func g) k,args:=i++m}:=by
    have h1:=hd w;have h2: (Deferred.ofValue (.func (.func g) i k) m).run P w= .ok {target:=.fn (.func g) k,args:=i++m} w:=rfl;rw[h2]at h1;simpa using h1.symm
   subst yn;have H:aD G' (first++T++cap) (i++m++k).toList:=by
    simp only[Array.toList_append];exact((hf.mono Y).append (hld.mono Y)).append (hc.mono Y)
   refine⟨hu,.inr ⟨λh=>by simp[W]at h,.func g,k,g,i++m++k,rfl,?_,λ_ _=>trivial,?_⟩⟩
   ·show(callFunc g (i++m++k)).run P w''=_;simp[callFunc,arC,z,hgn,F]
   ·refine(aqO hC hg hX gn hL z b AM J H A).mono ?_;rintro e2 u2 w3 ⟨M,v3,G3,rfl,g1,g2,g3⟩;show LeavesInM (W none) 0 P fn a.tmps _ [] (settle u2) w3;rw[M];obtain⟨v',e1,r1⟩:=Dh hg g2 (q3.mono g1) y hv1;refine⟨v',e1,?_⟩;obtain⟨U,p1,p2,p3,p4⟩:=yb hw (Gh.le_trans hG1 (Gh.le_trans Y g1)) g2 ((q5.trans (yg _ _ _ o)).trans g3) r1;exact⟨U,p1,p2,p3,p4⟩
  cases ex with
  |normal=>
   cases e<;>simp[fH]at V;cases o:dy I fr.marks with
   |none=>rw[o]at h;cases h
   |some j=>rw[o]at h;exact az .ew j .returning o (.inl ⟨rfl,rfl⟩) (by simp) h
  |ret=>
   cases e<;>simp[fH]at V;cases o:dy I fr.marks with
   |none=>rw[o]at h;cases h
   |some j=>rw[o]at h;exact az .ew j .returning o (.inl ⟨rfl,rfl⟩) (by simp) h
  |exit id=>
   cases o:dy I fr.marks<;>rw[o]at h<;>cases h
  |panic v=>
   cases e<;>simp[fH]at V;obtain⟨v',rfl,rv⟩:=V;cases o:dy I fr.marks with
   |none=>rw[o]at h;cases h
   |some j=>rw[o]at h;exact az v j (.panicking [{v:=v',recovered:=false}]) o (.inr ⟨v',rfl,rv⟩) (by simp) h
end
theorem aeB:yf Lw:=λ_ _ _ _ h=>DA h
theorem Pj(hg:fo X B av)(hX:o5 P X)(e: ∀f p,X.bU f=some p->ga P B av f p){R:o8}(d:Pd P R){fn:Func}{c:uG}{rows:Bool}(b:P.funcs[f]?=some fn)(a:AK P rows fn=some c):
 ga P B av f (wx X (D X) Lw R f c):=are (OE hg hX e) hg hX (Oj hg) aeB d b a
end
def aQ(N:Nat)(H:List ae)(v:AV)(sz:Nat)(ty:TypeId)(af:List lA):Prop:=
 (∀el∈af,el.length=sz)/\ ((v= .ai/\af=[])\/ ∃id aj,N<=id/\v= .ref id aj sz 0 af.length false/\H[id]?=some (.row aj sz ty af))
def bt(v:AV)(af:List lA):AV:=match v with
 |.ai=>.ai
 |_=>.sl af false
section
variable{N:Nat}{H H':List ae}{v:AV}{sz bytes:Nat}{ty:TypeId}{af ys:List lA}{lo:oN}
theorem aQ.ai:aQ N H .ai sz ty []:=⟨by simp,.inl ⟨rfl,rfl⟩⟩
def aQ.mono(h:aQ N H v sz ty af)(b:H<+:H'):aQ N H' v sz ty af:=by
 obtain⟨c,a⟩:=h;refine⟨c,?_⟩;rcases a with a| ⟨id,aj,f,d,e⟩
 ·grind
 ·obtain⟨L,rfl⟩:=b
  grind
theorem aQ.ext{L:List ae}(h:aQ N H v sz ty af):aQ N (H++L) v sz ty af:=h.mono (arD _ _)
def aQ.rd(h:aQ N H v sz ty af):Rd ⟨H,lo⟩ v sz af:=by
 obtain⟨c,b⟩:=h;rcases b with⟨rfl,rfl⟩| ⟨id,aj,d,rfl,a⟩
 ·exact .ai
 ·refine⟨trivial,?_,c⟩;simp only[elems,a,azq]
  grind
def arp{H0:List ae}{id:Nat}{o:ae}(a:H0<+:H)(b:H0.length<=id):H0<+:H.set id o:=by
 obtain⟨L,rfl⟩:=a
 grind
def aQ.append{H0:List ae}(h:aQ N H v sz ty af)(b:H0<+:H)(o:H0.length=N)(i:0<sz)(k: ∀el∈ys,el.length=sz)(l:b8 ys=0)(f: (af.length+ys.length)*bytes<=room):
  ∃v' H',dw ⟨H,lo⟩ ty sz bytes v ys=some (v',⟨H',lo⟩)/\aQ N H' v' sz ty (af++ys)/\H0<+:H'/\H.length<=H'.length/\ (∀id,id<N->H'[id]?=H[id]?):=by
 have e:0<sz/\ys.all (λel=>el.length==sz)=true:=⟨i,by grind⟩;obtain⟨q,g⟩:=h;have p: ∀el∈af++ys,el.length=sz:=by grind
 by_cases he:ys.length=0
 ·have d:ys=[]:=ams.1 he;subst d;refine⟨v,H,?_,by simpa using⟨q,g⟩,b,agW _,λ_ _=>rfl⟩;unfold dw
  grind
 rcases g with⟨rfl,rfl⟩| ⟨id,aj,m,rfl,a⟩
 ·refine⟨.ref H.length 0 sz 0 ys.length false,H++[.row 0 sz ty ys],?_,⟨by simpa using k,.inr ⟨H.length,0,?_,by simp,by simp⟩⟩,b.trans (arD _ _),by simp,λid n=>?_⟩
  ·unfold dw;rw[afl e];simp only[afi he];rw[afl (by simpa using f)];rfl
  ·rw[<-o];exact b.length_le
  ·rw[aez (by have:=b.length_le;omega)]
 ·have c:=(aeA.1 a).1;refine⟨.ref id (aj+1) sz 0 (af.length+ys.length) false,H.set id (.row (aj+1) sz ty (af++ys)),?_,⟨p,.inr ⟨id,aj+1,m,by simp,by simp[c]⟩⟩,arp b (by omega),by simp,λj r=>?_⟩
  ·unfold dw;rw[afl e];simp only[a];rw[afl ⟨trivial,trivial,trivial,trivial,by omega,f⟩,afi he];simp[AS.set,l]
  ·rw[aex (by omega)]
def o9{K:AV->AS->Prop}{H0:List ae}(h:aQ N H v sz ty af)(d:H0<+:H)(f:H0.length=N)(a:0<sz)(b: ∀el∈ys,el.length=sz)(c:b8 ys=0)(e: (af.length+ys.length)*bytes<=room)
  (g: ∀v' H',aQ N H' v' sz ty (af++ys)->H0<+:H'->K v' ⟨H',lo⟩):uD (dw ⟨H,lo⟩ ty sz bytes v ys) K:=by
 obtain⟨v',H',k,j,i,_⟩:=h.append d f a b c e;rw[k];exact g v' H' j i
def aQ.aeC(h:aQ N H v sz ty af)(w:N<=H.length)(k:0<sz)(l: ∀el∈ys,el.length=sz)(m:b8 ys=0)(q: (af.length+ys.length)*bytes<=room):
  ∃v' H',dw ⟨H,lo⟩ ty sz bytes v ys=some (v',⟨H',lo⟩)/\aQ N H' v' sz ty (af++ys)/\H.length<=H'.length/\ (∀id,id<N->H'[id]?=H[id]?)/\ (∀ (id:Nat) o,(∀a d,o≠ .row a sz ty d)->H[id]?=some o->H'[id]?=some o):=by
 have n:H.take N<+:H:=List.take_prefix _ _;obtain⟨v',H',b,t,x,s,r⟩:=h.append n (by grind) k l m q;refine⟨v',H',b,t,s,r,λid o f e=>?_⟩;have p:=(aeA.1 e).1;unfold dw at b;have i:0<sz/\ys.all (λel=>el.length==sz)=true:=⟨k,by grind⟩;rw[afl i]at b;rcases h.2 with⟨rfl,rfl⟩| ⟨j,aj,u,rfl,c⟩
 ·simp only at b;split at b
  ·grind
  ·split at b
   ·simp only[AS.push,afh,aq5,AS.mk.injEq]at b
    grind
   grind
 ·simp only[c]at b;split at b
  ·split at b
   ·simp only[afh,aq5,AS.mk.injEq]at b;rw[<-b.2.1];exact e
   ·simp only[agX,amn,AS.set,afh,aq5,AS.mk.injEq]at b;rw[<-b.2.1];have g:j≠id:=by rintro rfl;rw[c]at e;cases e;exact f _ _ rfl
    rw[aex g];exact e
  ·cases b
def Ii{E:AS}:freeze E n (k+1) (.au vs)=if(AV.au vs).refs<=n then some (.au vs)else match ia E n k vs with|some a=>some (.au a)|none=>none:=by
 rw[freeze]
 grind
theorem Pk{E:AS}{n k:Nat}: ∀l:lA,aG l<=n->ia E n (k+2) l=some l
 | [],_=>by rw[ia]
 |b::bs,a=>by
  simp only[aG]at a;rw[ia,yw (by omega)];rw[Pk bs (by omega)]
theorem Pl{E:AS}{n k:Nat}: ∀af:List lA,b8 af<=n->rU E n (k+3) af=some af
 | [],_=>by rw[rU]
 |a::as,h=>by
  simp only[b8]at h;rw[rU,Pk a (by omega)];rw[Pl as (by omega)]
theorem aQ.freeze(h:aQ N H v sz ty af)(c:b8 af<=N):Den.freeze ⟨H,lo⟩ N (k+4) v=some (bt v af):=by
 obtain⟨f,d⟩:=h;rcases d with⟨rfl,rfl⟩| ⟨id,aj,e,rfl,a⟩
 ·exact yw (agS _)
 ·have b: ¬(AV.ref id aj sz 0 af.length false).refs<=N:=by simp only[AV.refs];omega
  rw[Den.freeze,afi b];simp only[a];rw[afl ⟨trivial,trivial,by omega⟩];simp only[amy,ag4];rw[Pl af c];rfl
theorem aQ.Pm(h:aQ N H v sz ty af)(a:b8 af<=N):finish N lo v ⟨H,none⟩=(bt v af,⟨H.take N,lo⟩):=
 HS rfl (h.freeze a)
def aQ.aeD{b:AV}(h:aQ N H v sz ty af)(d:b8 af<=N)(e:b.refs<=N):finish N lo (.au [v,b]) ⟨H,none⟩=(.au [bt v af,b],⟨H.take N,lo⟩):=by
 refine HS rfl ?_;rw[Ii];have e1:ia ⟨H,none⟩ N 11 [v,b]=some [bt v af,b]:=by
  rw[ia,h.freeze d];rw[ia,yw e];rw[ia]
 rw[e1];split
 ·rename_i hle;have a:bt v af=v:=by
   obtain⟨i,f⟩:=h;rcases f with⟨rfl,rfl⟩| ⟨id,aj,g,rfl,c⟩
   ·rfl
   ·simp only[AV.refs,aG]at hle;omega
  rw[a]
 ·rfl
def aQ.sc(h:aQ N H v sz ty af):Rv (bt v af) sz af:=by
 obtain⟨c,b⟩:=h;rcases b with⟨rfl,rfl⟩| ⟨id,aj,d,rfl,a⟩
 ·exact .ai
 ·exact .sl c
theorem bA{α:Type}{g:α->lA}(a: ∀x,aG (g x)=0): ∀l:List α,b8 (l.map g)=0
 | []=>rfl
 |x::xs=>by simp only[anw,b8,a,bA a xs];rfl
def arq{E:AS}(h:af.all (λel=>el.length==sz)=true):Den.elems E sz (.sl af c)=some af:=by
 simp only[Den.elems];grind
end
def aeE{k:IntKind}{a b:Int}{c:List EK}{as bs:lA}:iZ (.int::c) (.int k a::as) (.int k b::bs)=if a=b then iZ c as bs else some false:=by
 simp only[iZ,qq,aiH]
 grind
def ars{a b:Bool}{c:List EK}{as bs:lA}:iZ (.bool::c) (.bool a::as) (.bool b::bs)=if a=b then iZ c as bs else some false:=by
 simp only[iZ,qq]
 grind
theorem aeF:iZ [] [] []=some true:=rfl
def aeG{N:Nat}{H:List ae}(b: ¬v.refs<=N)(a:freeze ⟨H,none⟩ N 12 v=none):finish N lo v ⟨H,none⟩=(v,⟨H,lo⟩):=by
 rw[AG,afi b,a];rfl
def Pn{N id o:Nat}{E:AS}(h:N<=id):freeze E N k (.ptr id o)=none:=by
 cases k with
 |zero=>rw[freeze]
 |succ k=>
  have a: ¬(AV.ptr id o).refs<=N:=by simp only[AV.refs];omega
  simp[freeze,a]
def DJ{X:Ctx}{p:lA->AS->Option aS}{args:lA}{E:AS}{a:aS}(b:X.bU f=some p)(h:p args E=some a):D X (.fn (.func f) [] []) args E=some a:=by
 refine HK ?_;simp only[step,b,aiL,aip];exact h
theorem aeH{cs:lA}:dZ cs []=some cs:=rfl
theorem aeI{cs:lA}{off:Nat}{r:List (Nat×Nat×AV)}:dZ cs ((off,n,v)::r)=if v.cb=false/\v.cells.length=n/\off+n<=cs.length then dZ (aH cs off v.cells) r else none:=rfl
theorem aeJ{len:Nat}{a:List (Nat×Nat×AV)}:OO z len a=(dZ (List.replicate len z).flatten a).map λcs=>.sl (chunks z.length len cs) true:=rfl
theorem aeK{E:AS}{ty:TypeId}{len:Nat}{a:List (Nat×Nat×AV)}:OP E ty z len a=(dZ (List.replicate len z).flatten a).map λcs=>(.ref E.heap.length 0 z.length 0 len false,E.push (.row 0 z.length ty (chunks z.length len cs))):=rfl
theorem aeL{a:List (Nat×Nat×AV)}:ON z a=(dZ z a).map .agg:=rfl
theorem aeM{cs:lA}:chunks sz 0 cs=[]:=rfl
theorem aeN{cs:lA}:chunks sz (k+1) cs=cs.take sz::chunks sz k (cs.drop sz):=rfl
theorem aeO{E:AS}:Den.elems E sz (.sl af c)=if af.all (λel=>el.length==sz)then some af else none:=rfl
theorem aeP{X:Ctx}{id off:Nat}{k:IntKind}{a:Int}:uk X n sz (.ptr id off) (.int k a)=if 0<=a/\a<n then some (.ptr id (off+a.toNat*sz))else none:=rfl
theorem aeQ{X:Ctx}{id off:Nat}{k:IntKind}{a:Int}:uk X n sz (.dp id aj j off) (.int k a)=if 0<=a/\a<n then some (.dp id aj j (off+a.toNat*sz))else none:=rfl
theorem aeR{X:Ctx}{off:Nat}{cs:lA}{k:IntKind}{a:Int}:uk X n sz (.eL cs off) (.int k a)=if 0<=a/\a<n then some (.eL cs (off+a.toNat*sz))else none:=rfl
theorem aeS{X:Ctx}{g:Nat}{k:IntKind}{a:Int}:uk X n sz (.df g) (.int k a)=if 0<=a/\a<n then(match X.df g with|some cs=>some (.eL cs (a.toNat*sz))|none=>none)else none:=rfl
theorem aeT{off:Nat}{cs:lA}:Zj ag n off (.agg cs)=Den.part ag n cs off:=rfl
theorem aeU:DD (.au vs) i=vs[i]?:=rfl
theorem aeV{E:AS}:fj E .sl (.sl af c)=some (.int .i64 af.length):=rfl
theorem aeW{E:AS}:fj E .sl .ai=some (.int .i64 0):=rfl
theorem aeX{E:AS}{id v z o:Nat}:fj E .sl (.ref id v z o n c)=some (.int .i64 n):=rfl
theorem aeY{E:AS}{id off:Nat}:fj E .sl (.eZ id sz off n)=some (.int .i64 n):=rfl
theorem Po{id off:Nat}{k:IntKind}{a:Int}:jU m (.eZ id sz off n) (.int k a)=if 0<=a/\a<n/\sz=m then some (.ptr id (off+a.toNat*m))else none:=rfl
def aeZ{X:Ctx}{id off:Nat}{b:Int}:qs X n sz (.ptr id off) none (some (.int k' b))=if 0<=b/\b<=n then some (.eZ id sz off b.toNat)else none:=by
 simp only[qs,fV,lF]
 grind
theorem ae0{H:List ae}{lo:oN}{id sz m off n:Nat}:Den.elems ⟨H,lo⟩ m (.eZ id sz off n)=match H[id]? with
 |some (.box cs _)=>if sz=m/\off+n*m<=cs.length then some (chunks m n (cs.drop off))else none
 |_=>none:=rfl
theorem ae1:v5 []=some []:=rfl
theorem ae2{n:Int}{r:List lA}:v5 ([.int .u8 n]::r)=(v5 r).map (UInt8.ofNat n.toNat:: ·):=rfl
def ae3{H:List ae}{x:ae}(h:H.length=n)(a:m=n+1): (H++[x]).take m=H++[x]:=by grind
def dT{h:Decidable True}: @decide True h=true:=by simp
def dF{h:Decidable False}: @decide False h=false:=by simp
def O1:=gG @aeH<|gG @aeI<|gG @aeJ<|gG @aeK<|gG @aeL<|gG @aeM<|gG @aeN<|gG @aeO<|gG @aeT<|gG @aeY<|gG @aeV<|gG @aeW<|gG @aeX<|gG @Po<|gG @aeZ<|gG @ae0<|gG @ae1<|gG @ae2<|gG @dT<|gG @dF<|gG @List.getD_cons_zero.{0}<|gG @List.getD_cons_succ.{0}<|gG @aeP<|gG @aeQ<|gG @aeR<|gG @aeS<|gG @Nat.mul_one<|gG @aeU<|gG @atu.{0}<|gG @List.replicate_zero.{0}<|gG @ap1.{0}<|gG @List.flatten_nil.{0}<|gG @awi.{0} @List.all_nil.{0}
section
variable{X:Ctx}{n:Nat}{lo:oN}{e:Env}{E:AS}{R:aS->Prop}{a b c d m k:Nat}{ag ah:Bool}
def mo(n:Nat)(lo:oN)(R:aS->Prop):AV->AS->Prop:=λv E=>R (.ret (finish n lo v E).1 (finish n lo v E).2)
theorem ae4:mo n lo R v E=R (.ret (finish n lo v E).1 (finish n lo v E).2):=rfl
def AN:dn X n lo [.cell a ag m] R .ret ⟨e,[]⟩ E=okV (cg X E ag m (e a)) (mo n lo R) E:=by
 simp only[wj,wk,fk,ju,nK];cases h:cg X E ag m (e a)with
 |none=>simp[okV,h]
 |some v=>simp[okV,mo,h]
def pa:dn X n lo [.cell a ag m,.t b] R .ret ⟨e,[]⟩ E=okV (cg X E ag m (e a)) (λv E=>mo n lo R (.au [v,e b]) E) E:=by
 simp only[wj,wk,fk,ju,nK];cases h:cg X E ag m (e a)with
 |none=>simp[okV,h]
 |some v=>simp[okV,mo,h]
def ae5:dn X n lo [.cell a ag m,.t b,.t c] R .ret ⟨e,[]⟩ E=okV (cg X E ag m (e a)) (λv E=>mo n lo R (.au [v,e b,e c]) E) E:=by
 simp only[wj,wk,fk,ju,nK];cases h:cg X E ag m (e a)with
 |none=>simp[okV,h]
 |some v=>simp[okV,mo,h]
def ae6:dn X n lo [.cell a ag m,.t b,.t c,.t d] R .ret ⟨e,[]⟩ E=okV (cg X E ag m (e a)) (λv E=>mo n lo R (.au [v,e b,e c,e d]) E) E:=by
 simp only[wj,wk,fk,ju,nK];cases h:cg X E ag m (e a)with
 |none=>simp[okV,h]
 |some v=>simp[okV,mo,h]
def ae7:dn X n lo [.cell a ag m,.cell b ah k] R .ret ⟨e,[]⟩ E=okV (cg X E ag m (e a)) (λv E=>okV (cg X E ah k (e b)) (λu E=>mo n lo R (.au [v,u]) E) E) E:=by
 simp only[wj,wk,fk,ju,nK];cases h:cg X E ag m (e a)with
 |none=>simp[okV,h]
 |some v=>
  cases f:cg X E ah k (e b)with
  |none=>simp[okV,h,f]
  |some u=>simp[okV,mo,h,f]
def Q1:=gG @ae4<|gG @AN<|gG @pa<|gG @ae5<|gG @ae6 @ae7
end
section
variable{X:Ctx}{R:o8}
def qH(X:Ctx)(R:o8)(tv:AV)(fw:lA)(rv:AV)(E:AS)(K:AS->Prop):Prop:= ∃a,AL X (D X) Lw R tv fw rv E=some a/\K a
def dK(X:Ctx)(R:o8)(n:Nat)(lo:oN)(res:List RV)(P:aS->Prop)(tv:AV)(fw:lA):bQ
 |.normal,fr,E=> ∃a,dy E fr.marks=some a/\qH X R tv fw .ew a λb=>dn X n lo res P .ret ⟨fr.env,[]⟩ b
 |.ret,fr,E=> ∃a,dy E fr.marks=some a/\qH X R tv fw .ew a λb=>dn X n lo res P .ret ⟨fr.env,[]⟩ b
 |.panic v,fr,E=> ∃a,dy E fr.marks=some a/\qH X R tv fw v a λb=>dn X n lo res P .ret ⟨fr.env,[]⟩ b
 |.exit _,_,_=>False
section
variable{n:Nat}{lo:oN}{res:List RV}{P:aS->Prop}{tv:AV}{fw:lA}{e:Env}{E:AS}{v:AV}
def DK:dK X R n lo res P tv fw .ret ⟨e,[]⟩ E=qH X R tv fw .ew E λa=>dn X n lo res P .ret ⟨e,[]⟩ a:=by
 simp[dK,dy]
def nV:dK X R n lo res P tv fw (.panic v) ⟨e,[]⟩ E=qH X R tv fw v E λa=>dn X n lo res P .ret ⟨e,[]⟩ a:=by
 simp[dK,dy]
end
def Ij(X:Ctx)(R:o8)(f:FuncId)(n:Nat)(lo:oN)(res:List RV)(P:aS->Prop)(kX:ao)(fw:List ao)(rest:PC):bQ:=λex fr E=>
 ex= .normal/\fr.marks=[]/\ (kX.get fr.env).Ih=true/\wp X f false rest ⟨fr.env,[]⟩ E (dK X R n lo res P (kX.get fr.env) (fw.map (·.get fr.env)))
def Pp(X:Ctx)(R:o8)(f:FuncId)(n:Nat)(lo:oN)(res:List RV)(P:aS->Prop)(ops:List aO)(kX:ao)(fw:List ao)(rest:PC):bQ:=λex fr E=>
 ex= .normal/\wp X f false (.aL ops) fr E (Ij X R f n lo res P kX fw rest)
section
variable{f:FuncId}{n:Nat}{lo:oN}{res:List RV}{P:aS->Prop}{ops:List aO}{kX:ao}{fw:List ao}{rest:PC}{e:Env}{fr:Fr}{E:AS}
def jX:Ij X R f n lo res P kX fw rest .normal ⟨e,[]⟩ E=((kX.get e).Ih=true/\wp X f false rest ⟨e,[]⟩ E (dK X R n lo res P (kX.get e) (fw.map (·.get e)))):=by simp[Ij]
def jY:Pp X R f n lo res P ops kX fw rest .normal fr E=wp X f false (.aL ops) fr E (Ij X R f n lo res P kX fw rest):=by simp[Pp]
end
def Pq(i:uG){k:PC}{ops:List aO}{kX:ao}{fw:List ao}{rest:PC}(y:i.body= .later k (.here ops kX fw rest)){args:lA}{H:List ae}{P:aS->Prop}(w:Nat.ble args.length i.ntmps=true)
  (h: ∀n,H.length=n->wp X f false k ⟨cZ args,[]⟩ ⟨H,none⟩ (Pp X R f n lo i.results P ops kX fw rest)): ∃m,wx X (D X) Lw R f i args ⟨H,lo⟩=some m/\P m:=by
 obtain⟨ex,fr,E,u,rfl,hw⟩:=h _ rfl;rw[OH]at hw;obtain⟨B,⟨j,t⟩,s,p,rfl,hm,x,d,c,g,o,q⟩:=hw;subst hm;have l:wv X (D X) Lw f i.body ⟨cZ args,[]⟩ ⟨H,none⟩=some (some (kX.get j,fw.map (·.get j)),(d,c,g)):=by
  rw[y];simp only[wv,u,p,x,aiH,o,ag0]
 unfold wx;rw[afl (ara w)];simp only[l,Pc];have key: ∀rv,d.Pb=some rv->(∃b,dy g c.marks=some b/\qH X R (kX.get j) (fw.map (·.get j)) rv b λa=>dn X H.length lo i.results P .ret ⟨c.env,[]⟩ a)->
   ∃m,(match d.Pb,dy g c.marks with
    |some rv,some b=>(AL X (D X) Lw R (kX.get j) (fw.map (·.get j)) rv b).bind λa=>(fk X a c.env i.results).map λv=>aS.ret (finish H.length lo v a).1 (finish H.length lo v a).2
    |_,_=>none)=some m/\P m:=by
  rintro rv C ⟨b,J,a,I,A⟩;obtain⟨r,v,z,G,F⟩:=A;simp only[dy,afh]at z
  grind
 cases d with
 |normal=>exact key _ rfl q
 |ret=>exact key _ rfl q
 |panic v=>exact key _ rfl q
 |exit _=>trivial
def Ik{g:FuncId}{pr:wq}(c:R g=some pr){cap fw:lA}{rv:AV}{H:List ae}{K:AS->Prop}(b:Nat.ble (fw++cap).length pr.pf.ntmps=true)
  (h: ∀n,H.length=n->wp X g false pr.pf.body ⟨(cZ (fw++cap)).set pr.dst rv,[]⟩ ⟨H,none⟩ (λex fr E=>fr.marks=[]/\ (ex= .normal\/ex= .ret)/\ ∃v,fk X E fr.env pr.pf.results=some v/\K (finish n lo v E).2)):
  qH X R (.fn (.func g) [] cap) fw rv ⟨H,lo⟩ K:=by
 obtain⟨ex,⟨e,ms⟩,E,i,hm,hex,v,j,d⟩:=h _ rfl;have a:=ara b;refine⟨_,?_,d⟩;simp only[AL,c,aqT,Ie,aiL]
 grind
end
section
structure Ext(X X':Ctx):Prop where
 df:X'.df=X.df
 fa:X'.fa=X.fa
 code:X'.code=X.code
 bU: ∀f,X'.bU f=X.bU f\/ (X.bU f=none/\X.code f=none)
variable{X X':Ctx}
def art(h:Ext X X'):cg X'=cg X:=by
 unfold cg;rw[h.df]
def ae8(h:Ext X X'){C:bu}(i:I)(e:Env)(E:AS):exec X' C i e E=exec X C i e E:=by
 obtain⟨g,j,c,m'⟩:=X';obtain⟨b,a,f,d⟩:=h;subst b a;cases i<;>rfl
theorem ae9(h:Ext X X'){C:bu}: ∀ (os:List aO),eD X' C os=eD X C os
 | []=>by rfl
 |o::os=>by
  simp only[eD,ae8 h,ae9 h os]
theorem afa(h:Ext X X'){C:bu}: ∀ (os:List (aO×lN)) (a:List FP),fY X' C a os=fY X C a os
 | [],a=>by rfl
 |o::os,a=>by
  simp only[fY,ae8 h,afa h os]
def aru(h:Ext X X')(a:rT X v=true):rT X' v=true:=by
 unfold rT at a⊢;split at a
 ·rename_i f _ _;rw[h.code];rcases h.bU f with b| ⟨_,c⟩
  ·grind
  grind
 omega
theorem sd(h:Ext X X'){C:bu}{L:ed}(e:ed.le L L)(bO:FuncId)(rd:Bool): ∀k,qB (aX X C L bO rd k) (aX X' C L bO rd k)
 |.skip,_,_,_,d=>by trivial
 |.seq a b,fr,E,r,d=>by
  simp only[aX]at d⊢;split at d
  ·rename_i l;rw[sd h e bO rd a _ _ _ l];exact sd h e bO rd b _ _ _ d
  ·cases f:aX X C L bO rd a fr E with
   |none=>grind
   |some q=>
    rw[sd h e bO rd a _ _ _ f]
    grind
 |.cond c a b,fr,E,r,d=>by
  simp only[aX]at d⊢;split at d
  ·rename_i t n;split at d
   ·rename_i i;rw[afl i];exact sd h e bO rd a _ _ _ d
   ·rename_i i;rw[afi i];exact sd h e bO rd b _ _ _ d
  omega
 |.block id body,fr,E,r,d=>by
  simp only[aX]at d⊢;cases f:aX X C L bO rd body fr E with
  |none=>rw[f]at d;cases d
  |some q=>rw[sd h e bO rd body _ _ _ f];rw[f]at d;exact d
 |.loop body,fr,E,r,d=>by
  simp only[aX]at d⊢;exact e _ _ (sd h e bO rd body) _ _ _ d
 |.exit id,_,_,_,d=>by simpa only[aX]using d
 |.ret,_,_,_,d=>by simpa only[aX]using d
 |.aL ops,fr,E,r,d=>by
  simp only[aX]at d⊢;rw[ae9 h];exact d
 |.ui ops,fr,E,r,d=>by
  simp only[aX]at d⊢;rw[afa h];exact d
 |.hZ g ps as bd,fr,E,r,d=>by
  simp only[aX]at d⊢;split at d
  ·cases d
  ·rename_i j;rw[afi j];split at d
   ·rename_i m;rw[afl (aru h m)];exact d
   ·cases d
def arv(h:Ext X X'){C:bu}{L:ed}(m:ed.le L L)(l:Nat)(args:lA)(E:AS)(r:aS)(c:jW X C L l args E=some r):jW X' C L l args E=some r:=by
 simp only[jW]at c⊢;split at c
 ·rename_i st j f env ps as bd s;split at c
  ·rename_i a;simp only[a,aiH];split at c
   ·rename_i fr e n;rw[sd h m _ _ _ _ _ _ n];simp only;split at c
    ·rename_i b p d g i iE o;cases k:aX X C L f true bd fr (e.set l (.loop .busy b p d g i iE) 0)with
     |none=>rw[k]at c;cases c
     |some q=>rw[sd h m _ _ _ _ _ _ k];grind
    omega
   grind
  grind
 omega
theorem afb(h:Ext X X')(E:AS)(e:Env): ∀rs,ju X' E e rs=ju X E e rs
 | []=>rfl
 |r::rs=>by
  have:nK X' E e r=nK X E e r:=by
   cases r with
   |t i=>rfl
   |cell a ag n=>simp only[nK,art h]
  simp only[ju,this,afb h E e rs]
def arw(h:Ext X X')(n:Nat)(lo:oN)(pf:PF)(r:ja):leave X' n lo pf r=leave X n lo pf r:=by
 have e1: ∀fr E,qw X' n lo pf fr E=qw X n lo pf fr E:=λfr E=>by
  simp only[qw,fk,afb h]
 rcases r with _| ⟨ex,fr,E⟩
 ·rfl
 ·cases ex<;>simp only[leave,e1]
def arx(h:Ext X X'){C:bu}{L:ed}(d:ed.le L L):bu.le (step X C L) (step X' C L):=by
 intro v args E r b;unfold step at b⊢;split at b
 ·rename_i f first cap
  split at b
  ·rename_i p g;have:X'.bU f=some p:=by
    rcases h.bU f with q| ⟨q,_⟩
    ·grind
    grind
   grind
  ·split at b
   ·rename_i pf e;split at b
    ·rename_i a;have:X'.bU f=none:=by
      rcases h.bU f with q| ⟨_,q⟩
      ·grind
      grind
     rw[this,h.code,e];simp only;rw[afl a,arw h];cases c:aX X C L f false pf.body {env:=cZ (first++args++cap),marks:=[]} {E with lo:=none}with
     |none=>rw[c]at b;cases b
     |some q=>rw[sd h d _ _ _ _ _ _ c];grind
    grind
   grind
 ·exact arv h d _ _ _ _ b
 omega
theorem afc(h:Ext X X'): ∀n,bu.le (ib X n) (ib X' n)
 |0=>λf args E r h=>by trivial
 |n+1=>by
  exact bu.le_trans (arx h (HI n)) (YL (afc h n) (HI n))
theorem afd(h:Ext X X'):bu.le (D X) (D X'):=λf a s r b=>by
 obtain⟨n,c⟩:=yr b;exact OA (n:=n) _ _ _ _ (afc h n _ _ _ _ c)
end
def qI(a:List (Nat×lB×Nat)):List (AV×AV):=a.map λx=>(.int .u8 x.1,.fn (.func x.2.2) [] [])
theorem Pr{n:Int}: ∀l:List (AV×AV),(∀p∈l,∃m:Int,p.1= .int .u8 m)->dR (.int .u8 n) l=some ((l.find? λp=>match p.1 with|.int _ m=>n==m|_=>false).map (·.2))
 | [],_=>rfl
 | (k,v)::l,h=>by
   obtain⟨m,hm⟩:=h (k,v) (by simp);have a:=Pr (n:=n) l (λp b=>h p (by grind));simp only[dR,oW,List.find?_cons]
   grind
theorem afe: ∀ {l:List (AV×AV)} {p q:AV×AV},(l.Pairwise λp q=>p.1≠q.1)->p∈l->q∈l->p≠q->p.1≠q.1
 |a::l,p,q,h,f,e,b=>by
  rw[apy]at h;rcases aiK.1 f with d|d
  ·grind
  ·rcases aiK.1 e with c|c
   ·grind
   ·exact afe h.2 d c b
def ary{α β:Type}{F:α->β}{l g:List β}(h:l.Perm g): ∀m:List α,m.map F=l-> ∃m':List α,m'.Perm m/\m'.map F=g:=by
 induction h with
 |nil=>simp
 |cons x _ j=>
  intro m hm;cases m with
  |nil=>grind
  |cons a m=>
   simp only[anw,azp]at hm;obtain⟨m',f,i⟩:=j m hm.2;exact⟨a::m',f.cons a,by grind⟩
 |swap x y l=>
  intro m hm
  match m,hm with
  |a::b::m,hm=>
   exact⟨b::a::m,.swap a b m,by grind⟩
 |trans _ _ e d=>
  intro m hm;obtain⟨m',f,i⟩:=e m hm;obtain⟨c,n,k⟩:=d m' i;exact⟨c,n.trans f,k⟩
def arz{l e:List (AV×AV)}(h: ∀p∈l,∃m:Int,p.1= .int .u8 m)(o:l.Perm e)(u:l.Pairwise λp q=>p.1≠q.1){k:AV}{v:Option AV}(f:dR k l=some v):dR k e=some v:=by
 have w: ∀p∈e,∃m:Int,p.1= .int .u8 m:=λp j=>h p (o.mem_iff.2 j)
 cases l with
 |nil=>simp_all
 |cons a l=>
  obtain⟨m,hm⟩:=h a (by simp);obtain⟨z,r⟩:=a;simp only at hm;subst hm;cases k with
  |int q n=>
   by_cases t:q= .u8
   ·subst t;rw[Pr _ h]at f;rw[Pr _ w];rw[<-f]
    congr 2
    have hu: ∀p q:AV×AV,p∈((AV.int .u8 m,r)::l)->q∈((AV.int .u8 m,r)::l)->(match p.1 with|.int _ m=>n==m|_=>false)=true->(match q.1 with|.int _ m=>n==m|_=>false)=true->p=q:=by
     intro p q c b e1 d;obtain⟨g,y⟩:=h p c;obtain⟨s,x⟩:=h q b;have e3:p.1=q.1:=by grind
     by_cases i:p=q
     ·omega
     ·exact absurd e3 (afe u c b i)
    cases e1: ((AV.int .u8 m,r)::l).find? (λp=>match p.1 with|.int _ m=>n==m|_=>false)with
    |none=>grind
    |some p=>
     have g:=arQ e1;have t1:=List.find?_some e1;cases d:e.find? (λp=>match p.1 with|.int _ m=>n==m|_=>false)with
     |none=>
      rw[aBk]at d;exact absurd t1 (d p (o.mem_iff.1 g))
     |some q=>
      have s:=o.mem_iff.2 (arQ d);have t2:=List.find?_some d;rw[hu q p s g t2 t1]
   ·exfalso;simp[dR,oW,t]at f
  |_=>exfalso;simp[dR,oW]at f
section
variable{P:Program}{W:World}
theorem aff{α β:Type}{f:α->Option β}: ∀ {l:List α} {r:List β},l.mapM f=some r->l.length=r.length/\ ∀ (i:Nat) a b,l[i]?=some a->r[i]?=some b->f a=some b
 | [],r,h=>by grind
 |x::l,r,h=>by
  rw[aAV]at h;simp only[bind,ao9,pure,afh]at h;obtain⟨y,e,d,c,rfl⟩:=h;obtain⟨j,g⟩:=aff c
  grind
def afg{n:String}{d:DataW Unit}{g e:Nat}{ps rs:Array TypeId}{va:Bool}{a:List (Nat×lB×Nat)}(hfa:funcsAt P W n d)(hd:d.funcsOut= .map (a.map λx=>(.int .u8 x.1,.held x.2.1)))
  (hg:P.globalNamed n=some g) (ht: (P.globals[g]?).map (·.type)=some t) (hu:P.underlying t=some (.map k e)) (hk:P.underlying k=some (.int .u8)) (he:P.underlying e=some (.func ps rs va))
  (S: ∀x∈a,((List.range P.funcs.size).filter λf=>(P.funcs[f]?).any (·.name.toUTF8.data.toList==x.2.1))=[x.2.2]) (r9: ∀x∈a,x.2.1≠[]) (D:a.Pairwise λx y=>x.1≠y.1):
  g<W.heap.size/\ ∃es' r ms clock,r<W.heap.size/\W.cell? ⟨g,0,none⟩=some (.map (some r))/\W.heap[r]?=some (.map ms clock)/\eN (G0 W.heap.size W) es' ms.toList/\ ∀k v,dR k (qI a)=some v->dR k es'=some v:=by
 obtain⟨g',t',cs,fuel,p,h1,h2,h3,u⟩:=hfa;obtain rfl:g'=g:=amv (h1.symm.trans hg);obtain rfl:t'=t:=amv (h2.symm.trans ht);rw[hd]at u;cases fuel with
 |zero=>simp[DataW.trod]at u
 |succ fuel=>
 unfold DataW.trod at u;rw[hu]at u;obtain⟨b,K⟩: ∃b,cs.toList=[.map (some b)]:=by
  split at u<;>simp_all
 rw[K]at u;simp only at u;split at u
 case h_2=>cases u
 rename_i es clock hb;split at u
 case isFalse=>cases u
 obtain⟨entries,hm,hs⟩:=ao9.1 u;split at hs
 case isFalse=>cases hs
 rename_i aC4;simp only[afh,aq5,DataW.map.injEq]at hs;obtain⟨G,_⟩:=hs;obtain⟨E,arB⟩:=aff hm;have z: (entries.map (·.1)).Perm (a.map λx=>(Lit.int .u8 x.1,DataW.held x.2.1)):=by
  rw[<-G];exact(WideShapes.sorted_perm _).symm
 have B: ∀ (i:Nat) (m:MapEntry),es.toList[i]?=some m-> ∃x∈a,(entries.map (·.1))[i]?=some (Lit.int .u8 x.1,DataW.held x.2.1)/\m.key= .int .u8 x.1/\m.val= .func (.func x.2.2) #[] #[]:=by
  intro i m J;have I:i<entries.length:=by rw[<-E];exact(aeA.1 J).1
  have B:=arB i m entries[i] J (afu I);obtain⟨key,l,s⟩:=ao9.1 B;have U:entries[i].1∈a.map λx=>(Lit.int .u8 x.1,DataW.held x.2.1):=z.mem_iff.1 (ag2.2 ⟨entries[i],auL I,rfl⟩)
  obtain⟨x,C,q⟩:=ag2.1 U;refine⟨x,C,by rw[aiG,afu I,ag0,<-q],?_⟩;split at s
  case isFalse=>cases s
  rename_i A;obtain⟨y,F,N⟩:=agY.1 s;have hk1:key= .int .u8 x.1:=by rw[<-N]at q;simp only[aq5]at q;exact q.1.symm
  have V:y.1= .held x.2.1:=by rw[<-N]at q;simp only[aq5]at q;exact q.2.symm
  constructor
  ·subst hk1;unfold keyOf at l;rw[hk]at l;simp only at l;unfold mapKey at l;rw[hk]at l;split at l<;>simp_all
  ·have L:m.val.cells.toList=[m.val]:=by
     cases hv:m.val<;>first|rfl| (rw[hv]at A;simp[Value.formed,he]at A)
   rw[L]at F;obtain⟨y1,y2⟩:=y;simp only at V;subst V;cases H:x.2.1 with
   |nil=>exact absurd H (r9 x C)
   |cons c r=>
    rw[H]at F;have ho:=S x C;rw[H]at ho;exact func_of_trod he ho F
 obtain⟨w,R,Q⟩:=ary z.symm a rfl;have O:g'<W.heap.size:=by
  have hc:W.cell? ⟨g',0,none⟩=some (.map (some b)):=by rw[World.var?_cell hg h3,<-arf,K];rfl
  unfold World.cell? at hc;cases hh:W.heap[g']? with
  |none=>rw[hh]at hc;cases hc
  |some o=>exact(anu.1 hh).1
 have Z: ∀x∈a,∀y∈a,x.1=y.1->x=y:=by
  intro x C y F e;obtain⟨i,J⟩:=avU C;obtain⟨j,Y⟩:=avU F;rw[List.pairwise_iff_getElem]at D;have hi1:=(aeA.1 J).1;have X:=(aeA.1 Y).1;rcases aBm i j with h|h|h
  ·have:=D i j hi1 X h;rw[(aeA.1 J).2,(aeA.1 Y).2]at this;exact absurd e this
  ·subst h;rw[J]at Y;cases Y;rfl
  ·have:=D j i X hi1 h;rw[(aeA.1 J).2,(aeA.1 Y).2]at this;exact absurd e.symm this
 refine⟨O,qI w,b,es,clock,(anu.1 hb).1,?_,hb,?_,?_⟩
 ·rw[World.var?_cell hg h3,<-arf,K];rfl
 ·have hl':w.length=es.toList.length:=by
    have:=akp List.length Q;simp only[agZ]at this;omega
  have key: ∀ (T:List (Nat×lB×Nat)) (M:List MapEntry),T.length=M.length->(∀ (i:Nat) x m,T[i]?=some x->M[i]?=some m->m.key= .int .u8 x.1/\m.val= .func (.func x.2.2) #[] #[])->eN (G0 W.heap.size W) (qI T) M:=by
   intro T
   induction T with
   |nil=>
    intro M hM _;cases M with
    |nil=>rfl
    |cons m M=>simp at hM
   |cons x T ih=>
    intro M hM hh;cases M with
    |nil=>simp at hM
    |cons m M=>
     obtain⟨e1,e2⟩:=hh 0 x m rfl rfl;refine⟨m,M,rfl,rfl,by rw[e1];rfl,by rw[e2];exact⟨.func x.2.2,#[],#[],rfl,rfl,rfl,rfl⟩,ih M (by simpa using hM) λi x' m' C hm=>hh (i+1) x' m' (by simpa using C) (by simpa using hm)⟩
  refine key w es.toList hl' λi x m C hm=>?_
  obtain⟨y,F,hy1,hy2,hy3⟩:=B i m hm;have e1: (entries.map (·.1))[i]?=some (Lit.int .u8 x.1,DataW.held x.2.1):=by
   rw[<-Q,aiG,C];rfl
  rw[hy1]at e1;simp only[afh,aq5,Lit.int.injEq,azq]at e1;have e2:y.1=x.1:=by have:=e1.1;omega
  have:y=x:=Z y F x (R.mem_iff.1 (am9 C)) e2;subst this;exact⟨hy2,hy3⟩
 ·intro k v hf;refine arz (λp hp=>?_) (R.symm.map _) ?_ hf
  ·obtain⟨x,_,rfl⟩:=ag2.1 hp;exact⟨x.1,rfl⟩
  ·rw[aBq];refine D.imp λhab=>?_
   simp only[ne_eq,AV.int.injEq,azq];omega
end
section
variable{X:Ctx}
theorem Il{args:lA}{E:AS}{r:aS}(h:jW X (D X) Lw l args E=some r):D X (.fn (.yield l) [] []) args E=some r:=
 HK (by trivial)
def afj(X:Ctx)(y:AV)(a k:Nat)(x:lA)(P:List ae->List ae->Prop)(Q:Bool->List ae->List ae->Prop):Prop:=
 ∀A M,P A M->A.length=a-> ∀G L lo,G.length=k-> ∃b A' c,A'.length=a/\c.length=M.length/\D X y x ⟨A++(G++(M++L)),lo⟩=some (.ret (.bool b) ⟨A'++(G++(c++L)),lo⟩)/\Q b A' c
def afk(X:Ctx)(g:AV)(a:Nat)(G:List ae)(xs:List lA):Prop:=
 ∀ (y:AV) (I:Nat->List ae->List ae->Prop) (J:List ae->List ae->Prop),
   (∀j x,xs[j]?=some x->afj X y a G.length x (I j) (λb A M=>if b=true then I (j+1) A M else J A M))->
   ∀A M,A.length=a->I 0 A M-> ∀lo,∃A' d c,A'.length=a/\d.length=G.length/\c.length=M.length/\
    D X g [y] ⟨A++(G++M),lo⟩=some (.ret (.au []) ⟨A'++(d++c),lo⟩)/\ (I xs.length A' c\/J A' c)
def Ps(a:Nat)(R:List ae)(I:List ae->Prop)(J:Ex->List ae->Prop):bQ:=λex _ E=>
 E.lo=none/\ ∃b iB,E.heap=b++(R++iB)/\b.length=a/\ (match ex with|.normal=>I b|.panic _=>False|ex=>J ex b)
def Ex.code:Ex->PC
 |.ret=>.ret
 |.exit id=>.exit id
 |_=>.skip
def arH{g:ao}{a:lN}{as c:PC}{Q:bQ}(xs:List lA)(A G:List ae)
  (hg:rT X (g.get e)=true) (Pt:afk X (g.get e) A.length G xs) (I:Nat->List ae->Prop) (J:Ex->List ae->Prop) (h0:I 0 A)
  (hb: ∀j x,xs[j]?=some x->x.length=a.length/\ ∀k,k.length=A.length->I j k-> ∀R,
    wp X f true as ⟨iD e a x,[]⟩ ⟨k++R,none⟩ (λex fr N=>ex= .normal/\ ∃R1,N=⟨k++(R++R1),none⟩/\
     ∀R',R'.length=R.length->wp X f true c fr ⟨k++(R'++R1),none⟩ (Ps A.length R' (I (j+1)) J)))
  (h1: ∀A' i o,A'.length=A.length->i.length=G.length->I xs.length A'->Q .normal ⟨e,[(A++G).length]⟩ ⟨A'++(i++[.bD,o]),none⟩)
  (h2: ∀ex A' i o,A'.length=A.length->i.length=G.length->J ex A'->Q ex ⟨e,[(A++G).length]⟩ ⟨A'++(i++[.bD,o]),none⟩):
  wp X f false (.hZ g a as c) ⟨e,[]⟩ ⟨A++G,none⟩ Q:=by
 obtain⟨l,hl⟩: ∃l,l=A.length+G.length+1:=⟨_,rfl⟩;have w: ∀ (A' i:List ae) (d o:ae) (L:List ae),A'.length=A.length->i.length=G.length->(A'++(i++([d,o]++L)))[l]?=some o:=by
  intro A' i d o L ha E;rw[ag8 (by omega),ag8 (by omega),ha,E,hl];rw[show A.length+G.length+1-A.length-G.length=1 by omega];rfl
 have z: ∀ (A' i:List ae) (d o o':ae) (L:List ae),A'.length=A.length->i.length=G.length->(A'++(i++([d,o]++L))).set l o'=A'++(i++([d,o']++L)):=by
  intro A' i d o o' L ha E;rw[apu _ _ (by omega),apu _ _ (by omega),ha,E,hl];rw[show A.length+G.length+1-A.length-G.length=1 by omega];rfl
 have n: ∀ (H:List ae) (o:ae),AS.set ⟨H,none⟩ l o 0=⟨H.set l o,none⟩:=λH o=>by simp[AS.set]
 let I':Nat->List ae->List ae->Prop:=λj k M=>M=[.bD,.loop .ready none f e a as c]/\I j k
 let J':List ae->List ae->Prop:=λk M=> ∃ex,M=[.bD,.loop .done (some ex.code) f e a as c]/\Ad ex.code=some ex/\J ex k
 have C: ∀j x,xs[j]?=some x->afj X (.fn (.yield l) [] []) A.length G.length x (I' j) (λb A M=>if b=true then I' (j+1) A M else J' A M):=by
  intro j x hx k M ⟨T,hI⟩ q G1 L lo y;subst T;obtain⟨Z,hbj⟩:=hb j x hx;have h:=hbj k q hI (G1++([.bD,.loop .ready none f e a as c]++L));obtain⟨ex,fr,N,DL,rfl,R1,rfl,F⟩:=h;have F:=F (G1++([.bD,.loop .busy none f e a as c]++L)) (by simp);obtain⟨V,fr2,Y,Pu,B,t,iB,S,m,hex⟩:=F;obtain⟨h2',mr⟩:=Y;simp only at B S;subst B S;have hn: (k++(G1++([ae.bD,.loop .ready none f e a as c]++L))).length=(t++(G1++([ae.bD,.loop .busy none f e a as c]++L))).length:=by
   simp[q,m]
  have u: ∀ (O:Option PC),rV V=some O->jW X (D X) Lw l x ⟨k++(G1++([ae.bD,.loop .ready none f e a as c]++L)),lo⟩=some (.ret (.bool O.isNone) ⟨t++(G1++([ae.bD,.loop (if O.isNone then .ready else .done) O f e a as c]++L)),lo⟩):=by
   intro O DM;unfold jW;simp only[w k G1 _ _ L q y];rw[afl Z,DL];simp only;have e1:k++((G1++([ae.bD,.loop .ready none f e a as c]++L))++R1)=k++(G1++([ae.bD,.loop .ready none f e a as c]++(L++R1))):=by simp
   rw[e1,w k G1 _ _ (L++R1) q y];simp only[n,z k G1 _ _ _ (L++R1) q y];have e2:k++(G1++([ae.bD,.loop .busy none f e a as c]++(L++R1)))=k++((G1++([ae.bD,.loop .busy none f e a as c]++L))++R1):=by simp
   rw[e2,Pu];have e3:t++((G1++([ae.bD,.loop .busy none f e a as c]++L))++iB)=t++(G1++([ae.bD,.loop .busy none f e a as c]++(L++iB))):=by simp
   simp only[endRound,DM,e3,w t G1 _ _ (L++iB) m y,n,z t G1 _ _ _ (L++iB) m y];have e4: ∀o:ae,(t++(G1++([ae.bD,o]++(L++iB)))).take (k++(G1++([ae.bD,.loop .ready none f e a as c]++L))).length=t++(G1++([ae.bD,o]++L)):=by
    intro o;have:t++(G1++([ae.bD,o]++(L++iB)))=(t++(G1++([ae.bD,o]++L)))++iB:=by simp
    rw[this];exact ape (by simp[q,m])
   simp only[finish,freeze,AV.refs,agS,aiH,e4]
  cases V with
  |normal=>
   exact⟨true,t,_,m,rfl,Il (u none rfl),by simp only[aiH];exact⟨rfl,hex⟩⟩
  |ret=>
   exact⟨false,t,[.bD,.loop .done (some .ret) f e a as c],m,rfl,Il (u (some .ret) rfl),by simp only[agX,amn];exact⟨.ret,rfl,rfl,hex⟩⟩
  |exit id=>
   exact⟨false,t,[.bD,.loop .done (some (.exit id)) f e a as c],m,rfl,Il (u (some (.exit id)) rfl),by simp only[agX,amn];exact⟨.exit id,rfl,rfl,hex⟩⟩
  |panic v=>exact hex.elim
 obtain⟨A',i,M',s,p,hM',hD,Im⟩:=Pt (.fn (.yield l) [] []) I' J' C A [.bD,.loop .ready none f e a as c] rfl ⟨rfl,h0⟩ none;have K: ((AS.push ⟨A++G,none⟩ .bD).push (.loop .ready none f e a as c))=(⟨A++(G++[.bD,.loop .ready none f e a as c]),none⟩:AS):=by simp[AS.push]
 have W: (A++G).length+1=l:=by simp[hl]
 have P: ∀r,endLoop l ⟨e,[(A++G).length]⟩ ⟨A'++(i++M'),none⟩=some r->aX X (D X) Lw f false (.hZ g a as c) ⟨e,[]⟩ ⟨A++G,none⟩=some r:=by
  intro r hr;simp only[aX,agX,amn];rw[afl hg,W,K,hD];exact hr
 rcases Im with⟨T,hI⟩| ⟨ex,T,hj,hJ⟩
 ·subst T;refine⟨.normal,⟨e,[(A++G).length]⟩,⟨A'++(i++[.bD,.loop .exhausted none f e a as c]),none⟩,P _ ?_,h1 A' i _ s p hI⟩;have:=w A' i .bD (.loop .ready none f e a as c) [] s p;have U:=z A' i .bD (.loop .ready none f e a as c) (.loop .exhausted none f e a as c) [] s p;simp only[aip]at this U;unfold endLoop;simp only[this];rw[afi (by decide),n,U]
 ·subst T;refine⟨ex,⟨e,[(A++G).length]⟩,⟨A'++(i++[.bD,.loop .exhausted (some ex.code) f e a as c]),none⟩,P _ ?_,h2 ex A' i _ s p hJ⟩;have:=w A' i .bD (.loop .done (some ex.code) f e a as c) [] s p;have U:=z A' i .bD (.loop .done (some ex.code) f e a as c) (.loop .exhausted (some ex.code) f e a as c) [] s p;simp only[aip]at this U;unfold endLoop;simp only[this,hj];rw[afi (by decide),n,U]
end
section
structure YV(S:Type)where
 P:S->List ae->Prop
 row:S->oN
 dN:Nat->Prop
 c:Nat
structure YV.Ok{S:Type}(V:YV S):Prop where
 st: ∀s W W',V.P s W->(∀i,V.dN i\/V.row s=some i->W'[i]?=W[i]?)->V.P s W'
 lt: ∀s W r,V.P s W->V.row s=some r-> ∃v z t af,W[r]?=some (.row v z t af)
def YV.Fr{S:Type}(V:YV S)(s:S)(W a:List ae):Prop:=W.length<=a.length/\ ∀i,i<W.length-> ¬V.dN i->V.row s≠some i->a[i]?=W[i]?
def m2(c b:Nat)(lo ak:oN)(r a:oN):Prop:=(ak=lo/\a=r)\/ ∃j,c<=j/\j<b/\ak=cC lo j
variable{X:Ctx}
def afm(X:Ctx){S:Type}(V:YV S)(b:Nat)(y:AV)(x:lA)(s:S)(Q:Bool->S->Prop):Prop:=
 ∀W,V.P s W->b<=W.length-> ∀lo,∃c a d ak,D X y x ⟨W,lo⟩=some (.ret (.bool c) ⟨d,ak⟩)/\V.P a d/\V.Fr s W d/\ (V.row a=V.row s\/ ∃r,V.row a=some r/\W.length<=r)/\m2 V.c b lo ak (V.row s) (V.row a)/\Q c a
def uH(X:Ctx)(g:AV)(a:Nat)(G:List ae)(xs:List lA):Prop:=
 ∀ (S:Type) (V:YV S) (y:AV) (I:Nat->S->Prop) (J:S->Prop) (b:Nat),V.Ok->(∀i,V.dN i->i<b/\ ¬(a<=i/\i<a+G.length))->
   (∀j x s,xs[j]?=some x->I j s->afm X V b y x s (λc d=>if c=true then I (j+1) d else J d))->
   ∀W s,V.P s W->I 0 s->W.length=b->V.row s=none->(∀i,i<G.length->W[a+i]?=G[i]?)-> ∀lo,∃d e ak,
    D X g [y] ⟨W,lo⟩=some (.ret (.au []) ⟨e,ak⟩)/\V.P d e/\ (I xs.length d\/J d)/\b<=e.length/\
    (∀i,i<b-> ¬V.dN i-> ¬(a<=i/\i<a+G.length)->e[i]?=W[i]?)/\m2 V.c b lo ak none (V.row d)
theorem DN:cC none j=some j:=rfl
def afn: ∃q,cC (some i) j=some q/\ (q=i\/q=j):=by
 refine⟨Nat.min j i,rfl,?_⟩
 grind
def afo{S:Type}(V:YV S)(b:Nat)(s:S)(W:List ae)(I:S->Prop)(J:Ex->S->Prop):bQ:=λex _ E=>
 ∃a,V.P a E.heap/\V.Fr s W E.heap/\ ((E.lo=none/\V.row a=V.row s)\/ ∃j,V.c<=j/\j<b/\E.lo=some j/\ (V.row a=V.row s\/ ∃r,V.row a=some r/\W.length<=r))/\
  (match ex with|.normal=>I a|.panic _=>False|ex=>J ex a)
def Pv{H:List ae}(a:v.refs=0): (finish n lo v ⟨H,ak⟩).2=(match ak with|none=>⟨H.take n,lo⟩|some j=>if n<=j then⟨H.take n,lo⟩else⟨H,cC lo j⟩):=by
 have c: ∀k E,freeze E n (k+1) v=some v:=λk E=>yw (by omega)
 unfold finish;cases ak with
 |none=>grind
 |some j=>
  simp only[amB];split
  ·grind
  ·rfl
def qJ{W:List ae}{o:ae}(h:i≠l): (W.set l o)[i]?=W[i]?:=by grind
def afp{W:List ae}{o:ae}(h:l<W.length): (W.set l o)[l]?=some o:=by grind
def yV{S:Type}(V:YV S)(m:Nat)(f:FuncId)(e:Env)(a:lN)(as d:PC):YV (S×Option Ex)where
 P:=λs W=>V.P s.1 W/\W[m]?=some .bD/\W[m+1]?=some (match s.2 with|none=>.loop .ready none f e a as d|some ex=>.loop .done (some ex.code) f e a as d)
 row:=λs=>V.row s.1
 dN:=λi=>V.dN i\/i=m\/i=m+1
 c:=V.c
theorem arJ{S:Type}{V:YV S}(c:V.Ok){d:lN}{as n:PC}: (yV V m f e d as n).Ok where
 st:=λs W o ⟨l,k,j⟩ h=>by
  refine⟨c.st _ _ _ l λi a=>h i ?_,?_,?_⟩
  ·rcases a with a|a
   ·exact .inl (.inl a)
   ·exact .inr a
  ·rw[h m (.inl (.inr (.inl rfl)))];exact k
  ·rw[h (m+1) (.inl (.inr (.inr rfl)))];exact j
 lt:=λs W r h g=>c.lt _ _ r h.1 g
def Io{S:Type}(V:YV S)(P:V.Ok){g:ao}{p:lN}{as u:PC}{Q:bQ}(xs:List lA)(a:Nat)(G W0:List ae)(s0:S)
  (hg:rT X (g.get e)=true) (Pt:uH X (g.get e) a G xs) (hG: ∀i,i<G.length->W0[a+i]?=G[i]?) (hGl:a+G.length<=W0.length)
  (q: ∀i,V.dN i->i<W0.length/\ ¬(a<=i/\i<a+G.length)) (hP:V.P s0 W0) (U:V.row s0=none)
  (I:Nat->S->Prop) (J:Ex->S->Prop) (h0:I 0 s0) (hJ: ∀ex s,J ex s-> ∃t,rV ex=some (some t)/\Ad t=some ex/\ex.code=t)
  (hb: ∀j x s,xs[j]?=some x->I j s->x.length=p.length/\ ∀W,V.P s W->W0.length+2<=W.length->
    wp X f true as ⟨iD e p x,[]⟩ ⟨W,none⟩ (λex fr σ1=>ex= .normal/\ ∃R1,σ1=⟨W++R1,none⟩/\
     ∀K,K.length=W.length->V.P s K->wp X f true u fr ⟨K++R1,none⟩ (afo V (W0.length+2) s K (I (j+1)) J)))
  (h1: ∀n k ak,I xs.length n->V.P n k->W0.length+2<=k.length->k[W0.length]?=some .bD->(∀i,i<W0.length-> ¬V.dN i-> ¬(a<=i/\i<a+G.length)->k[i]?=W0[i]?)->m2 V.c (W0.length+2) none ak none (V.row n)->Q .normal ⟨e,[W0.length]⟩ ⟨k,ak⟩)
  (h2: ∀ex n k ak,J ex n->V.P n k->W0.length+2<=k.length->k[W0.length]?=some .bD->(∀i,i<W0.length-> ¬V.dN i-> ¬(a<=i/\i<a+G.length)->k[i]?=W0[i]?)->m2 V.c (W0.length+2) none ak none (V.row n)->Q ex ⟨e,[W0.length]⟩ ⟨k,ak⟩):
  wp X f false (.hZ g p as u) ⟨e,[]⟩ ⟨W0,none⟩ Q:=by
 obtain⟨m,hm⟩: ∃m,m=W0.length:=⟨_,rfl⟩
 let A:=yV V m f e p as u
 have hV':A.Ok:=arJ P
 let I':Nat->S×Option Ex->Prop:=λj s=>s.2=none/\I j s.1
 let J':S×Option Ex->Prop:=λs=> ∃ex,s.2=some ex/\J ex s.1
 have yx: ∀s W r,V.P s W->V.row s=some r->r<W.length:=λs W r h1 h2=>by
  obtain⟨_,_,_,_,h⟩:=P.lt s W r h1 h2;exact(aeA.1 h).1
 have arL: ∀j x s,xs[j]?=some x->I' j s->afm X A (m+2) (.fn (.yield (m+1)) [] []) x s (λc n=>if c=true then I' (j+1) n else J' n):=by
  rintro j x ⟨s,so⟩ hx ⟨z,hI⟩ W ⟨M,hd,hl⟩ hW lo;simp only at z hI M hl;subst z;simp only at hl;obtain⟨qz,hw⟩:=hb j x s hx hI;obtain⟨ex,fr,σ1,DL,rfl,R1,rfl,hbd⟩:=hw W M (by omega);have hnp: ∀i,V.dN i\/V.row s=some i->i≠m/\i≠m+1:=by
   rintro i (d|d)
   ·have:=(q i d).1;omega
   ·obtain⟨_,_,_,_,h⟩:=P.lt s W i M d;refine⟨?_,?_⟩
    ·rintro rfl;rw[hd]at h;cases h
    ·rintro rfl;rw[hl]at h;cases h
  obtain⟨K,F⟩: ∃K,K=W.set (m+1) (.loop .busy none f e p as u):=⟨_,rfl⟩;have AA:K.length=W.length:=by rw[F,ag7]
  have Pw:V.P s K:=P.st _ _ _ M λi d=>by rw[F,qJ (hnp i d).2]
  obtain⟨Ip,fr2,l,Pu,n,H,R,O,hex⟩:=hbd K AA Pw;have Iq: (W++R1)[m+1]?=some (.loop .ready none f e p as u):=by rw[aez (by omega)];exact hl
  have arN:AS.set ⟨W++R1,none⟩ (m+1) (.loop .busy none f e p as u) 0=⟨K++R1,none⟩:=by
   simp only[AS.set,agS,aiH,F];rw[arP _ _ (by omega)]
  have arO:K[m+1]?=some (.loop .busy none f e p as u):=by rw[F];exact afp (by omega)
  have N: ∀i,i=m\/i=m+1-> ¬V.dN i/\V.row s≠some i:=λi d=>⟨λh=>by have:=(q i h).1;omega,λh=>by have:=hnp i (.inr h);omega⟩
  have L:l.heap[m+1]?=some (.loop .busy none f e p as u):=by
   rw[R.2 (m+1) (by omega) (N _ (.inr rfl)).1 (N _ (.inr rfl)).2];exact arO
  have T:l.heap[m]?=some .bD:=by
   rw[R.2 m (by omega) (N _ (.inl rfl)).1 (N _ (.inl rfl)).2,F,qJ (by omega)];exact hd
  have Z: ∀i,V.dN i\/V.row n=some i->i≠m/\i≠m+1:=by
   rintro i (d|d)
   ·have:=(q i d).1;omega
   ·obtain⟨_,_,_,_,h⟩:=P.lt n _ i H d;refine⟨?_,?_⟩
    ·rintro rfl;rw[T]at h;cases h
    ·rintro rfl;rw[L]at h;cases h
  have aC9:W.length<=l.heap.length:=by have:=R.1;omega
  have Dq: ∀ (t:Option PC),rV Ip=some t->jW X (D X) Lw (m+1) x ⟨W,lo⟩=some (.ret (.bool t.isNone)
    (finish W.length lo (.bool t.isNone) ⟨l.heap.set (m+1) (.loop (if t.isNone then .ready else .done) t f e p as u),l.lo⟩).2):=by
   intro t DM;unfold jW;simp only[hl];rw[afl qz,DL];simp only[Iq,arN,Pu];simp only[endRound,DM,L,AS.set,agS,aiH]
  have key: ∀ (t:Option PC) (w:Option Ex),rV Ip=some t->(match w with|none=>ae.loop .ready none f e p as u|some ex=>.loop .done (some ex.code) f e p as u)= .loop (if t.isNone then .ready else .done) t f e p as u->
    ∃k ak,D X (.fn (.yield (m+1)) [] []) x ⟨W,lo⟩=some (.ret (.bool t.isNone) ⟨k,ak⟩)/\A.P (n,w) k/\A.Fr (s,none) W k/\ (A.row (n,w)=A.row (s,none)\/ ∃r,A.row (n,w)=some r/\W.length<=r)/\m2 A.c (m+2) lo ak (A.row (s,none)) (A.row (n,w)):=by
   intro t w DM Y;obtain⟨o,ho⟩: ∃o,o=ae.loop (if t.isNone then .ready else .done) t f e p as u:=⟨_,rfl⟩;rw[<-ho]at Y;have hD:=Il (Dq t DM);rw[<-ho]at hD;have afs: ∀k,(∀i,i<W.length->k[i]?=(l.heap.set (m+1) o)[i]?)->(∀i,V.row n=some i->k[i]?=(l.heap.set (m+1) o)[i]?)->W.length<=k.length->A.P (n,w) k/\A.Fr (s,none) W k:=by
    intro k B hrw y;refine⟨⟨P.st _ _ _ H λi d=>?_,?_,?_⟩,y,λi d hp C=>?_⟩
    ·rcases d with d|d
     ·rw[B i (by have:=(q i d).1;omega),qJ (Z i (.inl d)).2]
     ·rw[hrw i d,qJ (Z i (.inr d)).2]
    ·rw[B m (by omega),qJ (by omega)];exact T
    ·rw[B (m+1) (by omega),afp (by omega)];exact akp some Y.symm
    ·have hp1: ¬V.dN i:=λh=>hp (.inl h)
     have DO:i≠m/\i≠m+1:=⟨λh=>hp (.inr (.inl h)),λh=>hp (.inr (.inr h))⟩;rw[B i d,qJ DO.2,R.2 i (by omega) hp1 C,F,qJ DO.2]
   rcases O with⟨hn,C⟩| ⟨jj,hc,hj,hn,C⟩
   ·have e1: (finish W.length lo (.bool t.isNone) ⟨l.heap.set (m+1) o,l.lo⟩).2=⟨(l.heap.set (m+1) o).take W.length,lo⟩:=by rw[Pv rfl,hn]
    rw[e1]at hD;refine⟨_,_,hD,?_⟩;obtain⟨g1,g2⟩:=afs ((l.heap.set (m+1) o).take W.length) (λi d=>by rw[aiE d])
     (λi d=>by rw[aiE (yx s W i M (by rw[<-C];exact d))]) (by rw[aiI,ag7];omega)
    exact⟨g1,g2,.inl C,.inl ⟨rfl,C⟩⟩
   ·have e1: (finish W.length lo (.bool t.isNone) ⟨l.heap.set (m+1) o,l.lo⟩).2=⟨l.heap.set (m+1) o,cC lo jj⟩:=by
      rw[Pv rfl,hn];simp only;rw[afi (by omega)]
    rw[e1]at hD;refine⟨_,_,hD,?_⟩;obtain⟨g1,g2⟩:=afs (l.heap.set (m+1) o) (λi _=>rfl) (λi _=>rfl) (by rw[ag7];omega);refine⟨g1,g2,?_,.inr ⟨jj,hc,by omega,rfl⟩⟩;rcases C with C| ⟨r,C,aDa⟩
    ·exact .inl C
    ·exact .inr ⟨r,C,by omega⟩
  cases Ip with
  |normal=>
   obtain⟨k,ak,g1,g2,g3,g4,g5⟩:=key none none rfl rfl;exact⟨true,(n,none),k,ak,g1,g2,g3,g4,g5,by simp only[aiH];exact⟨rfl,hex⟩⟩
  |panic v=>exact hex.elim
  |ret=>
   obtain⟨k,ak,g1,g2,g3,g4,g5⟩:=key (some .ret) (some .ret) rfl rfl;exact⟨false,(n,some .ret),k,ak,g1,g2,g3,g4,g5,by simp only[agX,amn];exact⟨.ret,rfl,hex⟩⟩
  |exit id=>
   obtain⟨k,ak,g1,g2,g3,g4,g5⟩:=key (some (.exit id)) (some (.exit id)) rfl rfl;exact⟨false,(n,some (.exit id)),k,ak,g1,g2,g3,g4,g5,by simp only[agX,amn];exact⟨.exit id,rfl,hex⟩⟩
 have arR: ∀i,A.dN i->i<m+2/\ ¬(a<=i/\i<a+G.length):=by
  rintro i (d|rfl|rfl)
  ·have:=q i d;exact⟨by omega,this.2⟩
  ·exact⟨by omega,by omega⟩
  ·exact⟨by omega,by omega⟩
 have arS: ∀i,V.dN i\/V.row s0=some i->i<W0.length:=by
  rintro i (d|d)
  ·exact(q i d).1
  ·rw[U]at d;cases d
 have Px:A.P (s0,none) (W0++[.bD,.loop .ready none f e p as u]):=by
  refine⟨P.st _ _ _ hP λi d=>by rw[aez (arS i d)],?_,?_⟩
  ·rw[hm,dh rfl];rfl
  ·rw[hm,bz rfl];rfl
 obtain⟨⟨n,w⟩,k,ak,hD,⟨H,Aw,E⟩,Im,y,pc,O⟩:=Pt _ A (.fn (.yield (m+1)) [] []) I' J' (m+2) hV' arR arL (W0++[.bD,.loop .ready none f e p as u]) (s0,none) Px ⟨rfl,h0⟩ (by simp[hm]) U
  (λi d=>by rw[aez (by omega)];exact hG i d) none
 simp only at H E;have arT: ∀i,V.dN i\/V.row n=some i->i≠m/\i≠m+1:=by
  rintro i (d|d)
  ·have:=(q i d).1;omega
  ·obtain⟨_,_,_,_,h⟩:=P.lt n _ i H d;refine⟨?_,?_⟩
   ·rintro rfl;rw[Aw]at h;cases h
   ·rintro rfl;rw[E]at h;cases w<;>cases h
 have aft: ∀o,V.P n (k.set (m+1) o)/\m+2<=(k.set (m+1) o).length/\ (k.set (m+1) o)[m]?=some .bD/\ (∀i,i<m-> ¬V.dN i-> ¬(a<=i/\i<a+G.length)->(k.set (m+1) o)[i]?=W0[i]?):=by
  intro o;refine⟨P.st _ _ _ H λi d=>by rw[qJ (arT i d).2],by rw[ag7];exact y,by rw[qJ (by omega)];exact Aw,λi d hp hg'=>?_⟩;rw[qJ (by omega),pc i (by omega) (λh=>by rcases h with h|h|h;exact hp h;omega;omega) hg',aez (by omega)]
 have arV: ((AS.push ⟨W0,none⟩ .bD).push (.loop .ready none f e p as u))=(⟨W0++[.bD,.loop .ready none f e p as u],none⟩:AS):=by simp[AS.push]
 have hrc: ∀r,endLoop (m+1) ⟨e,[m]⟩ ⟨k,ak⟩=some r->aX X (D X) Lw f false (.hZ g p as u) ⟨e,[]⟩ ⟨W0,none⟩=some r:=by
  intro r C;simp only[aX,agX,amn];rw[afl hg,<-hm,arV,hD];exact C
 rcases Im with⟨z,hI⟩| ⟨ex,z,hJx⟩
 ·simp only at z;subst z;simp only at E;obtain⟨q1,q2,q3,q4⟩:=aft (.loop .exhausted none f e p as u);refine⟨.normal,⟨e,[m]⟩,⟨k.set (m+1) (.loop .exhausted none f e p as u),ak⟩,hrc _ ?_,?_⟩
  ·unfold endLoop;simp only[E,AS.set,agS,aiH];rfl
  ·rw[hm]at q2 q3 q4⊢;exact h1 n _ ak hI (hm ▸ q1) q2 q3 q4 (hm ▸ O)
 ·simp only at z;subst z;simp only at E;obtain⟨t,j1,j2,j3⟩:=hJ ex n hJx;obtain⟨q1,q2,q3,q4⟩:=aft (.loop .exhausted (some ex.code) f e p as u);refine⟨ex,⟨e,[m]⟩,⟨k.set (m+1) (.loop .exhausted (some ex.code) f e p as u),ak⟩,hrc _ ?_,?_⟩
  ·unfold endLoop;simp only[E,j3,j2,AS.set,agS,aiH];rfl
  ·rw[hm]at q2 q3 q4⊢;exact h2 ex n _ ak hJx (hm ▸ q1) q2 q3 q4 (hm ▸ O)
structure jZ{S:Type}(V:YV S)(b:Nat)(W0:List ae)(own:Nat->Prop)(s:S)(W:List ae)(lo:oN):Prop where
 P:V.P s W
 len:b<=W.length
 fr: ∀i,i<b-> ¬V.dN i-> ¬own i->W[i]?=W0[i]?
 lo: (lo=none/\V.row s=none)\/ ∃j,V.c<=j/\j<b/\lo=some j
 row: ∀r,V.row s=some r->b<=r
section
variable{S:Type}{V:YV S}{b:Nat}{W0 W:List ae}{own:Nat->Prop}{s:S}{lo:oN}
def YV.Ok.Ir(a:V.Ok)(d:V.P s W)(c:V.row s=some r):r<W.length:=by
 obtain⟨_,_,_,_,h⟩:=a.lt s W r d c
 grind
def jZ.push(c:V.Ok)(d: ∀i,V.dN i->i<b)(h:jZ V b W0 own s W lo)(L:List ae):jZ V b W0 own s (W++L) lo where
 P:=c.st _ _ _ h.P λi a=>by
  have:i<W.length:=by
   rcases a with a|a
   ·have:=d i a;have:=h.len;omega
   ·exact c.Ir h.P a
  grind
 len:=by have:=h.len;grind
 fr:=λi a f e=>by rw[aez (by have:=h.len;omega)];exact h.fr i a f e
 lo:=h.lo
 row:=h.row
theorem jZ.set(c:V.Ok)(h:jZ V b W0 own s W lo){o:ae}(g: ¬V.dN k)(f:V.row s≠some k)(ho:own k\/b<=k):jZ V b W0 own s (W.set k o) lo where
 P:=c.st _ _ _ h.P λi a=>by grind
 len:=by rw[ag7];exact h.len
 fr:=λi a e d=>by
  rw[qJ]
  ·exact h.fr i a e d
  grind
 lo:=h.lo
 row:=h.row
def jZ.step(h:jZ V b W0 own s W lo){a:S}{d:List ae}(u:V.P a d)(k:V.Fr s W d)(t:V.row a=V.row s\/ ∃r,V.row a=some r/\W.length<=r)(p:m2 V.c b lo ak (V.row s) (V.row a)):jZ V b W0 own a d ak where
 P:=u
 len:=ajR h.len k.1
 fr:=λi g c f=>by
  have x:=h.len;rw[k.2 i (by omega) c (λe=>by have:=h.row i e;omega)];exact h.fr i g c f
 lo:=by
  rcases p with⟨rfl,e⟩| ⟨j,o,m,rfl⟩
  ·rcases h.lo with⟨c,f⟩|q
   ·grind
   grind
  ·rcases h.lo with⟨rfl,_⟩| ⟨i,n,g,rfl⟩
   ·exact .inr ⟨j,o,m,rfl⟩
   ·obtain⟨q,e,w⟩:=afn (i:=i) (j:=j)
    grind
 row:=λr e=>by
  rcases t with q| ⟨v,q,l⟩
  ·exact h.row r (by grind)
  ·rw[q]at e;cases e;exact ajR h.len l
def jZ.fin(m:V.Ok)(p: ∀i,V.dN i->i<b)(h:jZ V b W0 own s W lo){dx:oN}: ∃a ak,(finish b dx (.au []) ⟨W,lo⟩)=(.au [],⟨a,ak⟩)/\V.P s a/\b<=a.length/\
  (∀i,i<b-> ¬V.dN i-> ¬own i->a[i]?=W0[i]?)/\m2 V.c b dx ak none (V.row s):=by
 have e: (finish b dx (.au []) ⟨W,lo⟩).1= .au []:=by
  have r:freeze ⟨W,lo⟩ b 12 (.au [])=some (.au []):=yw (agS _);have key: ∀c:Bool,(if c=true then(match freeze ⟨W,lo⟩ b 12 (.au [])with|some v'=>(v',(⟨W.take b,dx⟩:AS))|none=>(.au [],⟨W,fU dx lo⟩))else(.au [],⟨W,fU dx lo⟩)).1= .au []:=by grind
  cases lo with
  |none=>exact key true
  |some j=>exact key (decide (b<=j))
 have o:=Pv (n:=b) (lo:=dx) (ak:=lo) (v:=.au []) (H:=W) rfl;rcases h.lo with⟨rfl,q⟩| ⟨j,l,k,rfl⟩
 ·refine⟨W.take b,dx,Prod.ext e o,?_,?_,?_,.inl ⟨rfl,q⟩⟩
  ·refine m.st _ _ _ h.P λi d=>?_
   grind
  ·rw[aiI];have:=h.len;omega
  ·intro i d g f;rw[aiE d];exact h.fr i d g f
 ·refine⟨W,cC dx j,Prod.ext e ?_,h.P,h.len,h.fr,.inr ⟨j,l,k,rfl⟩⟩
  grind
end
def SV(p sz:Nat)(ty:TypeId)(W:List ae)(r:oN)(af:List lA):Prop:=
 (r=none/\af=[]/\W[p]?=some (.box [.ai] none))\/ ∃id aj,r=some id/\af≠[]/\p<id/\W[p]?=some (.box [.ref id aj sz 0 af.length false] none)/\W[id]?=some (.row aj sz ty af)
def SV.st{ty:TypeId}{W f:List ae}{r:oN}(h:SV p sz ty W r af)(j:f[p]?=W[p]?)(g: ∀i,r=some i->f[i]?=W[i]?):SV p sz ty f r af:=by
 rcases h with⟨a,b,c⟩| ⟨id,aj,a,e,b,c,d⟩
 ·exact .inl ⟨a,b,by grind⟩
 ·exact .inr ⟨id,aj,a,e,b,by grind,by grind⟩
theorem SV.row{ty:TypeId}{W:List ae}{r:oN}(h:SV p sz ty W r af)(e:r=some i): ∃v z t es,W[i]?=some (.row v z t es):=by
 rcases h with⟨a,b,c⟩| ⟨id,aj,a,f,b,c,d⟩
 ·grind
 grind
def afw{H:List ae}{v0:AV}(h:H[p]?=some (.box [v0] tg))(c:v.cb=false)(a:v.cells=[v])(d:p+1<v.refs):kK ⟨H,lo⟩ 1 (.ptr p 0) v=some ⟨H.set p (.box [v] tg),cC lo p⟩:=by
 unfold kK;simp only[h,a];rw[afl ⟨c,rfl,agW _⟩];simp only[AS.set];rw[afi (by omega)];rfl
def SV.append{bytes:Nat}{ty:TypeId}{W:List ae}{r:oN}{el:lA}(h:SV p sz ty W r af)(l:p<W.length)(t:0<sz)(w:el.length=sz)(u:aG el=0)(n: (af.length+1)*bytes<=room)(lo:oN):
  ∃v v' o a f,W[p]?=some (.box [v] none)/\dw ⟨W,lo⟩ ty sz bytes v [el]=some (v',⟨o,lo⟩)/\kK ⟨o,lo⟩ 1 (.ptr p 0) v'=some ⟨a,cC lo p⟩/\SV p sz ty a f (af++[el])/\
   W.length<=a.length/\ (∀i,i<W.length->i≠p->r≠some i->a[i]?=W[i]?)/\ (f=r\/ ∃q,f=some q/\W.length<=q):=by
 have m:0<sz/\ [el].all (λx=>x.length==sz)=true:=⟨t,by grind⟩;rcases h with⟨rfl,rfl,c⟩| ⟨id,aj,rfl,_,g,c,d⟩
 ·have e1:dw ⟨W,lo⟩ ty sz bytes .ai [el]=some (.ref W.length 0 sz 0 1 false,⟨W++[.row 0 sz ty [el]],lo⟩):=by
    unfold dw;rw[afl m];simp only[ag5,aoY,ana,Nat.one_ne_zero,amn];rw[afl (by simpa using n)];rfl
  have k: (W++[ae.row 0 sz ty [el]])[p]?=some (.box [.ai] none):=by rw[aez l];exact c
  refine⟨.ai,_,_,(W++[ae.row 0 sz ty [el]]).set p (.box [.ref W.length 0 sz 0 1 false] none),some W.length,c,e1,?_,.inr ⟨W.length,0,rfl,by simp,l,?_,?_⟩,?_,?_,.inr ⟨_,rfl,agW _⟩⟩
  ·exact afw k rfl rfl (by simp only[AV.refs];omega)
  ·exact ag1 (by rw[agU];omega)
  ·rw[aex (by omega)];simp
  ·simp
  grind
 ·have j:=(aeA.1 d).1;have e1:dw ⟨W,lo⟩ ty sz bytes (.ref id aj sz 0 af.length false) [el]=some (.ref id (aj+1) sz 0 (af.length+1) false,⟨W.set id (.row (aj+1) sz ty (af++[el])),lo⟩):=by
   unfold dw;rw[afl m];simp only[d];rw[afl ⟨trivial,trivial,trivial,trivial,by omega,by simpa using n⟩];simp[AS.set,b8,u]
  have k: (W.set id (ae.row (aj+1) sz ty (af++[el])))[p]?=some (.box [.ref id aj sz 0 af.length false] none):=by rw[aex (by omega)];exact c
  refine⟨_,_,_,(W.set id (.row (aj+1) sz ty (af++[el]))).set p (.box [.ref id (aj+1) sz 0 (af.length+1) false] none),some id,c,e1,?_,.inr ⟨id,aj+1,rfl,by simp,g,?_,?_⟩,?_,?_,.inl rfl⟩
  ·exact afw k rfl rfl (by simp only[AV.refs];omega)
  ·rw[ag1 (by rw[ag7];omega)];simp
  ·rw[aex (by omega),ag1 j]
  ·simp
  ·intro i A z y;rw[aex (λe=>z e.symm),aex (λe=>y (by rw[e]))]
end
section
variable{X:Ctx}{f:FuncId}{rd:Bool}{E:AS}{Q:bQ}{e:Env}{ms:lN}{bH:List FP}{js:lN}{os:List (aO×lN)}{i:I}{d:oN}{dd t:Nat}{v:AV}
def AO(bH:List FP)(o:aO)(js:lN)(os:List (aO×lN))(e:Env)(ms:lN)(Q:bQ):AV->AS->Prop:=λv E=>C0 bH (o,js) os=true/\Q (.panic v) ⟨e,ms⟩ E
def gD(X:Ctx)(t:Nat)(b:Bool)(d:oN)(i:I)(js:lN)(os:List (aO×lN))(bH:List FP)(e:Env)(ms:lN)(E:AS)(Q:bQ)(c:AV):Prop:=match c with
 |.bool x=>if x=b then aP X i e E (kD X i E bH js os d e ms Q) (AO bH ⟨some (t,b),d,i⟩ js os e ms Q)else gp X (bH++[.no]) os (Fr.put ⟨e,ms⟩ d .undef) E Q
 |_=>gp X (bH++[.no]) os (Fr.put ⟨e,ms⟩ d .undef) E Q
def afx{b:Bool}:gp X bH ((⟨some (t,b),d,i⟩,js)::os) ⟨e,ms⟩ E Q=gD X t b d i js os bH e ms E Q (e t):=by
 unfold gD;split
 ·rename_i x a;by_cases h:x=b
  ·subst h;apply propext;simp only[gp,aP,fY,fK,a,beq_self_eq_true,aiH];cases a:exec X (D X) i e E with
   |none=>simp[qE]
   |some o=>
    cases o with
    |ok v g=>
     simp only[qE,O4];by_cases c:qG bH (ba i e E g) js=true
     ·rw[afl c];exact⟨λh=>⟨c,h⟩,λh=>h.2⟩
     ·simp[kD,c]
    |panic v g=>
     simp only[qE,AO]
     grind
  ·rw[afi h];have: (x==b)=false:=by grind
   simp only[gp,fY,fK,a,this,agX,amn]
 ·have:fK e (some (t,b))=false:=by
    unfold fK;simp only
  simp only[gp,fY,this,agX,amn]
theorem afy:gp X bH ((gt t d i,js)::os) ⟨e,ms⟩ E Q=gD X t true d i js os bH e ms E Q (e t):=afx
theorem afz:gp X bH ((gf t d i,js)::os) ⟨e,ms⟩ E Q=gD X t false d i js os bH e ms E Q (e t):=afx
theorem afA:gD X t true (some dd) i js os bH e ms E Q (.bool true)=aP X i e E (kD X i E bH js os (some dd) e ms Q) (AO bH ⟨some (t,true),(some dd),i⟩ js os e ms Q):=rfl
theorem afB:gD X t true none i js os bH e ms E Q (.bool true)=aP X i e E (kD X i E bH js os none e ms Q) (AO bH ⟨some (t,true),none,i⟩ js os e ms Q):=rfl
theorem afC:gD X t false (some dd) i js os bH e ms E Q (.bool false)=aP X i e E (kD X i E bH js os (some dd) e ms Q) (AO bH ⟨some (t,false),(some dd),i⟩ js os e ms Q):=rfl
theorem afD:gD X t false none i js os bH e ms E Q (.bool false)=aP X i e E (kD X i E bH js os none e ms Q) (AO bH ⟨some (t,false),none,i⟩ js os e ms Q):=rfl
theorem afE:gD X t true (some dd) i js os bH e ms E Q (.bool false)=gp X (bH++[.no]) os ⟨e.set dd .undef,ms⟩ E Q:=rfl
theorem afF:gD X t true none i js os bH e ms E Q (.bool false)=gp X (bH++[.no]) os ⟨e,ms⟩ E Q:=rfl
theorem afG:gD X t false (some dd) i js os bH e ms E Q (.bool true)=gp X (bH++[.no]) os ⟨e.set dd .undef,ms⟩ E Q:=rfl
theorem afH:gD X t false none i js os bH e ms E Q (.bool true)=gp X (bH++[.no]) os ⟨e,ms⟩ E Q:=rfl
theorem afI{b:Bool}{c:lA}:gD X t b (some dd) i js os bH e ms E Q (.au c)=gp X (bH++[.no]) os ⟨e.set dd .undef,ms⟩ E Q:=rfl
theorem afJ{b:Bool}{c:lA}:gD X t b none i js os bH e ms E Q (.au c)=gp X (bH++[.no]) os ⟨e,ms⟩ E Q:=rfl
def G1:=gG @afy<|gG @afz<|gG @afA<|gG @afB<|gG @afC<|gG @afD<|gG @afE<|gG @afF<|gG @afG<|gG @afH<|gG @afI @afJ
end
def Fz(E:AS)(N d:Nat)(v v':AV):Prop:= ∀k,freeze E N (k+d) v=some v'
def gT(E:AS)(N d:Nat)(cs se:lA):Prop:= ∀k,ia E N (k+d) cs=some se
section
variable{E:AS}{N d:Nat}{a a' v v':AV}{cs se:lA}
theorem Fz.low(h:v.refs<=N):Fz E N (d+1) v v:=λk=>yw h
theorem gT.nil:gT E N d [] []:=λk=>by cases h:k+d<;>rw[ia]
theorem gT.cons(h:Fz E N d a a')(b:gT E N (d+1) cs se):gT E N (d+1) (a::cs) (a'::se):=λk=>by
 have e1:=h k;have c:=b k;rw[<-anv]at c⊢;rw[ia,e1]
 grind
def gT.eq(h:gT E N d cs se)(b:aG cs<=N):se=cs:=by
 have e1:=h 2;rw[Nat.add_comm 2 d,Pk cs b]at e1
 grind
theorem Fz.agg(h:gT E N d cs se):Fz E N (d+1) (.agg cs) (.agg se):=λk=>by
 have e1:=h k;rw[<-anv,freeze];split
 ·rename_i b;rw[h.eq b]
 grind
theorem Fz.au(h:gT E N d cs se):Fz E N (d+1) (.au cs) (.au se):=λk=>by
 have e1:=h k;rw[<-anv,freeze];split
 ·rename_i b;rw[h.eq b]
 grind
theorem Fz.own{H:List ae}{ty:TypeId}(h:aQ N H v sz ty af)(b:b8 af<=N):Fz ⟨H,lo⟩ N (d+4) v (bt v af):=λk=>by
 exact h.freeze b
theorem Fz.mono(h:Fz E N d v v')(b:d<=m):Fz E N m v v':=λk=>by
 have:=h (k+(m-d))
 grind
def uI{H:List ae}(b:ak=none\/ ∃j,N<=j/\ak=some j)(h:Fz ⟨H,ak⟩ N 12 v v'):finish N lo v ⟨H,ak⟩=(v',⟨H.take N,lo⟩):=by
 refine HS ?_ (by simpa using h 0)
 grind
def SV.own{ty:TypeId}{W:List ae}{r:oN}(h:SV p sz ty W r af)(f:N<=p)(b: ∀el∈af,el.length=sz): ∃v,W[p]?=some (.box [v] none)/\aQ N W v sz ty af/\v.cb=false/\v.cells=[v]/\ (v= .ai\/p+1<v.refs):=by
 rcases h with⟨_,rfl,c⟩| ⟨id,aj,_,_,q,c,e⟩
 ·exact⟨.ai,c,aQ.ai,rfl,rfl,.inl rfl⟩
 ·exact⟨_,c,⟨b,.inr ⟨id,aj,by omega,rfl,e⟩⟩,rfl,rfl,.inr (by simp only[AV.refs];omega)⟩
end
def dG(N:Nat)(lo:oN):Prop:=lo=none\/ ∃j,N<=j/\lo=some j
def dG.min{N:Nat}(h:dG N lo)(b:N<=p)(c:ak=lo\/ak=cC lo p):dG N ak:=by
 rcases c with rfl|rfl
 ·exact h
 ·rcases h with rfl| ⟨j,g,rfl⟩
  ·exact .inr ⟨p,b,rfl⟩
  ·obtain⟨q,e,f⟩:=afn (i:=j) (j:=p);exact .inr ⟨q,by omega,e⟩
section
variable{P:Program}{X:Ctx}{B:Nat}{av:World}
noncomputable def AP(X:Ctx)(dx:oN)(pf:PF):ja->Option aS
 |some (.normal,fr,E)=>(dy E fr.marks).bind λa=>(fk X a fr.env pf.results).map λv=>.ret v {heap:=a.heap,lo:=fU dx a.lo}
 |some (.ret,fr,E)=>(dy E fr.marks).bind λa=>(fk X a fr.env pf.results).map λv=>.ret v {heap:=a.heap,lo:=fU dx a.lo}
 |_=>none
noncomputable def nW(X:Ctx)(C:bu)(L:ed)(f:FuncId)(pf:PF)(args:lA)(E:AS):Option aS:=
 if args.length<=pf.ntmps then AP X E.lo pf (aX X C L f false pf.body {env:=cZ args,marks:=[]} {heap:=E.heap,lo:=none})else none
def arW{ch:AS}{G:Gh}{E:AS}(c:fL.le G)(d:aU P B av G E w)(b:AS.Ext {heap:=ch.heap,lo:=none} E){v:AV}{v':Value}(f:an G v v'):
  ∃a,fL.le a/\aU P B av a {heap:=E.heap,lo:=fU ch.lo E.lo} w/\an a v v'/\ch.Ext {heap:=E.heap,lo:=fU ch.lo E.lo}:=by
 refine⟨G,c,d.lo _,f,b.len,λj h=>?_,λj o h=>?_⟩
 ·cases E.lo with
  |none=>exact h
  |some l=>exact Ai (.inl h)
 ·obtain⟨o',k,i⟩:=b.obj j o h;refine⟨o',k,i.imp id λ ⟨l,e,g⟩=>?_⟩;simp only[fU,e];exact Ai (.inr g)
section
variable{C:bu}(hC:fG P B av C)(hg:fo X B av)(hX:o5 P X)(gn:Aq P X B av){L:ed}(hL:yf L)
include hC hg hX gn hL
theorem arX(V:eO P f pf):ga P B av f (nW X C L f pf):=by
 intro args E t h G w b hw U;unfold nW at h;split at h
 ·rename_i Y;obtain⟨rows,fn,o,n⟩:=V;obtain⟨c,y,l,m,T,q⟩:=Hm n;have k: (callFunc f b).run P w= .ok (.enter f b) w:=by
   have s: ¬fn.name= "runtime.NumGoroutine" :=by grind
   simp[callFunc,arC,o,s,y]
  rw[k];show CallsIn (W none) 0 P f b w (Ends P B av G E t);cases g:aX X C L f false pf.body {env:=cZ args,marks:=[]} {heap:=E.heap,lo:=none}with
  |none=>rw[g]at h;simp[AP]at h
  |some res=>
   rw[g]at h;have he:cD G fn.ntmps (cZ args) (b++Array.replicate (fn.ntmps-b.size) undef):=Hp U (by omega);refine azk o y trivial (wb hC hg hX gn hL (r:=none) rfl c pf.body l G {heap:=E.heap,lo:=none} w {env:=cZ args,marks:=[]} _ res _ (hw.lo none) he rfl g (λe a w' S=>?_)) rfl;obtain⟨Z,K,J,I,H,F,u⟩:=S;obtain⟨ex,fr,z⟩:=res;have j: ((dy z fr.marks).bind λd=>(fk X d fr.env pf.results).map λv=>aS.ret v {heap:=d.heap,lo:=fU E.lo d.lo})=some t->LeavesInM (W none) 0 P fn a.tmps (Ends P B av G E t) a.defers .returning w':=by
    intro h;rw[ao9]at h;obtain⟨d,x,h⟩:=h;rw[agY]at h;obtain⟨v,R,rfl⟩:=h;refine yh (by simp) fr.marks a.defers z d w' H J x (λA i=>?_);obtain⟨v',e1,D⟩:=Dh hg i I m R;refine⟨v',e1,?_⟩;obtain⟨p,Q,O,N,M⟩:=arW K i (F.trans (yg _ _ _ x)) D;exact⟨p,Q,O,N,M⟩
   cases ex with
   |normal=>cases e<;>simp[fH]at u;exact j h
   |ret=>cases e<;>simp[fH]at u;exact j h
   |exit id=>simp[AP]at h
   |panic v=>simp[AP]at h
 grind
end
theorem wy(hg:fo X B av)(hX:o5 P X)(b: ∀f p,X.bU f=some p->ga P B av f p)(a:eO P f pf):ga P B av f (nW X (D X) Lw f pf):=
 arX (OE hg hX b) hg hX (Oj hg) aeB a
def AQ(X:Ctx)(lo:oN)(b:List RV)(R:aS->Prop):bQ
 |.normal,fr,E=> ∃a v,dy E fr.marks=some a/\fk X a fr.env b=some v/\R (.ret v {heap:=a.heap,lo:=fU lo a.lo})
 |.ret,fr,E=> ∃a v,dy E fr.marks=some a/\fk X a fr.env b=some v/\R (.ret v {heap:=a.heap,lo:=fU lo a.lo})
 |_,_,_=>False
def wz(pf:PF){args:lA}{H:List ae}{R:aS->Prop}(j:Nat.ble args.length pf.ntmps=true)
  (h: ∀n,H.length=n->wp X f false pf.body ⟨cZ args,[]⟩ ⟨H,none⟩ (AQ X lo pf.results R)): ∃g,nW X (D X) Lw f pf args ⟨H,lo⟩=some g/\R g:=by
 obtain⟨ex,fr,E,i,e⟩:=h _ rfl;unfold nW;rw[afl (ara j),i];cases ex with
 |normal=>
  obtain⟨a,v,d,c,b⟩:=e;exact⟨_,by simp only[AP,d,aqT,c,ag0],b⟩
 |ret=>
  obtain⟨a,v,d,c,b⟩:=e;exact⟨_,by simp only[AP,d,aqT,c,ag0],b⟩
 |exit _=>trivial
 |panic _=>trivial
def sf{R:aS->Prop}{E:AS}:AQ X lo [.t a] R .ret ⟨e,[]⟩ E=R (.ret (e a) {heap:=E.heap,lo:=fU lo E.lo}):=by
 simp only[AQ,wk,Zi]
 grind
end
def j0(W:List ae)(N:Nat):Nat->List ae->Prop
 |_,[]=>True
 |k,b::bs=>W[N+k]?=some b/\j0 W N (k+1) bs
theorem gF{W:List ae}{N:Nat}:j0 W N k []=True:=rfl
theorem gH{W:List ae}{N:Nat}{b:ae}{bs:List ae}:j0 W N k (b::bs)=(W[N+k]?=some b/\j0 W N (k+1) bs):=rfl
theorem afK{W:List ae}{N:Nat}: ∀ {k:Nat} {bs:List ae},j0 W N k bs-> ∀i,i<bs.length->W[N+k+i]?=bs[i]?
 |_,[],_,i,h=>by grind
 |k,b::bs,⟨c,a⟩,i,h=>by
  cases i with
  |zero=>grind
  |succ i=>
   have:=afK a i (by grind)
   grind
theorem Py{W:List ae}{N:Nat}: ∀ {k:Nat} {bs:List ae},(∀i,i<bs.length->W[N+k+i]?=bs[i]?)->j0 W N k bs
 |_,[],_=>trivial
 |k,b::bs,h=>by
  refine⟨by have:=h 0 (by simp);grind,Py λi a=>?_⟩;have:=h (i+1) (by grind)
  grind
def j4(N:Nat)(H W:List ae):Prop:= ∀i,i<N->W[i]?=H[i]?
theorem j4.take{N:Nat}{H W:List ae}(h:j4 N H W)(b:H.length=N):W.take N=H:=by
 apply aoI;intro i;by_cases a:i<N
 ·rw[aiE a];exact h i a
 grind
theorem j4.set{N:Nat}{H W:List ae}{o:ae}(h:j4 N H W)(b:N<=p):j4 N H (W.set p o):=λi a=>by
 rw[aex (by omega)];exact h i a
theorem j4.app{N:Nat}{H L:List ae}(b:H.length=N):j4 N H (H++L):=λi a=>aez (by omega)
def bV{S:Type}(N nB c:Nat)(H:List ae)(B:S->List ae):YV S:=⟨λs W=>j4 N H W/\j0 W N 0 (B s),λ_=>none,λi=>i<N+nB,c⟩
def arY{S:Type}{N nB c:Nat}{H:List ae}{B:S->List ae}(g: ∀s,(B s).length=nB): (bV N nB c H B).Ok where
 st:=λs W j ⟨f,e⟩ h=>by
  refine⟨λi a=>?_,Py λi a=>?_⟩
  ·have:i<N+nB:=by omega
   rw[h i (.inl this)];exact f i a
  ·have d:N+0+i<N+nB:=by grind
   rw[h _ (.inl d)];exact afK e i a
 lt:=λs W r _ b=>by cases b
def DP{S:Type}(N nB:Nat)(B:S->List ae)(W:List ae)(I:S->Prop)(J:Ex->S->Prop):bQ:=λex _ E=>
 E.lo=none/\ ∃a,j0 E.heap N 0 (B a)/\W.length<=E.heap.length/\ (∀i,i<W.length-> ¬(N<=i/\i<N+nB)->E.heap[i]?=W[i]?)/\ (match ex with|.normal=>I a|.panic _=>False|ex=>J ex a)
section
variable{S:Type}{N nB:Nat}{B:S->List ae}{W H:List ae}{I:S->Prop}{J:Ex->S->Prop}{fr:Fr}{i:Nat}
def sg:DP N nB B W I J .normal fr ⟨H,none⟩= ∃a,j0 H N 0 (B a)/\W.length<=H.length/\ (∀i,i<W.length-> ¬(N<=i/\i<N+nB)->H[i]?=W[i]?)/\I a:=by simp[DP]
def arZ:DP N nB B W I J .ret fr ⟨H,none⟩= ∃a,j0 H N 0 (B a)/\W.length<=H.length/\ (∀i,i<W.length-> ¬(N<=i/\i<N+nB)->H[i]?=W[i]?)/\J .ret a:=by simp[DP]
end
def yy{X:Ctx}{S:Type}{g:ao}{w:lN}{as Y:PC}{Q:bQ}(K:Env->Prop)(L:K e)(xs:List lA){N nB:Nat}{H o:List ae}(F:H.length=N)(G:List ae)(B:S->List ae)(P: ∀s,(B s).length=nB)
  (v:S) (I:Nat->S->Prop) (J:Ex->S->Prop) (hg:rT X (g.get e)=true) (z:uH X (g.get e) (N+nB) G xs) (l:o=H++(B v++G)) (h0:I 0 v) (hJ: ∀ex s,J ex s-> ∃y,rV ex=some (some y)/\Ad y=some ex/\ex.code=y)
  (hb: ∀e,K e-> ∀j x s,xs[j]?=some x->I j s->x.length=w.length/\ ∀W n,W.length=n->N+nB+G.length+2<=n->j0 W N 0 (B s)->
    wp X f true as ⟨iD e w x,[]⟩ ⟨W,none⟩ (λex fr r=>ex= .normal/\ ∃R1,r=⟨W++R1,none⟩/\
     ∀q,q.length=n->j0 q N 0 (B s)->wp X f true Y fr ⟨q++R1,none⟩ (DP N nB B q (I (j+1)) J)))
  (h1: ∀e,K e-> ∀c a p,N+nB<=p->I xs.length c->j4 N H a->j0 a N 0 (B c)->a[p]?=some .bD->Q .normal ⟨e,[p]⟩ ⟨a,none⟩)
  (h2: ∀e,K e-> ∀ex c a p,N+nB<=p->J ex c->j4 N H a->j0 a N 0 (B c)->a[p]?=some .bD->Q ex ⟨e,[p]⟩ ⟨a,none⟩):
  wp X f false (.hZ g w as Y) ⟨e,[]⟩ ⟨o,none⟩ Q:=by
 have wA:o.length=N+nB+G.length:=by grind
 have t: ∀ {ak} {b:Nat},b=o.length+2->m2 (o.length+2) b none ak none none->ak=none:=by
  rintro ak b rfl (⟨h,_⟩| ⟨j,T,R,_⟩)
  ·exact h
  ·omega
 refine Io (bV N nB (o.length+2) H B) (arY P) xs (N+nB) G o v hg z (λi d=>?_) (by omega) (λi d=>?_) ⟨?_,?_⟩ rfl I J h0 hJ ?_ ?_ ?_
 ·rw[l,<-afq,ag8 (by simp only[agU,F,P];omega)]
  congr 1;simp only[agU,F,P];omega
 ·have:i<N+nB:=d;exact⟨by omega,by omega⟩
 ·rw[l];exact j4.app F
 ·refine Py λi d=>?_
  rw[l,ag8 (by omega),show N+0+i-H.length=i by omega,aez d]
 ·intro j x s hx O;obtain⟨T,R⟩:=hb e L j x s hx O;refine⟨T,λW m U=>?_⟩;refine wp_mono (R W _ rfl (by omega) m.2) ?_;rintro ex fr r ⟨rfl,R1,rfl,D⟩;refine⟨rfl,R1,rfl,λq E u=>?_⟩;refine wp_mono (D q E u.2) ?_;rintro Ip fr2 ⟨H2,Z⟩ ⟨rfl,c,c1,c2,V,c4⟩;refine⟨c,⟨λi d=>?_,c1⟩,⟨c2,λi d hp _=>?_⟩,.inl ⟨rfl,rfl⟩,c4⟩
  ·rw[V i (by omega) (by omega)];exact u.1 i d
  ·have nS: ¬i<N+nB:=hp;exact V i d (by omega)
 ·intro c a ak O m hl C A k;obtain rfl:=t rfl k;exact h1 e L c a _ (by omega) O m.1 m.2 C
 ·intro ex c a ak M m hl C A k;obtain rfl:=t rfl k;exact h2 e L ex c a _ (by omega) M m.1 m.2 C
section
variable{H:Type}{enc:TypeId×Value->H}{P:Program}{w:World}{sp:Nat->Bool}{held:Bool}
def AR(P:Program):Nat->TypeId->Bool
 |0,_=>false
 |f+1,t=>match P.underlying t with
  |some .bool=>true
  |some (.int _)=>true
  |some .string=>true
  |some (.slice e)=>AE P false f e
  |some (.struct fs)=>AD P (AR P f) fs.toList 0 (P.cellsOf t)
  |some (.array n e)=>AR P f e&&P.cellsOf t==n*P.cellsOf e
  |_=>false
theorem Pz: ∀ (f:Nat) (t:TypeId) (n:Nat) (cs:List Value) (d:DataW H) (ps:List MemPlace),AR P f t=true->(∀v∈cs,HL v)->
  DataW.trod enc P w 0 sp held n t cs=some (d,ps)-> ∃xs,gb P f t d xs/\aD (Gh.start w) xs cs/\Leaves cs/\xs.length=cs.length
 |0,_,_,_,_,_,r,_,_=>by simp[AR]at r
 |f+1,t,n,cs,d,ps,r,B,h=>by
  unfold AR at r;unfold gb;cases u:P.underlying t with
  |none=>rw[u]at r;cases r
  |some td=>
   rw[u]at r;cases td with
   |bool=>
    obtain⟨b,rfl,l⟩:=DataW.trod_bool u h;cases l;exact⟨[.bool b],⟨b,rfl,rfl⟩,aD.single.2 rfl,λv g=>by simp at g;subst g;rfl,rfl⟩
   |int k=>
    obtain⟨b,rfl,l,O⟩:=DataW.trod_int u h;cases l;exact⟨[.int k b],⟨b,rfl,rfl,O⟩,aD.single.2 rfl,λv g=>by simp at g;subst g;rfl,rfl⟩
   |string=>
    obtain⟨s,rfl,l,E⟩:=DataW.trod_string u h;cases l;exact⟨[.str s],⟨s,rfl,rfl,E⟩,aD.single.2 rfl,λv g=>by simp at g;subst g;rfl,rfl⟩
   |slice e=>
    rcases DataW.trod_slice u h with⟨rfl,l⟩| ⟨a,len,cap,es,rest,m,rfl,rfl,l,_,hlc,XW,T,S,_,_⟩
    ·cases l;exact⟨[.ai],.inl ⟨rfl,rfl⟩,aD.single.2 rfl,λv g=>by simp at g;subst g;rfl,rfl⟩
    ·cases l;have E:a.spot=none:=B _ (List.mem_singleton_self _);obtain⟨af,vs,M,L,K,J,Y,h6⟩:=YQ (R:=gb P f e) E (λc G p C q=>HM (nest:=false) (λe=>by cases e) f e m c G p r (λe=>by cases e) q) len (by omega) S;refine⟨[.sl af false],.inr ⟨es.map (·.1),rest.map (·.1),af,rfl,rfl,by simp[T,M],by omega,λi x b l V=>?_⟩,aD.single.2 ?_,λv g=>by simp at g;subst g;rfl,rfl⟩
     ·rw[aiG,agY]at l;obtain⟨y,N,rfl⟩:=l;exact L i y b N V
     ·refine⟨a.block,a.off,cap,P.cellsOf e,vs,?_,by omega,(λC=>absurd C (by decide)),λel F=>?_,h6,J,bp.iff.2 K⟩
      ·rw[M];obtain⟨b,o,s⟩:=a;simp at E;subst E;rfl
      ·obtain⟨j,W⟩:=aut.1 F;have hjl:=(aeA.1 W).1;exact(L j es[j] el (afu (by omega)) W).1
   |struct fs=>
    obtain⟨ys,m,rfl,l,I,A,z⟩:=DataW.trod_struct u h;cases l;obtain⟨xs,x1,x2,x3,Z⟩:=OG (R:=gb P f) (cs:=cs) (λt' c G p hg C q=>Pz f t' m c G p hg (λv g=>B v (C v g)) q) _ I fs.toList ys 0 r (by simpa using A) (λi fl hi=>z i fl (by simpa using hi));exact⟨xs,⟨_,rfl,x1⟩,by simpa using x2,by simpa using x3,by simpa using Z⟩
   |array k e=>
    simp only[aiq,aud]at r;obtain⟨Q,C⟩:=r;obtain⟨ys,m,rfl,l,I,A,z⟩:=DataW.trod_array u h;cases l;obtain⟨af,M,L,K,J,Y⟩:=YR (R:=gb P f e) (cs:=cs) (λc G p U q=>Pz f e m c G p Q (λv g=>B v (U v g)) q) k (by rw[I,C];exact agW _) (by omega) z;have D:k*P.cellsOf e=cs.length:=by rw[I,C]
    rw[D,ag4]at K J;exact⟨af.flatten,⟨_,af,rfl,rfl,by simpa using A,M,λi a b X V=>by
     rw[aiG,agY]at X;obtain⟨y,N,rfl⟩:=X;exact L i y b N V⟩,K,J,by rw[Y,D]⟩
   |_=>cases r
def ar0{b:Nat}{u:TypeId}{v:Value}(h:Cell.okWide P w .any b u v):HL v:=by
 cases v with
 |slice a len cap=>
  cases a with
  |none=>trivial
  |some a=>
   unfold Cell.okWide at h;cases hu:P.underlying u with
   |none=>simp[hu,Cell.ok]at h
   |some td=>cases td<;>simp[hu,Cell.ok]at h<;>exact h.2.2.2.1
 |_=>trivial
def afL{t:TypeId}{f:Nat}{v:Value}{d:DataW H}{g:List MemPlace}{b:Nat}{fs:Array Field}(k:P.underlying t=some (.struct fs))(l:AR P f t=true)(a:Value.okWide P w .any b t v)
  (h:DataW.Trod enc P w 0 sp held t v d g): ∃xs,an (Gh.start w) (.agg xs) v/\gb P f t d xs/\xs.length=P.cellsOf t:=by
 unfold Value.okWide at a;rw[k]at a;obtain⟨cs,rfl,e,ts,_,_,c⟩:=a;obtain⟨n,h⟩:=h;obtain⟨xs,r,q,p,o⟩:=Pz f t n cs.toList d g l (λv j=>by
  obtain⟨i,m⟩:=aut.1 j;obtain⟨u,_,hu⟩:=c i v (by simpa using m);exact ar0 hu) h
 exact⟨xs,⟨cs,rfl,q,p⟩,r,by rw[o];simpa using e⟩
end
end Go.Den
