/- A part. -/
import Derived.Test.YtcdeobefbpnfeaaGreatDoorD1
import Derived.Orders
import Derived.Carry
import Derived.ChangeArms
import Derived.OpenShut
import Derived.RecoverIn
import Derived.LaidHandle
import Derived.LaidMore
import Derived.WideShapes
set_option linter.all false
set_option maxRecDepth 10000
set_option maxHeartbeats 1000000
namespace Go.Den
open Go Go.RowKit
abbrev lA:=List AV
variable{l t a i j m n k sz r aj a' p nB:Nat}{v:AV}{d lo ak:oN}{e:Env}{w:World}{b:PC}{z vs:lA}{tg:Option TypeId}{gg:Gh}{f:FuncId}{x y:ao}{c ag:Bool}{pf:PF}{k':IntKind}{af:List lA}{H0:List ae}
def aeD:=@decide_eq_true
def agq:=@List.length_set
def agz:=@List.getElem?_take_of_lt
def agA:=@List.getElem?_map
def agB:=@List.append_nil
def agC:=@Array.getD_eq_getD_getElem?
def agE:=@List.mem_cons_of_mem
def ala:=@Option.getD_some
def alk:=@Bool.true_and
def alS:=@and_true
def al1:=@List.mem_range
def amp:=@Classical.byContradiction
def amM:=@List.length_drop
def amS:=@List.mem_zipIdx_iff_getElem?
def am9:=@List.length_nil
def anf:=@Option.bind_eq_some_iff
def anh:=@List.pairwise_append
def aok:=@List.prefix_append
def aol:=@Nat.not_lt_zero
def aoo:=@Nat.mod_lt
def aoB:=@List.pairwise_cons
def aoM:=@Nat.le_of_ble_eq_true
def apz:=@List.getElem?_range
def aqs:=@Prod.mk.injEq
def aqw:=@Array.getElem?_toList
def aqz:=@Array.all_eq_true_iff_forall_mem
def aqD:=@List.range_succ
def aqF:=@Bool.true_or
def aqQ:=@List.getElem?_cons_zero
def aqR:=@Bool.false_or
def aqS:=@Nat.lt_succ_self
def ard:=@List.set_append_left
def are:=@List.mem_of_find?_eq_some
def arj:=@List.getElem_mem
def asR:=@List.mem_iff_getElem?
def ata:=@List.contains_iff_mem
def atP:=@List.getElem?_of_mem
def awB:=@List.find?_eq_none
def awC:=@List.append_of_mem
def axi:=@List.length_range
def axQ:=@List.getElem?_cons_succ
def axU:=@Bool.and_true
def axV:=@Option.getD_none
def azs:=@true_and
def azu:=@List.getElem?_zipIdx
def azV:=@Nat.le_succ
def az9:=@Nat.lt_trichotomy
def aAC:=@List.pairwise_map
def aAH:=@Int.toNat_natCast
def aAN:=@List.isEmpty_iff
def gG{a b:Prop}(x:a)(y:b):a/\b:=⟨x,y⟩
section
variable{X:Ctx}
def jQ(X:Ctx)(C:bE)(xs:Nat->aT)(F:Nat->FP):lN->Fr->AS->Fr->AS->Prop
 | [],fr,E,b,E'=>b=fr/\E'=E
 |i::l,fr,E,b,E'=>
  (gd fr.env (xs i).g=true/\ ∃v a,exec X C (xs i).i fr.env E=some (.ok v a)/\aZ (xs i).i fr.env E a=F i/\jQ X C xs F l (fr.put (xs i).dst v) a b E')\/
  (gd fr.env (xs i).g=false/\F i= .no/\jQ X C xs F l (fr.put (xs i).dst .undef) E b E')
def apk{l m:lN}:Dg l m=true↔ ∀x∈l,x∉m:=by
 simp[Dg,agx]
def DE{a:Fr}{dst:oN}(h:t∉dst.toList): (a.put dst v).env t=a.env t:=by
 cases dst with
 |none=>rfl
 |some d=>
  simp only[Fr.put,Env.set]
  grind
def apl{f:Fr}{c:oN}{w:AV}(h: ∀x∈d.toList,x∉c.toList): (f.put d v).put c w=(f.put c w).put d v:=by
 cases d with
 |none=>rfl
 |some a=>
  cases c with
  |none=>rfl
  |some b=>
   have g:a≠b:=λe=>h a (by simp) (by grind)
   simp only[Fr.put]
   congr 1
   funext t
   simp only[Env.set]
   grind
def Xw{g:Option (Nat×Bool)}{a:Env}(h: ∀t∈(match g with|some (t,_)=>[t]|none=>[]),e t=a t):gd e g=gd a g:=by
 cases g with
 |none=>rfl
 |some p=>simp only[gd];grind
def apm{C:bE}{xs:Nat->aT}{F:Nat->FP}{l:lN}{a q:Fr}{E E':AS}(n:kh (xs i) (xs j)=true)(x: (F i).ok (F j)=true)(h:jQ X C xs F (i::j::l) a E q E'):jQ X C xs F (j::i::l) a E q E':=by
 simp only[kh,ahV,apk]at n;obtain⟨⟨L,K⟩,J⟩:=n;have B: ∀v,∀t∈(xs j).reads,(a.put (xs i).dst v).env t=a.env t:=λv t d=>DE λy=>L t y d
 have ex: ∀v,∀t∈(xs i).reads,(a.put (xs j).dst v).env t=a.env t:=λv t d=>DE λy=>K t y d
 have e: ∀v,∀t∈(xs j).i.reads,(a.put (xs i).dst v).env t=a.env t:=λv t d=>B v t (by simp[aT.reads,d])
 have f: ∀v,∀t∈(xs i).i.reads,(a.put (xs j).dst v).env t=a.env t:=λv t d=>ex v t (by simp[aT.reads,d])
 have s: ∀v,gd (a.put (xs i).dst v).env (xs j).g=gd a.env (xs j).g:=λv=>Xw λt d=>B v t (by
  simp only[aT.reads,ae2];grind)
 have u: ∀v,gd (a.put (xs j).dst v).env (xs i).g=gd a.env (xs i).g:=λv=>Xw λt d=>ex v t (by
  simp only[aT.reads,ae2];grind)
 have comm: ∀v w,(a.put (xs i).dst v).put (xs j).dst w=(a.put (xs j).dst w).put (xs i).dst v:=λv w=>apl J
 simp only[jQ]at h⊢;rcases h with⟨o,v,c,A,m,h⟩| ⟨o,m,h⟩
 ·rcases h with⟨g1,w,b,g2,k,g⟩| ⟨g1,k,g⟩
  ·rw[s]at g1;have z:exec X C (xs j).i a.env c=some (.ok w b):=by rw[<-HO (e v)];exact g2
   have p:aZ (xs j).i a.env c b=F j:=by rw[<-HP (e v)];exact k
   obtain⟨r,I,H,G,D⟩:=apj A z (by rw[m,p];exact x);refine .inl ⟨g1,w,r,I,by rw[G];exact p,.inl ⟨by rw[u];exact o,v,b,?_,?_,by rw[<-comm];exact g⟩⟩
   ·rw[HO (f w)];exact H
   ·rw[HP (f w),D];exact m
  ·rw[s]at g1;refine .inr ⟨g1,k,.inl ⟨by rw[u];exact o,v,c,?_,?_,by rw[<-comm];exact g⟩⟩
   ·rw[HO (f _)];exact A
   ·rw[HP (f _)];exact m
 ·rcases h with⟨g1,w,b,g2,k,g⟩| ⟨g1,k,g⟩
  ·rw[s]at g1;refine .inl ⟨g1,w,b,by rw[<-HO (e _)];exact g2,by rw[<-HP (e _)];exact k,.inr ⟨by rw[u];exact o,m,by rw[<-comm];exact g⟩⟩
  ·rw[s]at g1;exact .inr ⟨g1,k,.inr ⟨by rw[u];exact o,m,by rw[<-comm];exact g⟩⟩
theorem Oc{C:bE}{xs:Nat->aT}{F:Nat->FP}{j:Nat}{b:lN}: ∀ (a:lN) (fr c:Fr) (E E':AS),(∀i∈a,kh (xs i) (xs j)=true/\ (F i).ok (F j)=true)->jQ X C xs F (a++j::b) fr E c E'->jQ X C xs F (j:: (a++b)) fr E c E'
 | [],_,_,_,_,_,h=>h
 |i::a,fr,c,E,E',e,h=>by
  have f:=e i (by simp);refine apm f.1 f.2 ?_;simp only[ahY]at h;rw[jQ]at h⊢;have m:=λfr E (h:jQ X C xs F (a++j::b) fr E c E')=>Oc a fr c E E' (λk o=>e k (by grind)) h
  rcases h with⟨l,v,d,n,g,h⟩| ⟨l,g,h⟩
  ·exact .inl ⟨l,v,d,n,g,m _ _ h⟩
  simp_all
theorem Od{C:bE}{xs:Nat->aT}: ∀ (ys:List (aT×lN)) (a:List FP) (fr:Fr) (E:AS) (res:Ex×Fr×AS),(∀q y,ys[q]?=some y->xs (a.length+q)=y.1)->gy X C a ys fr E=some res->res.1= .normal->
  ∃F:Nat->FP,(∀m,m<a.length->F m=a.getD m .all)/\res.1= .normal/\jQ X C xs F ((List.range ys.length).map (a.length+ ·)) fr E res.2.1 res.2.2/\
   ∀q y,ys[q]?=some y-> ∀k∈y.2,k<a.length+q->(F k).ok (F (a.length+q))=true
 | [],a,fr,E,res,t,h,r=>by
   simp only[gy,adP]at h;subst h;exact⟨λm=>a.getD m .all,λ_ _=>rfl,rfl,⟨rfl,rfl⟩,by simp⟩
 |o::ys,a,fr,E,res,t,h,r=>by
  have b:xs a.length=o.1:=by simpa using t 0 o rfl
  have j: ∀ (f:FP) q y,ys[q]?=some y->xs ((a++[f]).length+q)=y.1:=by
   intro f q y l;have:=t (q+1) y (by simpa using l);rw[<-this];congr 1;simp;omega
  have d: ∀f:FP,(List.range (o::ys).length).map (a.length+ ·)=a.length:: (List.range ys.length).map ((a++[f]).length+ ·):=by
   intro f;simp only[agt,List.range_succ_eq_map,amF,ax7,agr]
   congr 1
   apply arp;intro k _;simp;omega
  have fin: ∀ (f:FP) (F:Nat->FP),(∀m,m< (a++[f]).length->F m=(a++[f]).getD m .all)->F a.length=f/\ ∀m,m<a.length->F m=a.getD m .all:=by
   intro f F s;refine⟨?_,λm hm=>?_⟩
   ·rw[s _ (by simp)];simp
   ·rw[s m (by simp;omega)];simp[agn,acK hm]
  have c: ∀ (f:FP) (F:Nat->FP),(∀m,m<a.length->F m=a.getD m .all)->(∀k∈o.2,k<a.length->(a.getD k .all).ok (F a.length)=true)->
    (∀q y,ys[q]?=some y-> ∀k∈y.2,k< (a++[f]).length+q->(F k).ok (F ((a++[f]).length+q))=true)->
    ∀q y,(o::ys)[q]?=some y-> ∀k∈y.2,k<a.length+q->(F k).ok (F (a.length+q))=true:=by
   intro f F s w u q y l k n i;cases q with
   |zero=>
    simp at l;subst l;rw[agr]at i⊢;rw[s k i];exact w k n i
   |succ q=>
    have:=u q y (by simpa using l) k n (by simp;omega);have e: (a++[f]).length+q=a.length+(q+1):=by simp;omega
    rw[e]at this;exact this
  simp only[gy]at h;split at h
  ·rename_i hw;split at h
   ·rename_i v g hex;split at h
    ·rename_i p;obtain⟨F,f1,f2,f3,f4⟩:=Od ys _ _ _ res (j _) h r;obtain⟨g1,g2⟩:=fin _ F f1;refine⟨F,g2,f2,?_,c _ F g2 (λk n _=>?_) f4⟩
     ·rw[d (aZ o.1.i fr.env E g)];refine .inl ⟨by rw[b];exact hw,v,g,by rw[b];exact hex,by rw[b,g1],by rw[b];exact f3⟩
     ·rw[g1];exact agx.1 p k n
    ·cases h
   ·split at h
    ·cases h;cases r
    ·cases h
   ·cases h
  ·rename_i hw;obtain⟨F,f1,f2,f3,f4⟩:=Od ys _ _ _ res (j _) h r;obtain⟨g1,g2⟩:=fin _ F f1;refine⟨F,g2,f2,?_,c _ F g2 (λk n _=>?_) f4⟩
   ·rw[d .no];exact .inr ⟨by rw[b];simpa using hw,g1,by rw[b];exact f3⟩
   ·rw[g1];cases a.getD k .all<;>rfl
theorem Xx{C:bE}{xs:Nat->aT}: ∀ (ys:List (aT×lN)) (a:List FP) (fr:Fr) (E:AS) (res:Ex×Fr×AS),(∀q y,ys[q]?=some y->xs (a.length+q)=y.1)->gy X C a ys fr E=some res->res.1≠ .normal->
  ∃ (F:Nat->FP) (p:Nat) (v:AV) (b:AS) (y:aT×lN),(∀m,m<a.length->F m=a.getD m .all)/\ys[p]?=some y/\res.1= .panic v/\jQ X C xs F ((List.range p).map (a.length+ ·)) fr E res.2.1 b/\
    gd res.2.1.env (xs (a.length+p)).g=true/\exec X C (xs (a.length+p)).i res.2.1.env b=some (.panic v res.2.2)/\
    (∀q y,q<p->ys[q]?=some y-> ∀k∈y.2,k<a.length+q->(F k).ok (F (a.length+q))=true)/\
    y.2=[]/\y.1.i.cls≠0/\ (y.1.i.cls=2\/ ∀m,m<a.length+p->F m≠ .no)/\ ∀q d,p<q->ys[q]?=some d->if d.1.i.cls=0 then kh y.1 d.1=false else a.length+p∉d.2
 | [],a,fr,E,res,D,h,K=>by
   simp only[gy,adP]at h
   grind
 |o::ys,a,fr,E,res,D,h,K=>by
  have c:xs a.length=o.1:=by simpa using D 0 o rfl
  have B: ∀ (f:FP) q y,ys[q]?=some y->xs ((a++[f]).length+q)=y.1:=by
   intro f q y u;have:=D (q+1) y (by simpa using u);rw[<-this];congr 1;simp;omega
  have w: ∀ (f:FP) (p:Nat),(List.range (p+1)).map (a.length+ ·)=a.length:: (List.range p).map ((a++[f]).length+ ·):=by
   intro f p;simp only[List.range_succ_eq_map,amF,ax7,agr]
   congr 1
   apply arp;intro k _;simp;omega
  have e1: ∀ (f:FP) (q:Nat),(a++[f]).length+q=a.length+(q+1):=λf q=>by simp;omega
  have fin: ∀ (f:FP) (F:Nat->FP),(∀m,m< (a++[f]).length->F m=(a++[f]).getD m .all)->F a.length=f/\ ∀m,m<a.length->F m=a.getD m .all:=by
   intro f F s;refine⟨?_,λm hm=>?_⟩
   ·rw[s _ (by simp)];simp
   ·rw[s m (by simp;omega)];simp[agn,acK hm]
  have next: ∀ (f:FP) (g:Fr) (i:AS),gy X C (a++[f]) ys g i=some res->(∀ (F:Nat->FP) l j E',F a.length=f->jQ X C xs F l g i j E'->jQ X C xs F (a.length::l) fr E j E')->(∀k∈o.2,(a.getD k .all).ok f=true)->
    ∃ (F:Nat->FP) (p:Nat) (v:AV) (b:AS) (y:aT×lN),(∀m,m<a.length->F m=a.getD m .all)/\ (o::ys)[p]?=some y/\res.1= .panic v/\jQ X C xs F ((List.range p).map (a.length+ ·)) fr E res.2.1 b/\
      gd res.2.1.env (xs (a.length+p)).g=true/\exec X C (xs (a.length+p)).i res.2.1.env b=some (.panic v res.2.2)/\
      (∀q y,q<p->(o::ys)[q]?=some y-> ∀k∈y.2,k<a.length+q->(F k).ok (F (a.length+q))=true)/\
      y.2=[]/\y.1.i.cls≠0/\ (y.1.i.cls=2\/ ∀m,m<a.length+p->F m≠ .no)/\ ∀q d,p<q->(o::ys)[q]?=some d->if d.1.i.cls=0 then kh y.1 d.1=false else a.length+p∉d.2:=by
   intro f g i h t H;obtain⟨F,p,v,b,y,f1,f2,f3,f4,f5,f6,f7,f8,f9,f10,f11⟩:=Xx ys _ _ _ res (B f) h K;obtain⟨g1,g2⟩:=fin f F f1;refine⟨F,p+1,v,b,y,g2,by simpa using f2,f3,?_,by rw[<-e1 f];exact f5,by rw[<-e1 f];exact f6,?_,f8,f9,f10.imp id λf10 m hm=>f10 m (by rw[e1];exact hm),?_⟩
   ·rw[w f];exact t F _ _ _ g1 f4
   ·intro q d u n k x r;cases q with
    |zero=>
     simp at n;subst n;rw[agr]at r⊢;rw[g1,g2 k r];exact H k x
    |succ q=>
     have:=f7 q d (by omega) (by simpa using n) k x (by rw[e1];exact r);rw[e1]at this;exact this
   ·intro q d u n;cases q with
    |zero=>omega
    |succ q=>
     have:=f11 q d (by omega) (by simpa using n);rw[e1]at this;exact this
  simp only[gy]at h;split at h
  ·rename_i hw;split at h
   ·rename_i v b hex;split at h
    ·rename_i z;exact next _ _ _ h (λF l j E' s G=>.inl ⟨by rw[c];exact hw,v,b,by rw[c];exact hex,by rw[c,s],by rw[c];exact G⟩) (λk x=>agx.1 z k x)
    ·cases h
   ·rename_i v E' hex;split at h
    ·rename_i J;cases h;simp only[Dh,ahV,aoS,atT,aAN,bne_iff_ne]at J;obtain⟨N,M,A,L⟩:=J;refine⟨λm=>a.getD m .all,0,v,E,o,λ_ _=>rfl,rfl,rfl,⟨rfl,rfl⟩,by rw[agr,c];exact hw,by rw[agr,c];exact hex,λq y u=>by omega,N,M,?_,?_⟩
     ·refine A.imp id λA m hm=>?_
      rw[agr]at hm;have:=agx.1 A a[m] (arj hm);simp only[agn,adQ hm,ala];intro e;rw[e]at this;cases this
     ·intro q d u n;cases q with
      |zero=>omega
      |succ q=>
       have:=agx.1 L d (alL (by simpa using n:ys[q]?=some d));split
       ·rename_i I;rw[aez I]at this;simpa using this
       ·rename_i I;rw[aeu I]at this;rw[agr];simpa using this
    ·cases h
   ·cases h
  ·rename_i hw;exact next .no _ _ h (λF l j E' s G=>.inr ⟨by rw[c];simpa using hw,s,by rw[c];exact G⟩) (λk x=>by cases a.getD k .all<;>rfl)
end
section
variable{P:Program}{X:Ctx}{B:Nat}{ay:World}{c7:List Deferred}
theorem Xy(f:FP):FP.ok .no f=true:=by rfl
def Xz(f:FP):FP.ok f .no=true:=by cases f<;>rfl
theorem yn{C:bE}{xs:Nat->aT}{F:Nat->FP}{i:Nat}(d: (xs i).i.cls=0): ∀ (l:lN) (fr b:Fr) (E E':AS),i∈l->jQ X C xs F l fr E b E'->F i= .no
 | [],_,_,_,_,a,_=>by grind
 |j::l,fr,b,E,E',a,h=>by
  rcases agF.1 a with rfl|a
  ·rcases h with⟨_,v,c,_,e,_⟩| ⟨_,e,_⟩
   ·grind [Xq]
   omega
  ·rcases h with⟨_,v,c,_,_,h⟩| ⟨_,_,h⟩
   ·exact yn d l _ _ _ _ a h
   ·exact yn d l _ _ _ _ a h
theorem XD{rows:Bool}{ops:Array Oper}: ∀ {os:List Oper} {xs:List aT},kT P rows ops os=some xs->xs.length=os.length/\ ∀ (i:Nat) (o:Oper),os[i]?=some o-> ∃x,xs[i]?=some x/\iP P rows ops o=some x
 | [],xs,h=>by
   simp only[kT,adP]at h;grind
 |o::os,xs,h=>by
  simp only[kT]at h;split at h
  ·rename_i x a c b;obtain⟨e1,d⟩:=XD b
   grind
  grind
theorem XE{ops:Array Oper}{e:Nat}: ∀n:Nat,e<n->(uE ops n).getD (n-1-e) 0=(uE ops (e+1)).headD 0
 |0,h=>absurd h (aol _)
 |n+1,h=>by
  by_cases he:e=n
  ·subst he;simp[uE]
  ·have a:e<n:=by omega
   rw[show n+1-1-e=(n-1-e)+1 by omega,<-XE n a];simp[uE]
theorem XF{b:lN}{n a:Nat}{S:Nat->Prop}: ∀es:lN,(∀e∈es,S e)->(∀e∈es,e<n->Nat.testBit (b.getD (n-1-e) 0) a=true->S a)->Nat.testBit (AE b n es) a=true->S a
 | [],_,_,h=>by simp[AE]at h
 |e::es,f,d,h=>by
  have e1:AE b n (e::es)=(1<<<e||| (if e<n then b.getD (n-1-e) 0 else 0))|||AE b n es:=rfl;rw[e1,Nat.testBit_or,Nat.testBit_or,aoS,aoS]at h;rcases h with(h|h)|h
  ·simp_all[Nat.one_shiftLeft,Nat.testBit_two_pow,alR]
  ·grind
  ·exact XF es (λx c=>f x (agE _ c)) (λx c=>d x (agE _ c)) h
def Oe{ops:Array Oper}{S:Nat->Prop}(g: ∀j,S j-> ∀o,ops[j]?=some o-> ∀a∈kW o,S a)(k i:Nat)(o:Oper)(ho:ops[i]?=some o)(d: ∀a∈kW o,S a): ∀a∈hO ops k i,S a:=by
 intro a h;unfold hO at h;have key: ∀n i:Nat,i<n-> ∀o,ops[i]?=some o->(∀a∈kW o,S a)->Nat.testBit ((uE ops (i+1)).headD 0) a=true->S a:=by
  intro n
  induction n with
  |zero=>simp
  |succ n l=>
   intro i m o ho d f;simp only[uE,List.headD_cons,ho]at f;refine XF _ d (λe hm b c=>?_) f;rw[XE i b]at c
   grind
 grind
def XG{a:Region.Mode}{e:Edge}(h:Region.binds .any e=true):Region.binds a e=true:=by
 unfold Region.binds at h⊢
 grind
theorem Of{a:Region.Mode}{ops:Array Oper}{l:lN}{S:Nat->Prop}(f: ∀x,x<ops.size->x∉l->S x): ∀ (ord pre:lN),Hl a ops pre ord=true->(∀x∈pre,x<ops.size/\x∉l)->(∃x∈ord,x∈l)->
  ∃x∈l,∃o,ops[x]?=some o/\ ∀e∈o.after.toList,Region.binds a e=true->S e.on
 | [],_,_,_,⟨x,c,_⟩=>by grind
 |i::ord,pre,h,b,hex=>by
  simp only[Hl,ahV]at h;obtain⟨j,g⟩:=h;split at j
  ·by_cases d:i∈l
   ·grind
   ·refine Of f ord (i::pre) g (λx c=>?_) ?_
    ·grind
    grind
  grind
def Gh.later(G:Gh)(os:List ae):Gh:={G with n:=G.n+os.length,pz:=λi=>if i<G.n then G.pz i else os[i-G.n]?}
def Gh.yo(G:Gh)(os:List ae):G.le (G.later os):=
 .mk' (λ_ _ _ h=>h) (by simp[Gh.later]) (λi a=>by simp[Gh.later,a]) (λ_ _=>ae0 _) (λ_ _ _=>⟨rfl,rfl,rfl,rfl⟩)
def Gh.HS{G:Gh}{os:List ae}(h: (G.later os).on i):G.on i:=by
 obtain⟨c,a⟩:=h;simp only[Gh.later]at c a;by_cases b:i<G.n
 ·rw[aez b]at a;exact⟨b,a⟩
 grind
theorem ba.later{G:Gh}{E:AS}(h:ba P B ay G E w){os:List ae}(ho: ∀o∈os,∃z tg,o= .box z tg/\aI z=0):ba P B ay (G.later os) (E.my os) w where
 len:=by simp[Gh.later,AS.my,h.len]
 bD:=h.bD
 obj id o e b:=by
  simp only[Gh.later]at b;simp only[AS.my]at e;by_cases a:id<G.n
  ·rw[aez a]at b;rw[acK (by rw[<-h.len];exact a)]at e;exact iQ.mono (G.yo os) ⟨a,b⟩ rfl rfl (h.obj id o e b)
  ·rw[aeu a]at b;rw[ags (by rw[<-h.len];omega),<-h.len,b]at e;cases e
 inj i j a d e:=h.inj i j (Gh.HS a) (Gh.HS d) e
 sep i a o:=h.sep i (Gh.HS a) o
 low i a:=h.low i (Gh.HS a)
 lY:=h.lY
 hB:=h.hB
 lZ id o c b:=by
  simp only[Gh.later]at c b;simp only[AS.my];by_cases a:id<G.n
  ·rw[aez a]at b;obtain⟨g,f⟩:=h.lZ id o a b
   grind
  ·rw[aeu a]at b;exact⟨by rw[ags (by rw[<-h.len];omega),<-h.len];exact b,ho o (alL b)⟩
 dO:=h.dO
theorem AS.Ext.my(E:AS)(os:List ae):E.Ext (E.my os)where
 len:=by simp[AS.my]
 lo _ h:=h
 obj j x e:=⟨x,by
  have:j<E.heap.length:=(adN.1 e).1;simp[AS.my,acK this,e],.inl λ_ k=>k.mono (by omega)⟩
def Gh.real(G:Gh)(id b:Nat):Gh:=
 {G with bg:=λi=>if i=id then b else G.bg i,aj:=λi=>if i=id then 0 else G.aj i,pz:=λi=>if i=id then none else G.pz i}
def Gh.HT{G:Gh}{id b:Nat}{o:ae}(d:G.pz id=some o):G.sub (G.real id b):=by
 have c: ∀i,G.on i->i≠id:=λi a e=>by rw[e]at a;rw[a.2]at d;cases d
 exact{bD:=λ_ _ _ h=>h,n:=ae0 _,on:=λi a=>⟨a.1,by simp only[Gh.real];rw[aeu (c i a)];exact a.2⟩,
       aj:=λi a=>by simp only[Gh.real];grind,same:=λi a _=>by simp[Gh.real,c i a]}
def Gh.HU{G:Gh}{id b:Nat}(h: (G.real id b).on i):i=id\/ (i≠id/\G.on i):=by
 obtain⟨c,a⟩:=h;simp only[Gh.real]at c a;by_cases e:i=id
 ·omega
 ·rw[aeu e]at a;exact .inr ⟨e,c,a⟩
def HV{rows:Bool}{o:Oper}(h:kS P rows o=some (.alloc z tg)): ∃t,o.op= .alloc t/\hH P t=some z/\tg=rZ z t:=by
 cases a:o.op with
 |alloc t=>
  simp only[kS,a]at h;obtain⟨e,d,b⟩:=agj.1 h;cases b;exact⟨t,rfl,d,rfl⟩
 |call c=>
  exfalso;simp only[kS,a,Di]at h
  repeat' split at h
  all_goals first| (cases h;done)| (simp only[agj]at h;obtain⟨_,_,h⟩:=h;cases h;done)|skip
 |_=>
  exfalso;simp only[kS,a]at h
  (repeat' split at h)<;>first| (cases h;done)| (simp only[agj]at h;obtain⟨_,_,h⟩:=h;first| (cases h;done)| (split at h<;>cases h))| (simp_all;done)
theorem ba.real{G:Gh}{E:AS}(h:ba P B ay G E w){id:Nat}{t:TypeId}(s:id<G.n)(H:G.pz id=some (.box z (rZ z t)))(N:hH P t=some z):
  ∃w',(Instr.alloc t true (.tuple #[])).run P w= .ok (.pointer (some ⟨w.heap.size,0,none⟩)) w'/\ba P B ay (G.real id w.heap.size) E w'/\an (G.real id w.heap.size) (.ptr id 0) (.pointer (some ⟨w.heap.size,0,none⟩)):=by
 have p:G.sub (G.real id w.heap.size):=Gh.HT H;obtain⟨A,e,_,l,J,_⟩:=r8 N (G.real id w.heap.size) w;obtain⟨I,_⟩:=h.lZ id _ s H;have x: (G.real id w.heap.size).bg id=w.heap.size:=by simp[Gh.real]
 refine⟨w.alloc (.cells A.cells t),by simp[Instr.alloc,e,newVar,newRow],?_,⟨⟨s,by simp[Gh.real]⟩,_,rfl,λ_=>by rw[x]⟩⟩;refine{len:=h.len,bD:=λb o v K=>?_,obj:=λi o y a=>?_,inj:=λi j g L f=>?_,sep:=λi g o=>?_,low:=λi g=>?_,lY:=h.lY.alloc h.hB _,hB:=by have:=h.hB;simp;omega,lZ:=λi o g a=>?_,dO:=h.dO}
 ·have m:G.bD b o=some v:=K;rw[cell?_alloc_old (h.x7 P m)];exact h.bD b o v m
 ·by_cases c:i=id
  ·subst c;rw[I]at y;cases y;refine⟨by simp[Gh.real],A.cells,t,?_,l,J,λO h=>NU h⟩;rw[x];exact ao7 _ _
  ·have q:i<G.n:=by rw[h.len];exact(adN.1 y).1
   simp only[Gh.real]at a;rw[aeu c]at a;exact iQ.dE p ⟨q,a⟩ (by simp[Gh.real,c]) (Below.heap_alloc _ _ _ (h.low i ⟨q,a⟩).2) (h.obj i o y a)
 ·rcases Gh.HU g with d| ⟨k,d⟩<;>rcases Gh.HU L with u| ⟨D,u⟩
  ·rw[d,u]
  ·simp only[Gh.real,d,ahJ,aeu D]at f;have:=(h.low j u).2;omega
  ·simp only[Gh.real,u,ahJ,aeu k]at f;have:=(h.low i d).2;omega
  ·simp only[Gh.real,aeu k,aeu D]at f;exact h.inj i j d u f
 ·rcases Gh.HU g with d| ⟨k,d⟩
  ·subst d;rw[x];show G.bD w.heap.size o=none;cases M:G.bD w.heap.size o with
   |none=>rfl
   |some v=>have:=h.x7 P M;omega
  ·simp only[Gh.real,aeu k];exact h.sep i d o
 ·rcases Gh.HU g with d| ⟨k,d⟩
  ·subst d;rw[x];exact⟨h.hB,by simp⟩
  ·simp only[Gh.real,aeu k];have:=h.low i d;exact⟨this.1,by simp;omega⟩
 ·simp only[Gh.real]at g a;by_cases c:i=id
  ·rw[aez c]at a;cases a
  ·rw[aeu c]at a;exact h.lZ i o g a
def Gh.XH{G:Gh}(h:gg.le G){id b:Nat}{o:ae}(a:G.pz id=some o)(c:gg.n<=id):gg.le (G.real id b):=
 {Gh.Wl h.toSub (Gh.HT a)with pz:=λi d=>by simp only[Gh.real];rw[aeu (by omega)];exact h.pz i d}
section
variable{C:bE}(hC:fY P B ay C)(hg:fC X B ay){r:oN}{n nt:Nat}{rows:Bool}{ops:Array Oper}{xs:Nat->aT}{F:Nat->FP}
include hC hg
theorem go_sound(I:Region.Mode){ord:lN}(U:uF I ops ord=true)(sl:Nat->Nat)(al:Nat->Option ae)(AT: ∀i o,ops[i]?=some o->(al i=none/\iP P rows ops o=some (xs i))\/ ∃z tg g d,al i=some (.box z tg)/\iP P rows ops o=some ⟨g,d,.alloc z tg⟩/\xs i=⟨g,d,.mov (.c (.ptr (sl i) 0))⟩)
  (Og: ∀i j bi bj,al i=some bi->al j=some bj->sl i=sl j->i=j)  {cu:AS} (wq: ∀i b,al i=some b->gg.n<=sl i) (hd: ∀i,i<ops.size-> ∀d,(xs i).dst=some d->d<nt) (apn: ∀i o,ops[i]?=some o-> ∀a∈kW o,a<i)
  (Oh: ∀i j,i<j->j<ops.size->i∉hO ops 64 j->kh (xs i) (xs j)=true/\ (F i).ok (F j)=true):
  ∀ (fuel t:Nat) (listed:Array Bool) (l:lN) (G:Gh) (E E':AS) (w:World) (fr u:Fr) (a:Act) (Q:Exit->Act->World->Prop),
    (∀i,i∈l↔i<ops.size/\listed.getD i true=false)->listed.size=ops.size->l.Pairwise (· < ·)->(∀j o,ops[j]?=some o->listed.getD j true=true-> ∀a∈kW o,listed.getD a true=true)->l.length<=fuel->
    jQ X C xs F l fr E u E'->gg.le G->cu.Ext E->(∀i∈l,∀b,al i=some b->sl i<G.n/\G.pz (sl i)=some b)->ba P B ay G E w->cN G nt fr.env a.tmps->gz c7 G fr.marks a.defers->(∀e a w,mB P B ay c7 gg cu nt (.normal,u,E') e a w->Q e a w)->
    wpOpsIn (W r) n P ops Q (Region.linearise.go I ops fuel t listed []) a w:=by
 intro fuel
 induction fuel with
 |zero=>
  intro t listed l G E E' w fr u a Q hl T hp kZ hf hr hle s pA hw he hm hQ;have:l=[]:=ajM.1 (by omega);subst this;obtain⟨rfl,rfl⟩:=hr;exact hQ _ _ _ ⟨G,hle,hw,he,hm,s,trivial⟩
 |succ fuel ih=>
  intro t listed l G E E' w fr u a Q hl T hp kZ hf hr hle s pA hw he hm hQ;simp only[Region.linearise.go]
  change wpOpsIn (W r) n P ops Q (match(Region.ready I ops listed)[t % (Region.ready I ops listed).length]? with
   |some i=>Region.linearise.go I ops fuel (t/ (Region.ready I ops listed).length) (listed.setIfInBounds i true) [i]
   |none=>[].reverse) a w
  have J: ∀i,i∈Region.ready I ops listed↔i∈l/\ ∀o,ops[i]?=some o-> ∀e∈o.after.toList,Region.binds I e=true->listed.getD e.on false=true:=by
   intro i;simp only[Region.ready,agy,al1,ahV,aAJ];rw[hl];constructor
   ·rintro⟨R,H,h3⟩;refine⟨⟨R,H⟩,λo ho e Z O=>?_⟩;rw[ho]at h3;simp only[agl,ala,aqz]at h3;have:=h3 e (by simpa using Z);rw[O]at this;simpa using this
   ·rintro⟨⟨R,H⟩,h3⟩;refine⟨R,H,?_⟩;obtain⟨o,ho⟩: ∃o,ops[i]?=some o:=⟨ops[i],by simp[R]⟩;rw[ho];simp only[agl,ala,aqz];intro e Z;by_cases O:Region.binds I e=true
    ·rw[h3 o ho e (by simpa using Z) O];simp
    ·simp at O;simp[O]
  have Oi: ∀a,listed.getD a false=true->listed.getD a true=true:=by
   intro a h;simp only[agC]at h⊢;cases h':listed[a]? with
   |none=>rw[h']at h;cases h
   |some b=>rw[h']at h;exact h
  cases hi: (Region.ready I ops listed)[t % (Region.ready I ops listed).length]? with
  |none=>
   have DF:Region.ready I ops listed=[]:=by
    cases jR:Region.ready I ops listed with
    |nil=>rfl
    |cons x ys=>
     rw[jR]at hi;have yd:t % (x::ys).length< (x::ys).length:=aoo _ (by simp);rw[adQ yd]at hi;cases hi
   cases l with
   |nil=>
    obtain⟨rfl,rfl⟩:=hr;exact hQ _ _ _ ⟨G,hle,hw,he,hm,s,trivial⟩
   |cons i l=>
    exfalso;simp only[uF,ahV]at U;obtain⟨x,p,o,ho,uJ⟩:=Of (S:=λa=>listed.getD a false=true) (l:=i::l) (λx p na=>by
     cases sc:listed.getD x true with
     |true=>
      simp only[agC,axh (show x<listed.size by omega),ala]at sc⊢;exact sc
     |false=>exact absurd ((hl x).2 ⟨p,sc⟩) na) ord [] U.2 (by simp) ⟨i,by
      have:=agx.1 U.1 i (by simpa using((hl i).1 (by simp)).1);simpa using this,by simp⟩
    have:x∈Region.ready I ops listed:=(J x).2 ⟨p,λo' D e Z O=>by rw[ho]at D;cases D;exact uJ e Z O⟩;rw[DF]at this;cases this
  |some i=>
   simp only;rw[linearise_go_acc,List.reverse_singleton,List.singleton_append];have Oj:=alL hi;obtain⟨sd,Ol⟩:=(J i).1 Oj;have AU: ∀o,ops[i]?=some o-> ∀a∈kW o,listed.getD a true=true:=by
    intro o ho a ha;simp only[kW,ago,agy]at ha;obtain⟨e,⟨e1,e2⟩,rfl⟩:=ha;exact Oi _ (Ol o ho e e1 (XG e2))
   have Y:=((hl i).1 sd).1;obtain⟨o,ho⟩: ∃o,ops[i]?=some o:=⟨ops[i],by simp[Y]⟩;obtain⟨f,m,rfl⟩:=awC sd;have A:=anh.1 hp;have q:=Oc f fr u E E' (λx p=>by
    have na:=(hl x).1 (by simp[p]);refine Oh x i (A.2.2 x p i (by simp)) Y (λapo=>?_);have:=Oe (S:=λa=>listed.getD a true=true) (λj hj o' D a ha=>kZ j o' D hj a ha) 64 i o ho (AU o ho) x apo;rw[na.2]at this;cases this) hr
   rw[jQ]at q;have L: ∀k,k∈f++m↔k<ops.size/\ (listed.setIfInBounds i true).getD k true=false:=by
    intro k;have V:=hl k;have HW: ∀x∈f++m,x≠i:=by
     intro x p e;subst e;rcases ae2.1 p with h|h
     ·have:=A.2.2 x h x (by simp);omega
     ·have:=(aoB.1 A.2.1).1 x h;omega
    simp only[agC,amr]at V⊢;constructor
    ·intro h;have se:=HW k h;have:=V.1 (by simp only[ae2,agF]at h⊢;rcases h with h|h;exact .inl h;exact .inr (.inr h));rw[aeu (λe=>se e.symm)];exact this
    ·rintro⟨R,H⟩;by_cases yp:i=k
     ·subst yp;rw[aez rfl,aez (by omega)]at H;simp at H
     ·rw[aeu yp]at H;have:=V.2 ⟨R,H⟩;simp only[ae2,agF]at this⊢;rcases this with h|h|h
      ·exact .inl h
      ·exact absurd h.symm yp
      ·exact .inr h
   have nZ: (f++m).Pairwise (· < ·):=anh.2 ⟨A.1,(aoB.1 A.2.1).2,λx p y hy=>A.2.2 x p y (by simp[hy])⟩;have N: ∀j o,ops[j]?=some o->(listed.setIfInBounds i true).getD j true=true-> ∀a∈kW o,(listed.setIfInBounds i true).getD a true=true:=by
    intro j o' D hj a ha;have key:listed.getD a true=true->(listed.setIfInBounds i true).getD a true=true:=by
     intro h;simp only[agC,amr]at h⊢;split
     ·split<;>rfl
     ·exact h
    apply key;by_cases DG:i=j
    ·subst DG;rw[ho]at D;cases D;exact AU _ ho a ha
    ·refine kZ j o' D ?_ a ha;simp only[agC,amr]at hj⊢;rw[aeu DG]at hj;exact hj
   have qN: (f++m).length<=fuel:=by simp at hf⊢;omega
   have Om:i∉f++m:=λhm=>by
    rcases ae2.1 hm with h|h
    ·have:=A.2.2 i h i (by simp);omega
    ·have:=(aoB.1 A.2.1).1 i h;omega
   have K: ∀k∈f++m,∀b,al k=some b->sl k<G.n/\G.pz (sl k)=some b:=λk V b O=>pA k (by
    simp only[ae2,agF]at V⊢;rcases V with h|h
    ·exact .inl h
    ·exact .inr (.inr h)) b O
   rcases AT i o ho with⟨gC,p⟩| ⟨z,tg,g,d,gC,p,yq⟩
   ·have gA:guardOf ops o=some (xs i).g:=by
      unfold iP at p;split at p
      ·rename_i H;have:=ajL p;rw[<-this];exact H
      ·cases p
    have M: (xs i).dst=o.dst:=by
     unfold iP at p;split at p
     ·have:=ajL p;rw[<-this]
     ·cases p
    have uK:=yh he gA;simp only[wpOpsIn,ho];rw[uK];rcases q with⟨R,v,yr,H,_,h4⟩| ⟨R,_,h4⟩
    ·rw[aez R];refine yj hC hg p (hd i Y) hw he hm H (λDH oc e G' a' w' q1 q2 q3 q4 q5=>?_) (λDH oc e=>by cases e);cases e;exact ih _ _ (f++m) G' yr E' w' _ u a' Q L (by simpa using T) nZ N qN h4 (Gh.le_trans hle q1) (s.trans q3) (λk V b O=>by
      obtain⟨p1,p2⟩:=K k V b O;exact⟨aie p1 q1.n,by rw[q1.pz _ p1];exact p2⟩) q2 q4 q5 hQ
    ·rw[aeu (by rw[R];simp)];refine⟨λ_ _=>trivial,?_⟩;obtain⟨p1,p2,p3⟩:=qM (a:=a) he (hd i Y) (v:=.undef) (v':=undef) yg;rw[<-M];exact ih _ _ (f++m) G E E' w _ u _ Q L (by simpa using T) nZ N qN h4 hle s K hw p1 (by rw[p2,p3];exact hm) hQ
   ·rw[yq]at q;have yt: ∀d',d=some d'->d'<nt:=λd' AW=>hd i Y d' (by rw[yq];exact AW)
    have DI:kS P rows o=some (.alloc z tg)/\guardOf ops o=some g/\o.dst=d:=by
     unfold iP at p;split at p
     ·rename_i i' g' H h3;simp only[adP,aT.mk.injEq]at p;obtain⟨rfl,rfl,rfl⟩:=p;exact⟨H,h3,rfl⟩
     ·cases p
    obtain⟨On,gA,M⟩:=DI;have uK:=yh he gA;simp only[wpOpsIn,ho];rw[uK];rcases q with⟨R,v,yr,H,_,h4⟩| ⟨R,_,h4⟩
    ·rw[aez R];simp only[exec,ao.get,adP,Out.ok.injEq]at H;obtain⟨rfl,rfl⟩:=H;obtain⟨p1,p2⟩:=pA i (by simp) _ gC;obtain⟨t,pC,Oo,rfl⟩: ∃t,o.op= .alloc t/\hH P t=some z/\tg=rZ z t:=HV On;obtain⟨w',e1,e2,e3⟩:=hw.real p1 p2 Oo;refine⟨λ_ _=>trivial,?_⟩;have DJ:o.semAt (W r).round a.eval=execOp a.eval o:=by
      apply Oper.semAt_eq;intro c e;rw[pC]at e;cases e
     have DK: (execOp a.eval o).run P w= .ok (.value (.pointer (some ⟨w.heap.size,0,none⟩))) w':=by
      unfold execOp;simp only[pC];rw[Sem.run_bind,e1];rfl
     rw[DJ,DK];simp only[Oper.uponIn];have DL:=Gh.HT (b:=w.heap.size) p2;obtain⟨r1,r2,r3⟩:=qM (a:=a) (dst:=d) (he.dE DL) yt e3;rw[M];exact ih _ _ (f++m) _ E E' w' _ u _ Q L (by simpa using T) nZ N qN h4 (Gh.XH hle p2 (wq i _ gC)) s (λk V b O=>by
      obtain⟨p3,p4⟩:=K k V b O;refine⟨p3,?_⟩;have se:sl k≠sl i:=λe=>Om (by rw[Og i k _ _ gC O e.symm];exact V)
      simp only[Gh.real];rw[aeu se];exact p4) e2 r1 (by rw[r2,r3];exact hm.dE DL) hQ
    ·rw[aeu (by rw[R];simp)];refine⟨λ_ _=>trivial,?_⟩;obtain⟨p1,p2,p3⟩:=qM (a:=a) (dst:=d) he yt (v:=.undef) (v':=undef) yg;rw[M];exact ih _ _ (f++m) G E E' w _ u _ Q L (by simpa using T) nZ N qN h4 hle s K hw p1 (by rw[p2,p3];exact hm) hQ
theorem apq(L:Region.Mode){ord:lN}(yu:uF L ops ord=true)(sl:Nat->Nat)(al:Nat->Option ae)(AT: ∀i o,ops[i]?=some o->(al i=none/\iP P rows ops o=some (xs i))\/ ∃z tg g d,al i=some (.box z tg)/\iP P rows ops o=some ⟨g,d,.alloc z tg⟩/\xs i=⟨g,d,.mov (.c (.ptr (sl i) 0))⟩)
  (Og: ∀i j bi bj,al i=some bi->al j=some bj->sl i=sl j->i=j)  {cu:AS} (wq: ∀i b,al i=some b->gg.n<=sl i) (hd: ∀i,i<ops.size-> ∀d,(xs i).dst=some d->d<nt) (apn: ∀i o,ops[i]?=some o-> ∀a∈kW o,a<i)
  {f:Nat} (HX:f<ops.size) (Oh: ∀i j,i<j->j<f->i∉hO ops 64 j->kh (xs i) (xs j)=true/\ (F i).ok (F j)=true) (Oq: ∀i,i<f->i∈hO ops 64 f) (Ot: ∀j,f<j->j<ops.size->f∈hO ops 64 j) {HA:AV} {XI:AS}:
  ∀ (fuel t:Nat) (listed:Array Bool) (l:lN) (G:Gh) (E E':AS) (w:World) (fr D:Fr) (a:Act) (Q:Exit->Act->World->Prop),
    (∀i,i∈l↔i<f/\listed.getD i true=false)->listed.size=ops.size->(∀j,f<=j->j<ops.size->listed.getD j true=false)->l.Pairwise (· < ·)->(∀j o,ops[j]?=some o->listed.getD j true=true-> ∀a∈kW o,listed.getD a true=true)->l.length<fuel->
    jQ X C xs F l fr E D E'->gd D.env (xs f).g=true->exec X C (xs f).i D.env E'=some (.panic HA XI)->gg.le G->cu.Ext E->(∀i∈l,∀b,al i=some b->sl i<G.n/\G.pz (sl i)=some b)->ba P B ay G E w->cN G nt fr.env a.tmps->gz c7 G fr.marks a.defers->(∀e a w,mB P B ay c7 gg cu nt (.panic HA,D,XI) e a w->Q e a w)->
    wpOpsIn (W r) n P ops Q (Region.linearise.go L ops fuel t listed []) a w:=by
 intro fuel
 induction fuel with
 |zero=>simp
 |succ fuel ih=>
  intro t listed l G E E' w fr D a Q hl r9 AP hp kZ hf hr DM K hle I pA hw he hm hQ;simp only[Region.linearise.go]
  change wpOpsIn (W r) n P ops Q (match(Region.ready L ops listed)[t % (Region.ready L ops listed).length]? with
   |some i=>Region.linearise.go L ops fuel (t/ (Region.ready L ops listed).length) (listed.setIfInBounds i true) [i]
   |none=>[].reverse) a w
  have M: ∀i,i∈Region.ready L ops listed↔(i<ops.size/\listed.getD i true=false)/\ ∀o,ops[i]?=some o-> ∀e∈o.after.toList,Region.binds L e=true->listed.getD e.on false=true:=by
   intro i;simp only[Region.ready,agy,al1,ahV,aAJ];constructor
   ·rintro⟨J,A,h3⟩;refine⟨⟨J,A⟩,λo ho e DN V=>?_⟩;rw[ho]at h3;simp only[agl,ala,aqz]at h3;have:=h3 e (by simpa using DN);rw[V]at this;simpa using this
   ·rintro⟨⟨J,A⟩,h3⟩;refine⟨J,A,?_⟩;obtain⟨o,ho⟩: ∃o,ops[i]?=some o:=⟨ops[i],by simp[J]⟩;rw[ho];simp only[agl,ala,aqz];intro e DN;by_cases V:Region.binds L e=true
    ·rw[h3 o ho e (by simpa using DN) V];simp
    ·simp at V;simp[V]
  have Oi: ∀a,listed.getD a false=true->listed.getD a true=true:=by
   intro a h;simp only[agC]at h⊢;cases h':listed[a]? with
   |none=>rw[h']at h;cases h
   |some b=>rw[h']at h;exact h
  cases hi: (Region.ready L ops listed)[t % (Region.ready L ops listed).length]? with
  |none=>
   have DF:Region.ready L ops listed=[]:=by
    cases jR:Region.ready L ops listed with
    |nil=>rfl
    |cons x ys=>
     rw[jR]at hi;have yd:t % (x::ys).length< (x::ys).length:=aoo _ (by simp);rw[adQ yd]at hi;cases hi
   exfalso;simp only[uF,ahV]at yu;obtain⟨x,p,o,ho,uJ⟩:=Of (S:=λa=>listed.getD a false=true) (l:=(List.range ops.size).filter λi=>listed.getD i true==false) (λx p na=>by
    cases sc:listed.getD x true with
    |true=>
     simp only[agC,axh (show x<listed.size by omega),ala]at sc⊢;exact sc
    |false=>exact absurd (agy.2 ⟨al1.2 p,by simpa using sc⟩) na) ord [] yu.2 (by simp) ⟨f,by
     have:=agx.1 yu.1 f (by simpa using HX);simpa using this,agy.2 ⟨al1.2 HX,by simpa using AP f (ae0 _) HX⟩⟩
   have DI:x<ops.size/\listed.getD x true=false:=by simpa using agy.1 p
   have:x∈Region.ready L ops listed:=(M x).2 ⟨DI,λo' u e DN V=>by rw[ho]at u;cases u;exact uJ e DN V⟩;rw[DF]at this;cases this
  |some i=>
   simp only;rw[linearise_go_acc,List.reverse_singleton,List.singleton_append];have Oj:=alL hi;obtain⟨sd,Ol⟩:=(M i).1 Oj;have AU: ∀o,ops[i]?=some o-> ∀a∈kW o,listed.getD a true=true:=by
    intro o ho a ha;simp only[kW,ago,agy]at ha;obtain⟨e,⟨e1,e2⟩,rfl⟩:=ha;exact Oi _ (Ol o ho e e1 (XG e2))
   have Z:=sd.1;obtain⟨o,ho⟩: ∃o,ops[i]?=some o:=⟨ops[i],by simp[Z]⟩;have Y: ∀x∈hO ops 64 i,listed.getD x true=true:=Oe (S:=λa=>listed.getD a true=true) (λj hj o' u a ha=>kZ j o' u hj a ha) 64 i o ho (AU o ho);by_cases HY: ¬i<f
   ·have apr:i=f:=by
      refine amp λse=>?_
      have:=Y _ (Ot i (by omega) Z);rw[AP f (ae0 _) HX]at this;cases this
    subst apr;have DF:l=[]:=by
     cases l with
     |nil=>rfl
     |cons x l=>
      obtain⟨q1,q2⟩:=(hl x).1 (by simp);have:=Y _ (Oq x q1);rw[q2]at this;cases this
    subst DF;obtain⟨rfl,rfl⟩:=hr;rcases AT i o ho with⟨gC,p⟩| ⟨z,tg,g,d,gC,p,yq⟩
    ·have gA:guardOf ops o=some (xs i).g:=by
       unfold iP at p;split at p
       ·rename_i A;have:=ajL p;rw[<-this];exact A
       ·cases p
     have uK:=yh he gA;simp only[wpOpsIn,ho];rw[uK,aez DM];exact yj hC hg p (hd i Z) hw he hm K (λDH oc e=>by cases e) (λDH oc e e' a' w' h=>by cases e;exact hQ _ _ _ (h.trans hle I))
    ·rw[yq]at K;simp[exec]at K
   have HY:i<f:=Decidable.byContradiction HY;have sd:i∈l:=(hl i).2 ⟨HY,sd.2⟩;obtain⟨m,q,rfl⟩:=awC sd;have H:=anh.1 hp;have s:=Oc m fr D E E' (λx p=>by
    have na:=(hl x).1 (by simp[p]);refine Oh x i (H.2.2 x p i (by simp)) HY (λY=>?_);have:=Oe (S:=λa=>listed.getD a true=true) (λj hj o' u a ha=>kZ j o' u hj a ha) 64 i o ho (AU o ho) x Y;rw[na.2]at this;cases this) hr
   rw[jQ]at s;have O: ∀k,k∈m++q↔k<f/\ (listed.setIfInBounds i true).getD k true=false:=by
    intro k;have hk:=hl k;have HW: ∀x∈m++q,x≠i:=by
     intro x p e;subst e;rcases ae2.1 p with h|h
     ·have:=H.2.2 x h x (by simp);omega
     ·have:=(aoB.1 H.2.1).1 x h;omega
    simp only[agC,amr]at hk⊢;constructor
    ·intro h;have se:=HW k h;have:=hk.1 (by simp only[ae2,agF]at h⊢;rcases h with h|h;exact .inl h;exact .inr (.inr h));rw[aeu (λe=>se e.symm)];exact this
    ·rintro⟨J,A⟩;by_cases yp:i=k
     ·subst yp;rw[aez rfl,aez (by omega)]at A;simp at A
     ·rw[aeu yp]at A;have:=hk.2 ⟨J,A⟩;simp only[ae2,agF]at this⊢;rcases this with h|h|h
      ·exact .inl h
      ·exact absurd h.symm yp
      ·exact .inr h
   have nZ: (m++q).Pairwise (· < ·):=anh.2 ⟨H.1,(aoB.1 H.2.1).2,λx p y hy=>H.2.2 x p y (by simp[hy])⟩;have U: ∀j o,ops[j]?=some o->(listed.setIfInBounds i true).getD j true=true-> ∀a∈kW o,(listed.setIfInBounds i true).getD a true=true:=by
    intro j o' u hj a ha;have key:listed.getD a true=true->(listed.setIfInBounds i true).getD a true=true:=by
     intro h;simp only[agC,amr]at h⊢;split
     ·split<;>rfl
     ·exact h
    apply key;by_cases DG:i=j
    ·subst DG;rw[ho]at u;cases u;exact AU _ ho a ha
    ·refine kZ j o' u ?_ a ha;simp only[agC,amr]at hj⊢;rw[aeu DG]at hj;exact hj
   have qN: (m++q).length<fuel:=by simp at hf⊢;omega
   have R: ∀j,f<=j->j<ops.size->(listed.setIfInBounds i true).getD j true=false:=by
    intro j J A;have:=AP j J A;simp only[agC,amr]at this⊢;rw[aeu (by omega)];exact this
   have Om:i∉m++q:=λhm=>by
    rcases ae2.1 hm with h|h
    ·have:=H.2.2 i h i (by simp);omega
    ·have:=(aoB.1 H.2.1).1 i h;omega
   have N: ∀k∈m++q,∀b,al k=some b->sl k<G.n/\G.pz (sl k)=some b:=λk hk b V=>pA k (by
    simp only[ae2,agF]at hk⊢;rcases hk with h|h
    ·exact .inl h
    ·exact .inr (.inr h)) b V
   rcases AT i o ho with⟨gC,p⟩| ⟨z,tg,g,d,gC,p,yq⟩
   ·have gA:guardOf ops o=some (xs i).g:=by
      unfold iP at p;split at p
      ·rename_i A;have:=ajL p;rw[<-this];exact A
      ·cases p
    have T: (xs i).dst=o.dst:=by
     unfold iP at p;split at p
     ·have:=ajL p;rw[<-this]
     ·cases p
    have uK:=yh he gA;simp only[wpOpsIn,ho];rw[uK];rcases s with⟨J,v,yr,A,_,h4⟩| ⟨J,_,h4⟩
    ·rw[aez J];refine yj hC hg p (hd i Z) hw he hm A (λDH oc e G' a' w' q1 q2 q3 q4 q5=>?_) (λDH oc e=>by cases e);cases e;exact ih _ _ (m++q) G' yr E' w' _ D a' Q O (by simpa using r9) R nZ U qN h4 DM K (Gh.le_trans hle q1) (I.trans q3) (λk hk b V=>by
      obtain⟨p1,p2⟩:=N k hk b V;exact⟨aie p1 q1.n,by rw[q1.pz _ p1];exact p2⟩) q2 q4 q5 hQ
    ·rw[aeu (by rw[J];simp)];refine⟨λ_ _=>trivial,?_⟩;obtain⟨p1,p2,p3⟩:=qM (a:=a) he (hd i Z) (v:=.undef) (v':=undef) yg;rw[<-T];exact ih _ _ (m++q) G E E' w _ D _ Q O (by simpa using r9) R nZ U qN h4 DM K hle I N hw p1 (by rw[p2,p3];exact hm) hQ
   ·rw[yq]at s;have yt: ∀d',d=some d'->d'<nt:=λd' AW=>hd i Z d' (by rw[yq];exact AW)
    have DI:kS P rows o=some (.alloc z tg)/\guardOf ops o=some g/\o.dst=d:=by
     unfold iP at p;split at p
     ·rename_i i' g' A h3;simp only[adP,aT.mk.injEq]at p;obtain⟨rfl,rfl,rfl⟩:=p;exact⟨A,h3,rfl⟩
     ·cases p
    obtain⟨On,gA,T⟩:=DI;have uK:=yh he gA;simp only[wpOpsIn,ho];rw[uK];rcases s with⟨J,v,yr,A,_,h4⟩| ⟨J,_,h4⟩
    ·rw[aez J];simp only[exec,ao.get,adP,Out.ok.injEq]at A;obtain⟨rfl,rfl⟩:=A;obtain⟨p1,p2⟩:=pA i (by simp) _ gC;obtain⟨t,pC,Oo,rfl⟩: ∃t,o.op= .alloc t/\hH P t=some z/\tg=rZ z t:=HV On;obtain⟨w',e1,e2,e3⟩:=hw.real p1 p2 Oo;refine⟨λ_ _=>trivial,?_⟩;have DJ:o.semAt (W r).round a.eval=execOp a.eval o:=by
      apply Oper.semAt_eq;intro c e;rw[pC]at e;cases e
     have DK: (execOp a.eval o).run P w= .ok (.value (.pointer (some ⟨w.heap.size,0,none⟩))) w':=by
      unfold execOp;simp only[pC];rw[Sem.run_bind,e1];rfl
     rw[DJ,DK];simp only[Oper.uponIn];have DL:=Gh.HT (b:=w.heap.size) p2;obtain⟨r1,r2,r3⟩:=qM (a:=a) (dst:=d) (he.dE DL) yt e3;rw[T];exact ih _ _ (m++q) _ E E' w' _ D _ Q O (by simpa using r9) R nZ U qN h4 DM K (Gh.XH hle p2 (wq i _ gC)) I (λk hk b V=>by
      obtain⟨p3,p4⟩:=N k hk b V;refine⟨p3,?_⟩;have se:sl k≠sl i:=λe=>Om (by rw[Og i k _ _ gC V e.symm];exact hk)
      simp only[Gh.real];rw[aeu se];exact p4) e2 r1 (by rw[r2,r3];exact hm.dE DL) hQ
    ·rw[aeu (by rw[J];simp)];refine⟨λ_ _=>trivial,?_⟩;obtain⟨p1,p2,p3⟩:=qM (a:=a) (dst:=d) he yt (v:=.undef) (v':=undef) yg;rw[T];exact ih _ _ (m++q) G E E' w _ D _ Q O (by simpa using r9) R nZ U qN h4 DM K hle I N hw p1 (by rw[p2,p3];exact hm) hQ
end
end
section
variable{P:Program}{X:Ctx}{B:Nat}{ay:World}{c7:List Deferred}
def DO{x:aT}{b:ae}(h:x.fK=some b): ∃z tg,x.i= .alloc z tg/\b= .box z tg:=by
 unfold aT.fK at h
 grind
def AX{x:aT}(h:x.fK=none):lV m x=x:=by unfold lV;rw[h]
def AY{x:aT}{b:ae}(h:x.fK=some b):lV m x={x with i:=.mov (.c (.ptr m 0))}:=by unfold lV;rw[h]
def HZ{x:aT}: (lV m x).dst=x.dst:=by
 cases h:x.fK with
 |none=>rw[AX h]
 |some b=>rw[AY h]
def XJ{x:aT}: (lV m x).reads=x.reads:=by
 cases h:x.fK with
 |none=>rw[AX h]
 |some b=>
  rw[AY h];obtain⟨z,tg,a,_⟩:=DO h;unfold aT.reads;rw[a];rfl
theorem DP: ∀ (ys:List (aT×lN)) (n q:Nat),(ig n ys)[q]?=(ys[q]?).map λy=>(lV (n+(dD (ys.take q)).length) y.1,y.2)
 | [],n,q=>by rfl
 |o::os,n,0=>by rfl
 |o::os,n,q+1=>by
  simp only[ig,axQ,aqG];rw[DP os];cases h:o.1.fK with
  |none=>simp[dD,h]
  |some b=>
   simp only[dD,h,agt]
   grind
theorem Ou: ∀ (ys:List (aT×lN)) (n:Nat),(ig n ys).length=ys.length
 | [],_=>rfl
 |o::os,n=>by simp[ig,Ou os]
theorem Ov: ∀ (ys:List (aT×lN)) (q:Nat) (y:aT×lN) (b:ae),ys[q]?=some y->y.1.fK=some b->(dD ys)[(dD (ys.take q)).length]?=some b
 | [],q,y,b,h,_=>by grind
 |o::os,0,y,b,h,a=>by
  simp at h;subst h;simp[dD,a]
 |o::os,q+1,y,b,h,a=>by
  have c:=Ov os q y b (by grind) a;simp only[aqG,dD]
  grind
theorem DQ: ∀ (ys:List (aT×lN)) (i j:Nat) (y:aT×lN) (b:ae),ys[i]?=some y->y.1.fK=some b->i<j->(dD (ys.take i)).length< (dD (ys.take j)).length
 | [],i,j,y,b,h,_,_=>by grind
 |o::os,0,j+1,y,b,h,a,_=>by
  simp at h;subst h;simp[dD,a]
 |o::os,i+1,j+1,y,b,h,a,c=>by
  have d:=DQ os i j y b (by grind) a (by omega);simp only[aqG,dD]
  grind
 |o::os,_,0,y,b,h,a,c=>by omega
theorem H4: ∀ (ys:List (aT×lN)) (b:ae),b∈dD ys-> ∃y∈ys,y.1.fK=some b
 | [],b,h=>by trivial
 |o::os,b,h=>by
  simp only[dD]at h;cases ho:o.1.fK with
  |none=>
   rw[ho]at h;obtain⟨y,c,a⟩:=H4 os b h
   grind
  |some d=>
   rw[ho]at h;rcases agF.1 h with rfl|h
   ·grind
   ·obtain⟨y,c,a⟩:=H4 os b h
    grind
def Ox(hg:fC X B ay):AQ P X B ay:=by
 intro c7 C hC rows r n nt id ops u ys AT hd O G E w fr a res Q hw he hm hr hQ;obtain⟨DR,Z⟩:=XD AT;have XK:u.length=ops.size:=by omega
 unfold NC at O;simp only at O;split at O
 ·rename_i XL;simp only[ahV]at XL;obtain⟨⟨⟨⟨XM,Oy⟩,XN⟩,XO⟩,Y⟩:=XL;simp only[adP]at O
  let g:Nat->aT:=λi=>u.getD i default
  have s: ∀i,i<u.length->u[i]?=some (g i):=λi H=>by
   simp only[g,agn,adQ H,ala]
  have DS: ∀i,¬i<u.length->(g i).fK=none:=λi H=>by
   simp only[g,agn,alZ (Nat.le_of_not_lt H),axV];rfl
  let sl:Nat->Nat:=λi=>E.heap.length+(dD (ys.take i)).length
  let xs:Nat->aT:=λi=>lV (sl i) (g i)
  have DT:ys.length=u.length:=by rw[<-O];simp
  have I: ∀q y,ys[q]?=some y->y.1=g q:=by
   intro q y S;rw[<-O]at S;simp only[agA,azu,agj]at S;obtain⟨p,⟨z,hz,rfl⟩,rfl⟩:=S;have K:q<u.length:=(adN.1 hz).1;have:=s q K;rw[hz]at this;simpa using this
  have AZ: ∀q,q<u.length-> ∃L,ys[q]?=some (g q,L):=λq S=>by
   have:q<ys.length:=by omega
   refine⟨(ys[q]).2,?_⟩;have e:=adQ this;rw[e];have:=I q _ e;rw[<-this]
  by_cases hn:res.1= .normal
  ·obtain⟨F,f1,f2,f3,f4⟩:=Od (xs:=xs) (ig E.heap.length ys) [] fr _ res (λq y S=>by
     rw[DP]at S;obtain⟨y',R,rfl⟩:=agj.1 S;have:=I q y' R;simp only[am9,alV,xs,sl,<-this]) hr hn
   have Oz: (List.range (ig E.heap.length ys).length).map (([]:List FP).length+ ·)=List.range ops.size:=by
    rw[Ou,DT,XK];simp
   rw[Oz]at f3;obtain⟨ex,HM,E'⟩:=res;simp only at f2 f3;subst f2;have V: ∀i o,ops[i]?=some o-> ∀a∈kW o,a<i:=by
    intro i o ho a ha;have H:i<ops.size:=(amK.1 ho).1;have:=agx.1 XO i (by simp;omega);rw[ho]at this;simpa using agx.1 this a ha
   have T: ∀i j,i<j->j<ops.size->i∉hO ops 64 j->kh (xs i) (xs j)=true/\ (F i).ok (F j)=true:=by
    intro i j A D c;have H:i<ops.size:=by omega
    have hb: (((List.range u.length).map λi=>(hO ops 64 i).eraseDups).getD j []).contains i=false:=by
     simp only[agn,agA,apz (show j<u.length by omega),agl,ala];cases h: (hO ops 64 j).eraseDups.contains i with
     |false=>rfl
     |true=>
      rw[ata,List.mem_eraseDups]at h;exact absurd h c
    have R:=agx.1 Y (g i,i) (by rw[amS];exact s i (by omega));have W:=agx.1 R (g j,j) (by rw[amS];exact s j (by omega));simp only[ge_iff_le,aoS,alR]at W;refine⟨?_,?_⟩
    ·have sf:kh (xs i) (xs j)=kh (g i) (g j):=by
       unfold kh;simp only[xs,HZ,XJ]
     rw[sf];rcases W with(h|h)|h
     ·omega
     ·rw[hb]at h;cases h
     ·exact h
    ·by_cases ci: (xs i).i.cls=0
     ·rw[yn ci _ _ _ _ _ (by simp;omega) f3];exact Xy _
     ·by_cases cj: (xs j).i.cls=0
      ·rw[yn cj _ _ _ _ _ (by simp;omega) f3];exact Xz _
      ·have same: ∀k,(xs k).i.cls≠0->xs k=g k:=by
         intro k hk;cases v: (g k).fK with
         |none=>exact AX v
         |some b=>exact absurd (by show(lV (sl k) (g k)).i.cls=0;rw[AY v];rfl) hk
       have ei:=same i ci;have ej:=same j cj;have OA:ys[j]?=some (g j,r6 u.zipIdx ((List.range u.length).map λi=>(hO ops 64 i).eraseDups) (g j) j):=by
        rw[<-O];simp only[agA,azu,s j (by omega),agl,alV]
       have N: (ig E.heap.length ys)[j]?=some (xs j,r6 u.zipIdx ((List.range u.length).map λi=>(hO ops 64 i).eraseDups) (g j) j):=by
        rw[DP,OA];rfl
       have:=f4 j _ N i (by
        rw[ej]at cj;rw[ei]at ci;exact NB (x:=g i) (by rw[amS];exact s i (by omega)) A ci cj hb) (by simpa using A)
       simpa using this
   refine wpIn_region_draw (λt=>?_);have J: ∃md ord t',Region.schedule (P.follows .mixedOrders) ops t=Region.linearise md ops t'/\uF md ops ord=true:=by
    unfold Region.schedule;split
    ·exact⟨.any,_,t,rfl,XM⟩
    ·split
     ·exact⟨.text,_,_,rfl,Oy⟩
     ·exact⟨.gc,_,_,rfl,XN⟩
   obtain⟨md,ord,t',J,yu⟩:=J;rw[J];unfold Region.linearise;have OB: ∀o∈dD ys,∃z tg,o= .box z tg/\aI z=0:=by
    intro o ho;obtain⟨y,R,W⟩:=H4 ys o ho;obtain⟨z,tg,M,rfl⟩:=DO W;refine⟨z,tg,rfl,?_⟩;obtain⟨q,S⟩:=atP R;have K:q<ops.size:=by
     have:=(adN.1 S).1;omega
    obtain⟨x,e1,e2⟩:=Z q ops[q] (by simp[K]);have e3:=s q (by omega);rw[e1]at e3;rw[I q y S]at M;rw[ajL e3]at e2;have:kS P rows ops[q]=some (.alloc z tg):=by
     unfold iP at e2;split at e2
     ·rename_i i' g' h4 h5;rw[<-ajL e2]at M;simp only at M;rw[h4,M]
     ·cases e2
    obtain⟨t,_,hc,_⟩:=HV this;obtain⟨z',_,_,l,_⟩:=r8 hc (Gh.mk (λ_ _=>none) 0 (λi=>i) (λi=>i) (λi=>i) (λi=>i) (λi=>i) (λ_=>none)) w;have:=aG.refs _ _ l;simpa using this
   refine go_sound hC hg (xs:=xs) (F:=F) (rows:=rows) (nt:=nt) md yu sl (λi=>(g i).fK) (λi o ho=>?_) (λi j bi bj H D A=>?_) (gg:=G) (cu:=E) (λi b H=>?_) (λi H d yv=>hd (g i) (alL (s i (by omega))) d (by rw[<-HZ (m:=sl i)];exact yv)) V T ops.size t' _ (List.range ops.size) (G.later (dD ys)) (E.my (dD ys)) E' _ fr HM a Q
    (λi=>?_) (by simp) List.pairwise_lt_range (λj o ho D=>?_) (by simp) f3 (G.yo _) (.my E _) (λi H b hb=>?_) (hw.later OB).drew (he.mono (G.yo _)) (hm.mono (G.yo _)) hQ
   ·obtain⟨x,R,W⟩:=Z i o (by simpa using ho);have M:=s i (adN.1 R).1;rw[R]at M;have M:=ajL M;subst M;cases v: (g i).fK with
    |none=>exact .inl ⟨rfl,by rw[W];show _=some (lV (sl i) (g i));rw[AX v]⟩
    |some b=>
     obtain⟨z,tg,h4,rfl⟩:=DO v;refine .inr ⟨z,tg,(g i).g,(g i).dst,rfl,?_,?_⟩
     ·rw[W,<-h4]
     ·show lV (sl i) (g i)=_;rw[AY v]
   ·have OC:i<u.length:=by
      by_cases h:i<u.length
      ·exact h
      ·have:=DS i h;rw[this]at H;cases H
    have OD:j<u.length:=by
     by_cases h:j<u.length
     ·exact h
     ·have:=DS j h;rw[this]at D;cases D
    obtain⟨Li,ei⟩:=AZ i OC;obtain⟨Lj,ej⟩:=AZ j OD;have aps: (dD (ys.take i)).length=(dD (ys.take j)).length:=by
     have:E.heap.length+(dD (ys.take i)).length=E.heap.length+(dD (ys.take j)).length:=A;omega
    rcases az9 i j with h|h|h
    ·have:=DQ ys i j _ bi ei H h;omega
    ·exact h
    ·have:=DQ ys j i _ bj ej D h;omega
   ·show G.n<=E.heap.length+_;rw[hw.len];omega
   ·simp only[al1,agC,axp];constructor
    ·intro h;exact⟨h,by simp[h]⟩
    ·exactλh=>h.1
   ·exfalso;have K:j<ops.size:=(amK.1 ho).1;simp[agC,K]at D
   ·have K:i<ops.size:=by simpa using H
    obtain⟨L,e⟩:=AZ i (by omega);have DU:=Ov ys i _ b e hb;have A0:=(adN.1 DU).1;have hn:=hw.len;refine⟨by show E.heap.length+_<G.n+_;omega,?_⟩;show(if E.heap.length+_<G.n then _ else _)=some b;rw[aeu (by omega),hn,aid];exact DU
  ·obtain⟨F,f,HA,yr,aBV,f1,q1,f2,f3,f5,f6,f4,f8,f9,f10,f11⟩:=Xx (xs:=xs) (ig E.heap.length ys) [] fr _ res (λq y S=>by
     rw[DP]at S;obtain⟨y',R,rfl⟩:=agj.1 S;have:=I q y' R;simp only[am9,alV,xs,sl,<-this]) hr hn
   have Oz: (List.range f).map (([]:List FP).length+ ·)=List.range f:=by simp
   rw[Oz]at f3;obtain⟨ex,HM,E'⟩:=res;simp only[am9,alV]at f2 f3 f5 f6 f10 f11;subst f2;have U:f<ops.size:=by
    have:=(adN.1 q1).1;rw[Ou,DT,XK]at this;exact this
   have V: ∀i o,ops[i]?=some o-> ∀a∈kW o,a<i:=by
    intro i o ho a ha;have H:i<ops.size:=(amK.1 ho).1;have:=agx.1 XO i (by simp;omega);rw[ho]at this;simpa using agx.1 this a ha
   have OE: ∀i j,j<ops.size->i∉hO ops 64 j->(((List.range u.length).map λi=>(hO ops 64 i).eraseDups).getD j []).contains i=false:=by
    intro i j D c;simp only[agn,agA,apz (show j<u.length by omega),agl,ala];cases h: (hO ops 64 j).eraseDups.contains i with
    |false=>rfl
    |true=>
     rw[ata,List.mem_eraseDups]at h;exact absurd h c
   have sf: ∀i j,i<j->j<ops.size->i∉hO ops 64 j->kh (xs i) (xs j)=true:=by
    intro i j A D c;have hb:=OE i j D c;have R:=agx.1 Y (g i,i) (by rw[amS];exact s i (by omega));have W:=agx.1 R (g j,j) (by rw[amS];exact s j (by omega));simp only[ge_iff_le,aoS,alR]at W;have sf:kh (xs i) (xs j)=kh (g i) (g j):=by
     unfold kh;simp only[xs,HZ,XJ]
    rw[sf];rcases W with(h|h)|h
    ·omega
    ·rw[hb]at h;cases h
    ·exact h
   have same: ∀k,(xs k).i.cls≠0->xs k=g k:=by
    intro k hk;cases v: (g k).fK with
    |none=>exact AX v
    |some b=>exact absurd (by show(lV (sl k) (g k)).i.cls=0;rw[AY v];rfl) hk
   have N: ∀j,j<ops.size->(ig E.heap.length ys)[j]?=some (xs j,r6 u.zipIdx ((List.range u.length).map λi=>(hO ops 64 i).eraseDups) (g j) j):=by
    intro j D;have OA:ys[j]?=some (g j,r6 u.zipIdx ((List.range u.length).map λi=>(hO ops 64 i).eraseDups) (g j) j):=by
     rw[<-O];simp only[agA,azu,s j (by omega),agl,alV]
    rw[DP,OA];rfl
   have OF: ∀i j,i<j->j<ops.size->i∉hO ops 64 j->(xs i).i.cls≠0->(xs j).i.cls≠0->i∈r6 u.zipIdx ((List.range u.length).map λi=>(hO ops 64 i).eraseDups) (g j) j:=by
    intro i j A D c ci cj;have hb:=OE i j D c;rw[same i ci]at ci;rw[same j cj]at cj;exact NB (x:=g i) (by rw[amS];exact s i (by omega)) A ci cj hb
   have wu:=N f U;rw[q1]at wu;have wu:=ajL wu;subst wu;have T: ∀i j,i<j->j<f->i∉hO ops 64 j->kh (xs i) (xs j)=true/\ (F i).ok (F j)=true:=by
    intro i j A D c;refine⟨sf i j A (by omega) c,?_⟩;by_cases ci: (xs i).i.cls=0
    ·rw[yn ci _ _ _ _ _ (by simp;omega) f3];exact Xy _
    ·by_cases cj: (xs j).i.cls=0
     ·rw[yn cj _ _ _ _ _ (by simp;omega) f3];exact Xz _
     ·have:=f4 j _ D (N j (by omega)) i (OF i j A (by omega) c ci cj) (by simpa using A);simpa using this
   have Oq: ∀i,i<f->i∈hO ops 64 f:=by
    intro i H;refine amp λc=>?_
    simp only at f8 f9 f10;rcases f10 with f10|f10
    ·rw[same f f9]at f10;exact ann (x:=g i) (by rw[amS];exact s i (by omega)) H f10 (OE i f U c) f8
    ·have ci: (xs i).i.cls≠0:=λci=>f10 i H (yn ci _ _ _ _ _ (by simp;omega) f3)
     have:=OF i f H U c ci f9;rw[f8]at this;cases this
   have Ot: ∀j,f<j->j<ops.size->f∈hO ops 64 j:=by
    intro j D OG;refine amp λc=>?_
    have yw:=f11 j _ D (N j OG);simp only at yw;split at yw
    ·rw[sf f j D OG c]at yw;cases yw
    ·rename_i cj;exact yw (OF f j D OG c f9 cj)
   refine wpIn_region_draw (λt=>?_);have J: ∃md ord t',Region.schedule (P.follows .mixedOrders) ops t=Region.linearise md ops t'/\uF md ops ord=true:=by
    unfold Region.schedule;split
    ·exact⟨.any,_,t,rfl,XM⟩
    ·split
     ·exact⟨.text,_,_,rfl,Oy⟩
     ·exact⟨.gc,_,_,rfl,XN⟩
   obtain⟨md,ord,t',J,yu⟩:=J;rw[J];unfold Region.linearise;have OB: ∀o∈dD ys,∃z tg,o= .box z tg/\aI z=0:=by
    intro o ho;obtain⟨y,R,W⟩:=H4 ys o ho;obtain⟨z,tg,M,rfl⟩:=DO W;refine⟨z,tg,rfl,?_⟩;obtain⟨q,S⟩:=atP R;have K:q<ops.size:=by
     have:=(adN.1 S).1;omega
    obtain⟨x,e1,e2⟩:=Z q ops[q] (by simp[K]);have e3:=s q (by omega);rw[e1]at e3;rw[I q y S]at M;rw[ajL e3]at e2;have:kS P rows ops[q]=some (.alloc z tg):=by
     unfold iP at e2;split at e2
     ·rename_i i' g' h4 h5;rw[<-ajL e2]at M;simp only at M;rw[h4,M]
     ·cases e2
    obtain⟨t,_,hc,_⟩:=HV this;obtain⟨z',_,_,l,_⟩:=r8 hc (Gh.mk (λ_ _=>none) 0 (λi=>i) (λi=>i) (λi=>i) (λi=>i) (λi=>i) (λ_=>none)) w;have:=aG.refs _ _ l;simpa using this
   refine apq hC hg (xs:=xs) (F:=F) (rows:=rows) (nt:=nt) md yu sl (λi=>(g i).fK) (λi o ho=>?_) (λi j bi bj H D A=>?_) (gg:=G) (cu:=E) (λi b H=>?_) (λi H d yv=>hd (g i) (alL (s i (by omega))) d (by rw[<-HZ (m:=sl i)];exact yv)) V U T Oq Ot ops.size t' _ (List.range f) (G.later (dD ys)) (E.my (dD ys)) yr _ fr HM a Q
    (λi=>?_) (by simp) (λj _ D=>by simp[D]) List.pairwise_lt_range (λj o ho D=>?_) (by simpa using U) f3 f5 f6 (G.yo _) (.my E _) (λi H b hb=>?_) (hw.later OB).drew (he.mono (G.yo _)) (hm.mono (G.yo _)) hQ
   ·obtain⟨x,R,W⟩:=Z i o (by simpa using ho);have M:=s i (adN.1 R).1;rw[R]at M;have M:=ajL M;subst M;cases v: (g i).fK with
    |none=>exact .inl ⟨rfl,by rw[W];show _=some (lV (sl i) (g i));rw[AX v]⟩
    |some b=>
     obtain⟨z,tg,h4,rfl⟩:=DO v;refine .inr ⟨z,tg,(g i).g,(g i).dst,rfl,?_,?_⟩
     ·rw[W,<-h4]
     ·show lV (sl i) (g i)=_;rw[AY v]
   ·have OC:i<u.length:=by
      by_cases h:i<u.length
      ·exact h
      ·have:=DS i h;rw[this]at H;cases H
    have OD:j<u.length:=by
     by_cases h:j<u.length
     ·exact h
     ·have:=DS j h;rw[this]at D;cases D
    obtain⟨Li,ei⟩:=AZ i OC;obtain⟨Lj,ej⟩:=AZ j OD;have aps: (dD (ys.take i)).length=(dD (ys.take j)).length:=by
     have:E.heap.length+(dD (ys.take i)).length=E.heap.length+(dD (ys.take j)).length:=A;omega
    rcases az9 i j with h|h|h
    ·have:=DQ ys i j _ bi ei H h;omega
    ·exact h
    ·have:=DQ ys j i _ bj ej D h;omega
   ·show G.n<=E.heap.length+_;rw[hw.len];omega
   ·simp only[al1,agC,axp];constructor
    ·intro h;exact⟨h,by simp[Nat.lt_trans h U]⟩
    ·exactλh=>h.1
   ·exfalso;have K:j<ops.size:=(amK.1 ho).1;simp[agC,K]at D
   ·have K:i<ops.size:=Nat.lt_trans (by simpa using H) U;obtain⟨L,e⟩:=AZ i (by omega);have DU:=Ov ys i _ b e hb;have A0:=(adN.1 DU).1;have hn:=hw.len;refine⟨by show E.heap.length+_<G.n+_;omega,?_⟩;show(if E.heap.length+_<G.n then _ else _)=some b;rw[aeu (by omega),hn,aid];exact DU
 grind
def apt(n:Nat):yk (iter n):=λ_ _ _ _ h=>⟨n,h⟩
theorem XP(a:fC X B ay)(b:py P X)(c: ∀f p,X.cg f=some p->gB P B ay f p): ∀n,fY P B ay (iO X n)
 |0=>by intro fv args E d h;simp[iO]at h
 |n+1=>apc (XP a b c n) a b (Ox a) (apt n) c
end
section
variable{P:Program}{X:Ctx}{B:Nat}{ay:World}
def Gh.start(w:World):Gh where
 bD b o:=if b<w.heap.size then w.cell? ⟨b,o,none⟩else none
 n:=0
 bg:=id
 base:=id
 aj:=id
 ew:=id
 sz:=id
theorem ba.start(w:World):ba P w.heap.size w (Gh.start w) {heap:=[],lo:=none} w where
 len:=rfl
 bD b o v h:=by
  simp only[Gh.start]at h
  grind
 obj id o h:=by grind
 inj i j a:=absurd a.1 (aol _)
 sep i a:=absurd a.1 (aol _)
 low i a:=absurd a.1 (aol _)
 lZ i o a:=absurd a (aol _)
 lY:=⟨rfl,rfl,rfl,ae0 _,λ_ _=>rfl⟩
 hB:=ae0 _
 dO b o v c h:=by simp only[Gh.start];grind
end
section
variable{P:Program}{X:Ctx}{B:Nat}{ay:World}
def bE.le(C a:bE):Prop:= ∀f args E r,C f args E=some r->a f args E=some r
def qP(b a:Fr->AS->jy):Prop:= ∀fr E r,b fr E=some r->a fr E=some r
def eH.le(L c:eH):Prop:= ∀b a,qP b a->qP (L b) (c a)
theorem A1{C c:bE}(b:bE.le C c)(i:I)(e:Env)(E:AS)(r:Out)(h:exec X C i e E=some r):exec X c i e E=some r:=by
 cases i with
 |call f args=>
  simp only[exec]at h⊢;split at h
  ·rename_i a;rw[b _ _ _ _ a];exact h
  ·rename_i a;rw[b _ _ _ _ a];exact h
  grind
 |_=>simpa only[exec]using h
theorem H5{C b:bE}(a:bE.le C b): ∀ (os:List aT),qP (fa X C os) (fa X b os)
 | [],_,_,_,h=>by trivial
 |o::os,fr,E,r,h=>by
  simp only[fa]at h⊢;split at h
  ·rename_i hw;rw[aez hw];split at h
   ·rename_i c;rw[A1 a _ _ _ _ c];exact H5 a os _ _ _ h
   ·grind [A1]
   grind
  ·rename_i hw;rw[aeu hw];exact H5 a os _ _ _ h
theorem H6{C c:bE}(b:bE.le C c): ∀ (os:List (aT×lN)) (a:List FP),qP (gy X C a os) (gy X c a os)
 | [],_,_,_,_,h=>by trivial
 |o::os,a,fr,E,r,h=>by
  simp only[gy]at h⊢;split at h
  ·rename_i hw;rw[aez hw];split at h
   ·rename_i d;rw[A1 b _ _ _ _ d];simp only;split at h
    ·rename_i e;rw[aez e];exact H6 b os _ _ _ _ h
    grind
   ·grind [A1]
   grind
  ·rename_i hw;rw[aeu hw];exact H6 b os _ _ _ _ h
theorem qQ{C m:bE}{L l:eH}(d:bE.le C m)(e:eH.le L l)(bU:FuncId)(rd:Bool): ∀pc,qP (bm X C L bU rd pc) (bm X m l bU rd pc)
 |.skip,_,_,_,h=>by trivial
 |.seq a b,fr,E,r,h=>by
  simp only[bm]at h⊢;split at h
  ·rename_i f;rw[qQ d e bU rd a _ _ _ f];exact qQ d e bU rd b _ _ _ h
  ·cases i:bm X C L bU rd a fr E with
   |none=>grind
   |some q=>
    rw[qQ d e bU rd a _ _ _ i]
    grind
 |.cond c a b,fr,E,r,h=>by
  simp only[bm]at h⊢;split at h
  ·rename_i t o;split at h
   ·rename_i j;rw[aez j];exact qQ d e bU rd a _ _ _ h
   ·rename_i j;rw[aeu j];exact qQ d e bU rd b _ _ _ h
  omega
 |.block id body,fr,E,r,h=>by
  simp only[bm]at h⊢;cases i:bm X C L bU rd body fr E with
  |none=>rw[i]at h;cases h
  |some q=>rw[qQ d e bU rd body _ _ _ i];rw[i]at h;exact h
 |.loop body,fr,E,r,h=>by
  simp only[bm]at h⊢;exact e _ _ (qQ d e bU rd body) _ _ _ h
 |.exit id,_,_,_,h=>by simpa only[bm]using h
 |.ret,_,_,_,h=>by simpa only[bm]using h
 |.aQ ops,fr,E,r,h=>by
  simp only[bm]at h⊢;exact H5 d ops _ _ _ h
 |.uA ops,fr,E,r,h=>by
  simp only[bm]at h⊢;exact H6 d _ _ _ _ _ h
 |.ie g ps as bd,fr,E,r,h=>by
  simp only[bm]at h⊢;split at h
  ·cases h
  ·rename_i k;rw[aeu k];split at h
   ·rename_i n;rw[aez n];split at h
    ·rename_i f;rw[d _ _ _ _ f];exact h
    ·rename_i f;rw[d _ _ _ _ f];exact h
    ·cases h
   ·cases h
theorem apu{C o:bE}{L n:eH}(m:bE.le C o)(k:eH.le L n)(l:Nat)(args:lA)(E:AS)(r:aX)(h:lW X C L l args E=some r):lW X o n l args E=some r:=by
 simp only[lW]at h⊢;split at h
 ·rename_i st i f env ps as bd u;split at h
  ·rename_i a;simp only[a,ahJ];split at h
   ·rename_i fr d p;rw[qQ m k _ _ _ _ _ _ p];simp only;split at h
    ·rename_i b t c e g je s;cases j:bm X C L f true bd fr (d.set l (.loop .busy b t c e g je) 0)with
     |none=>rw[j]at h;cases h
     |some q=>rw[qQ m k _ _ _ _ _ _ j];grind
    omega
   grind
  grind
 omega
def XQ{C c:bE}{L b:eH}(e:bE.le C c)(d:eH.le L b):bE.le (step X C L) (step X c b):=by
 intro v args E r h;unfold step at h⊢;split at h
 ·rename_i f first cap
  split at h
  ·omega
  ·split at h
   ·rename_i pf g;split at h
    ·cases a:bm X C L f false pf.body {env:=dj (first++args++cap),marks:=[]} {E with lo:=none}with
     |none=>rw[a]at h;cases h
     |some q=>rw[qQ e d _ _ _ _ _ _ a];grind
    grind
   omega
 ·grind [apu]
 omega
theorem OH: ∀n,eH.le (iter n) (iter (n+1))
 |0,b,c,a,fr,E,r,h=>by trivial
 |n+1,b,c,a,fr,E,r,h=>by
  rw[iter]at h⊢;split at h
  ·rename_i d;rw[a _ _ _ d];exact OH n b c a _ _ _ h
  ·rw[a _ _ _ h]
   grind
theorem XR: ∀n,bE.le (iO X n) (iO X (n+1))
 |0=>λf args E r h=>by trivial
 |n+1=>by
  exact XQ (XR n) (OH n)
def bE.le_trans{A B C:bE}(h:bE.le A B)(k:bE.le B C):bE.le A C:=λf a s r e=>k f a s r (h f a s r e)
def yx(h:n<=m):bE.le (iO X n) (iO X m):=by
 induction h with
 |refl=>exactλf a s r e=>e
 |step _ b=>exact bE.le_trans b (XR _)
def OI(h:n<=m)(b:Fr->AS->jy):qP (iter n b) (iter m b):=by
 induction h with
 |refl=>exactλfr s r e=>e
 |step _ a=>exactλfr s r e=>OH _ b b (λ_ _ _ h=>h) _ _ _ (a fr s r e)
theorem H7: ∀n (b a:Fr->AS->jy),qP b a->qP (iter n b) (iter n a)
 |0,_,_,_=>λfr E r h=>by trivial
 |n+1,b,a,c=>λfr E r h=>by
  rw[iter]at h⊢;split at h
  ·rename_i d;rw[c _ _ _ d];exact H7 n b a c _ _ _ h
  ·rw[c _ _ _ h]
   grind
def XS(h:n<=m):eH.le (iter n) (iter m):=by
 intro b a c fr s r e;exact OI h a _ _ _ (H7 n b a c _ _ _ e)
noncomputable def D(X:Ctx):bE:=λf args E=>
 open Classical in if h: ∃r,∃n,iO X n f args E=some r then some h.choose else none
noncomputable def Lw:eH:=λb fr E=>
 open Classical in if h: ∃r,∃n,iter n b fr E=some r then some h.choose else none
def OJ:bE.le (iO X n) (D X):=by
 intro f args E r h;have a: ∃r,∃n,iO X n f args E=some r:=⟨r,n,h⟩;unfold D;obtain⟨m,hm⟩:=a.choose_spec;have c:=yx (aq7 n m) _ _ _ _ h;have b:=yx (aqT n m) _ _ _ _ hm
 grind
theorem yy{f:AV}{args:lA}{E:AS}{r:aX}(h:D X f args E=some r): ∃n,iO X n f args E=some r:=by
 unfold D at h;split at h
 ·grind
 grind
def OK{b:Fr->AS->jy}:qP (iter n b) (Lw b):=by
 intro fr E r h;have a: ∃r,∃n,iter n b fr E=some r:=⟨r,n,h⟩;unfold Lw;obtain⟨m,hm⟩:=a.choose_spec;have d:=OI (aq7 n m) b _ _ _ h;have c:=OI (aqT n m) b _ _ _ hm
 grind
def DV{b:Fr->AS->jy}{a:Fr}{E:AS}{r:Ex×Fr×AS}(h:Lw b a E=some r): ∃n,iter n b a E=some r:=by
 unfold Lw at h;split at h
 ·grind
 grind
theorem apv(b:Fr->AS->jy)(e:Fr)(E:AS):Lw b e E=match b e E with
  |some (.normal,c,E')=>Lw b c E'
  |r=>r:=by
 split
 ·rename_i c E' d;cases g:Lw b c E' with
  |none=>
   cases f:Lw b e E with
   |none=>rfl
   |some r=>
    obtain⟨n,a⟩:=DV f;cases n with
    |zero=>trivial
    |succ n=>rw[iter,d]at a;rw[OK _ _ _ a]at g;cases g
  |some r=>
   obtain⟨n,a⟩:=DV g;exact OK (n:=n+1) _ _ _ (by rw[iter,d];exact a)
 ·cases d:b e E with
  |none=>
   cases f:Lw b e E with
   |none=>rfl
   |some r=>
    obtain⟨n,a⟩:=DV f;cases n with
    |zero=>trivial
    |succ n=>rw[iter,d]at a;cases a
  |some q=>
   refine OK (n:=1) _ _ _ ?_;rw[iter,d]
   grind
theorem H8{i:I}{E:AS}{r:Out}(h:exec X (D X) i e E=some r): ∃n,exec X (iO X n) i e E=some r:=by
 cases i with
 |call f args=>
  simp only[exec]at h⊢;split at h
  ·grind [yy]
  ·rename_i b;obtain⟨n,a⟩:=yy b;exact⟨n,by rw[a];exact h⟩
  grind
 |_=>exact⟨0,by simpa only[exec]using h⟩
theorem OM: ∀ (os:List aT) (fr:Fr) (E:AS) (r:Ex×Fr×AS),fa X (D X) os fr E=some r-> ∃n,fa X (iO X n) os fr E=some r
 | [],_,_,_,h=>⟨0,by trivial⟩
 |o::os,fr,E,r,h=>by
  simp only[fa]at h⊢;split at h
  ·rename_i hw;simp only[hw,ahJ];split at h
   ·rename_i a;obtain⟨n,b⟩:=H8 a;obtain⟨m,hm⟩:=OM os _ _ _ h;refine⟨max n m,?_⟩;rw[A1 (yx (aq7 n m)) _ _ _ _ b];exact H5 (yx (aqT n m)) _ _ _ _ hm
   ·grind [H8]
   grind
  ·obtain⟨m,hm⟩:=OM os _ _ _ h
   grind
theorem ON: ∀ (os:List (aT×lN)) (a:List FP) (fr:Fr) (E:AS) (r:Ex×Fr×AS),gy X (D X) a os fr E=some r-> ∃n,gy X (iO X n) a os fr E=some r
 | [],_,_,_,_,h=>⟨0,by trivial⟩
 |o::os,a,fr,E,r,h=>by
  simp only[gy]at h⊢;split at h
  ·rename_i hw;simp only[hw,ahJ];split at h
   ·rename_i b;obtain⟨n,c⟩:=H8 b;split at h
    ·rename_i d;obtain⟨m,hm⟩:=ON os _ _ _ _ h;refine⟨max n m,?_⟩;rw[A1 (yx (aq7 n m)) _ _ _ _ c];simp only;rw[aez d];exact H6 (yx (aqT n m)) _ _ _ _ _ hm
    grind
   ·rename_i b;obtain⟨n,c⟩:=H8 b
    grind
   grind
  ·obtain⟨m,hm⟩:=ON os _ _ _ _ h
   grind
def yz(h:n<=m)(bU:FuncId)(rd:Bool)(pc:PC):qP (bm X (iO X n) (iter n) bU rd pc) (bm X (iO X m) (iter m) bU rd pc):=
 qQ (yx h) (XS h) bU rd pc
theorem qR(bU:FuncId)(rd:Bool): ∀ (pc:PC) (fr:Fr) (E:AS) (r:Ex×Fr×AS),bm X (D X) Lw bU rd pc fr E=some r-> ∃n,bm X (iO X n) (iter n) bU rd pc fr E=some r
 |.skip,_,_,_,h=>⟨0,by trivial⟩
 |.seq a b,fr,E,r,h=>by
  simp only[bm]at h;split at h
  ·rename_i e;obtain⟨n,d⟩:=qR bU rd a _ _ _ e;obtain⟨m,hm⟩:=qR bU rd b _ _ _ h;refine⟨max n m,?_⟩;simp only[bm];rw[yz (aq7 n m) _ _ _ _ _ _ d];exact yz (aqT n m) _ _ _ _ _ _ hm
  ·rename_i e;obtain⟨n,d⟩:=qR bU rd a _ _ _ h;refine⟨n,?_⟩;simp only[bm];rw[d];obtain⟨ex,l,E'⟩:=r;cases ex with
   |normal=>exact absurd h (e _ _)
   |_=>rfl
 |.cond c a b,fr,E,r,h=>by
  simp only[bm]at h;split at h
  ·rename_i t p;split at h
   ·rename_i i;obtain⟨n,d⟩:=qR bU rd a _ _ _ h;exact⟨n,by simp only[bm,p,i,ahJ];exact d⟩
   ·rename_i i;obtain⟨n,d⟩:=qR bU rd b _ _ _ h;exact⟨n,by simp only[bm,p,aeu i];exact d⟩
  ·cases h
 |.block id body,fr,E,r,h=>by
  simp only[bm]at h;cases j:bm X (D X) Lw bU rd body fr E with
  |none=>rw[j]at h;cases h
  |some q=>
   obtain⟨n,d⟩:=qR bU rd body _ _ _ j;refine⟨n,?_⟩;simp only[bm];rw[d];rw[j]at h;exact h
 |.loop body,fr,E,r,h=>by
  simp only[bm]at h;obtain⟨k,u⟩:=DV h;have key: ∀k fr,∀E,iter k (bm X (D X) Lw bU rd body) fr E=some r-> ∃n,iter n (bm X (iO X n) (iter n) bU rd body) fr E=some r:=by
   intro k
   induction k with
   |zero=>intro fr E h;simp[iter]at h
   |succ k s=>
    intro fr E h;rw[iter]at h;split at h
    ·rename_i e;obtain⟨n,d⟩:=qR bU rd body _ _ _ e;obtain⟨m,hm⟩:=s _ _ h;refine⟨max n m+1,?_⟩;rw[iter];rw[yz (show n<=max n m+1 by omega) _ _ _ _ _ _ d];exact XS (show m<=max n m by omega) _ _ (yz (show m<=max n m+1 by omega) _ _ _) _ _ _ hm
    ·rename_i e;obtain⟨n,d⟩:=qR bU rd body _ _ _ h;refine⟨n+1,?_⟩;rw[iter,yz (azV n) _ _ _ _ _ _ d];obtain⟨ex,l,E'⟩:=r;cases ex with
     |normal=>exact absurd h (e _ _)
     |_=>rfl
  obtain⟨n,d⟩:=key k fr E u;exact⟨n,by simp only[bm];exact d⟩
 |.exit id,_,_,_,h=>⟨0,by simpa only[bm]using h⟩
 |.ret,_,_,_,h=>⟨0,by simpa only[bm]using h⟩
 |.aQ ops,fr,E,r,h=>by
  simp only[bm]at h;obtain⟨n,d⟩:=OM _ _ _ _ h;exact⟨n,by simp only[bm];exact d⟩
 |.uA ops,fr,E,r,h=>by
  simp only[bm]at h;obtain⟨n,d⟩:=ON _ _ _ _ _ h;exact⟨n,by simp only[bm];exact d⟩
 |.ie g ps as bd,fr,E,r,h=>by
  simp only[bm]at h;split at h
  ·cases h
  ·rename_i f;split at h
   ·rename_i o;split at h
    ·rename_i e;obtain⟨n,d⟩:=yy e;exact⟨n,by simp only[bm];rw[aeu f,aez o,d];exact h⟩
    ·rename_i e;obtain⟨n,d⟩:=yy e;exact⟨n,by simp only[bm];rw[aeu f,aez o,d];exact h⟩
    ·cases h
   ·cases h
def apw{args:lA}{E:AS}{r:aX}(h:lW X (D X) Lw l args E=some r): ∃n,lW X (iO X n) (iter n) l args E=some r:=by
 simp only[lW]at h⊢;split at h
 ·rename_i st i f env ps as bd t;split at h
  ·rename_i d;split at h
   ·rename_i fr c k;obtain⟨n,o⟩:=qR _ _ _ _ _ _ k;split at h
    ·rename_i a s b e g je p;cases j:bm X (D X) Lw f true bd fr (c.set l (.loop .busy a s b e g je) 0)with
     |none=>rw[j]at h;cases h
     |some q=>
      obtain⟨m,hm⟩:=qR _ _ _ _ _ _ j;have e1:=yz (aq7 n m) _ _ _ _ _ _ o;have u:=yz (aqT n m) _ _ _ _ _ _ hm
      grind
    grind
   grind
  grind
 grind
def H9{args:lA}{E:AS}{r:aX}(h:step X (D X) Lw v args E=some r):D X v args E=some r:=by
 have key: ∃n,step X (iO X n) (iter n) v args E=some r:=by
  unfold step at h⊢;split at h
  ·rename_i f first cap
   split at h
   ·simp_all
   ·split at h
    ·rename_i pf c;split at h
     ·cases a:bm X (D X) Lw f false pf.body {env:=dj (first++args++cap),marks:=[]} {E with lo:=none}with
      |none=>rw[a]at h;cases h
      |some q=>grind [qR]
     grind
    grind
  ·exact apw h
  grind
 obtain⟨n,b⟩:=key;exact OJ (n:=n+1) _ _ _ _ (by trivial)
def OO(b:fC X B ay)(c:py P X)(d: ∀f p,X.cg f=some p->gB P B ay f p):fY P B ay (D X):=by
 intro fv args E e h;obtain⟨n,a⟩:=yy h;exact XP b c d n fv args E e a
end
def Ia:Value->Prop
 |.slice (some a) _ _=>a.spot=none
 |_=>True
section
variable{H:Type}{enc:TypeId×Value->H}{P:Program}{w:World}{sp:Nat->Bool}{held:Bool}
def OP(R:TypeId->DataW H->lA->Prop):List Field->List (DataW H)->lA->Prop
 | [],e,xs=>e=[]/\xs=[]
 |x::r,e,xs=> ∃d c a b,e=d::c/\xs=a++b/\R x.type d a/\OP R r c b
def ik(P:Program):Nat->TypeId->DataW H->lA->Prop
 |0,_,_,_=>False
 |f+1,t,d,xs=>match P.underlying t with
  |some .bool=> ∃b,d= .lit (.bool b)/\xs=[.bool b]
  |some (.int k)=> ∃n,d= .lit (.int k n)/\xs=[.int k n]/\ (Lit.int k n).wf=true
  |some .string=> ∃s:ByteArray,d= .lit (.string s.data.toList)/\xs=[.str s]/\s.size<=maxLen
  |some (.slice e)=>(d= .nil/\xs=[.aq])\/ ∃ (es rest:List (DataW H)) (af:List lA),d= .slice es rest/\xs=[.sl af false]/\es.length=af.length/\af.length<=maxLen/\
    ∀ (i:Nat) (a:DataW H) (b:lA),es[i]?=some a->af[i]?=some b->b.length=P.cellsOf e/\ik P f e a b
  |some (.struct fs)=> ∃c,d= .agg c/\OP (ik P f) fs.toList c xs
  |some (.array n e)=> ∃ (c:List (DataW H)) (af:List lA),d= .agg c/\xs=af.flatten/\c.length=n/\af.length=n/\ ∀ (i:Nat) (a:DataW H) (b:lA),c[i]?=some a->af[i]?=some b->ik P f e a b
  |_=>False
def A2(P:Program)(g:TypeId->Bool):List Field->Nat->Nat->Bool
 | [],off,n=>off==n
 |x::r,off,n=>x.offset==off&&g x.type&&A2 P g r (off+P.cellsOf x.type) n
def A3(P:Program)(nest:Bool):Nat->TypeId->Bool
 |0,_=>false
 |f+1,t=>match P.underlying t with
  |some .bool=>true
  |some (.int _)=>true
  |some .string=>true
  |some (.slice e)=>nest&&A3 P nest f e
  |some (.struct fs)=>A2 P (A3 P nest f) fs.toList 0 (P.cellsOf t)
  |some (.array n e)=>A3 P nest f e&&P.cellsOf t==n*P.cellsOf e
  |_=>false
def XT(w:World)(b o:Nat):Option Value:=if b<w.heap.size then w.cell? ⟨b,o,none⟩else none
def apx{b o:Nat}{v:Value}(h:w.cell? ⟨b,o,none⟩=some v):XT w b o=some v:=by
 unfold XT;rw[aez,h];unfold World.cell? at h
 grind
def XU{a:Addr}(h:a.spot=none)(n:Nat):a.add n=⟨a.block,a.off+n,none⟩:=by
 unfold Addr.add;split
 ·obtain⟨b,o,s⟩:=a;grind
 ·rfl
def apy{a:Addr}(e:a.spot=none){c:Nat}{cs:List Value}(h:w.cells? 0 (a.add k) c=some cs):cs.length=c/\ ∀ (j:Nat) (v:Value),cs[j]?=some v->w.cell? ⟨a.block,a.off+k+j,none⟩=some v:=by
 have b:=mapM_some_length h;rw[axi]at b;refine⟨b,λj v d=>?_⟩;have:=mapM_some_get h j j (by grind);rw[d]at this;rw[XU e,XU rfl]at this;omega
def XV{e:TypeId}{R:DataW H->lA->Prop}{a:Addr}(A:a.spot=none)
  (D: ∀ (cs:List Value) d ps,(∀ (j:Nat) (v:Value),cs[j]?=some v-> ∃o,w.cell? ⟨a.block,o,none⟩=some v)->DataW.trod enc P w 0 sp held n e cs=some (d,ps)-> ∃xs,R d xs/\aG (Gh.start w) xs cs/\Leaves cs/\xs.length=cs.length)
  {es:List (DataW H×List MemPlace)} (len:Nat) (M:len<=es.length)
  (h: ∀i,i<len->(w.cells? 0 (a.add (i*P.cellsOf e)) (P.cellsOf e)).bind (DataW.trod enc P w 0 sp held n e)=es[i]?):
  ∃ (af:List lA) (vs:List Value),af.length=len/\ (∀ (i:Nat) (x:DataW H×List MemPlace) (b:lA),es[i]?=some x->af[i]?=some b->b.length=P.cellsOf e/\R x.1 b)/\aG (Gh.start w) af.flatten vs/\Leaves vs/\vs.length=len*P.cellsOf e/\qK (Gh.start w) a.block a.off vs:=by
 induction len with
 |zero=>exact⟨[],[],rfl,λi x b _ f=>by grind,rfl,λv c=>by grind,by simp,λj v c=>by grind⟩
 |succ m y=>
  obtain⟨af,vs,q,J,I,G,F,E⟩:=y (by omega) (λi p=>h i (by omega));have hm:=h m (aqS m);have g:es[m]?=some es[m]:=adQ (by omega);rw[g,anf]at hm;obtain⟨cs,C,z⟩:=hm;obtain⟨K,r⟩:=apy A C;obtain⟨xs,u,t,s,L⟩:=D cs es[m].1 es[m].2 (λj v c=>⟨_,r j v c⟩) z;refine⟨af++[xs],vs++cs,by simp[q],λi x b k f=>?_,by rw[ana];simpa using I.append t,G.append s,by simp[F,K,aqt],λj v c=>?_⟩
  ·by_cases p:i<af.length
   ·rw[acK p]at f;exact J i x b k f
   ·have l:=(adN.1 f).1;rw[aeZ,aq9]at l;have:i=m:=by omega
    subst this;rw[ags (by omega),q,Nat.sub_self]at f;simp only[aqQ,adP]at f;rw[g]at k;cases k;cases f;exact⟨by omega,u⟩
  ·by_cases B:j<vs.length
   ·rw[acK B]at c;exact E j v c
   ·rw[ags (by omega)]at c;have:=r _ _ c;have e1:a.off+m*P.cellsOf e+(j-vs.length)=a.off+j:=by omega
    rw[e1]at this;exact apx this
theorem OQ{n:Nat}{R:TypeId->DataW H->lA->Prop}{g:TypeId->Bool}{cs:List Value}
  (m: ∀t c d ps,g t=true->(∀v∈c,v∈cs)->DataW.trod enc P w 0 sp held n t c=some (d,ps)-> ∃xs,R t d xs/\aG (Gh.start w) xs c/\Leaves c/\xs.length=c.length)
  (N:Nat) (u:cs.length=N):
  ∀ (fs:List Field) (ys:List (DataW H×List MemPlace)) (off:Nat),A2 P g fs off N=true->ys.length=fs.length->(∀ (i:Nat) (f:Field),fs[i]?=some f->DataW.trod enc P w 0 sp held n f.type ((cs.drop f.offset).take (P.cellsOf f.type))=ys[i]?)->
    ∃xs,OP R fs (ys.map (·.1)) xs/\aG (Gh.start w) xs (cs.drop off)/\Leaves (cs.drop off)/\xs.length=(cs.drop off).length
 | [],ys,off,j,k,_=>by
   simp only[A2,atT]at j;have:cs.drop off=[]:=ah2 (by omega);rw[this];cases ys with
   |nil=>exact⟨[],⟨rfl,rfl⟩,rfl,λv l=>by grind,rfl⟩
   |cons _ _=>grind
 |x::r,ys,off,j,k,h=>by
  simp only[A2,ahV,atT]at j;obtain⟨⟨rfl,s⟩,p⟩:=j;cases ys with
  |nil=>grind
  |cons y ys=>
   have o:=h 0 x rfl;simp only[aqQ]at o;obtain⟨a,G,F,E,D⟩:=m x.type _ y.1 y.2 s (λv l=>aoC (ahZ l)) o;obtain⟨b,C,B,A,z⟩:=OQ m N u r ys (x.offset+P.cellsOf x.type) p (by simpa using k) (λi f q=>by have:=h (i+1) f q;simpa using this);have e:cs.drop x.offset=(cs.drop x.offset).take (P.cellsOf x.type)++cs.drop (x.offset+P.cellsOf x.type):=by
    rw[<-ao5];exact(amI _ _).symm
   refine⟨a++b,⟨y.1,ys.map (·.1),a,b,rfl,rfl,G,C⟩,?_,?_,?_⟩
   ·rw[e];exact F.append B
   ·rw[e];exact E.append A
   ·rw[e,aeZ,aeZ,D,z]
def XW{e:TypeId}{R:DataW H->lA->Prop}{cs:List Value}
  (A: ∀ (c:List Value) d ps,(∀v∈c,v∈cs)->DataW.trod enc P w 0 sp held n e c=some (d,ps)-> ∃xs,R d xs/\aG (Gh.start w) xs c/\Leaves c/\xs.length=c.length)
  {ys:List (DataW H×List MemPlace)} (k:Nat) (z:k*P.cellsOf e<=cs.length) (F:k<=ys.length) (h: ∀i,i<k->DataW.trod enc P w 0 sp held n e ((cs.drop (i*P.cellsOf e)).take (P.cellsOf e))=ys[i]?):
  ∃af:List lA,af.length=k/\ (∀ (i:Nat) (x:DataW H×List MemPlace) (b:lA),ys[i]?=some x->af[i]?=some b->R x.1 b)/\aG (Gh.start w) af.flatten (cs.take (k*P.cellsOf e))/\Leaves (cs.take (k*P.cellsOf e))/\af.flatten.length=k*P.cellsOf e:=by
 induction k with
 |zero=>exact⟨[],rfl,λi x b _ a=>by grind,by simp[aG],λv l=>by grind,by simp⟩
 |succ m y=>
  rw[aqt]at z;obtain⟨af,p,E,D,C,B⟩:=y (by omega) (by omega) (λi o=>h i (by omega));have hm:=h m (aqS m);have g:ys[m]?=some ys[m]:=adQ (by omega);rw[g]at hm;obtain⟨xs,u,t,s,r⟩:=A _ ys[m].1 ys[m].2 (λv l=>aoC (ahZ l)) hm;have f:xs.length=P.cellsOf e:=by rw[r,agw,amM];omega
  have q:cs.take ((m+1)*P.cellsOf e)=cs.take (m*P.cellsOf e)++(cs.drop (m*P.cellsOf e)).take (P.cellsOf e):=by rw[aqt,List.take_add]
  refine⟨af++[xs],by simp[p],λi x b f a=>?_,by rw[q,ana];simpa using D.append t,by rw[q];exact C.append s,by rw[ana,aeZ,B,aqt];simp[f]⟩;by_cases o:i<af.length
  ·rw[acK o]at a;exact E i x b f a
  ·have j:=(adN.1 a).1;rw[aeZ,aq9]at j;have:i=m:=by omega
   subst this;rw[ags (by omega),p,Nat.sub_self]at a;simp only[aqQ,adP]at a;rw[g]at f;cases f;cases a;exact u
theorem Ib{nest:Bool}(J:nest=true-> ∀b o v,w.cell? ⟨b,o,none⟩=some v->Ia v): ∀ (f:Nat) (t:TypeId) (n:Nat) (cs:List Value) (d:DataW H) (ps:List MemPlace),A3 P nest f t=true->(nest=true-> ∀v∈cs,Ia v)->
  DataW.trod enc P w 0 sp held n t cs=some (d,ps)-> ∃xs,ik P f t d xs/\aG (Gh.start w) xs cs/\Leaves cs/\xs.length=cs.length
 |0,_,_,_,_,_,r,_,_=>by trivial
 |f+1,t,n,cs,d,ps,r,C,h=>by
  unfold A3 at r;unfold ik;cases B:P.underlying t with
  |none=>grind
  |some td=>
   rw[B]at r;cases td with
   |bool=>
    obtain⟨b,rfl,l⟩:=DataW.trod_bool B h;cases l;exact⟨[.bool b],⟨b,rfl,rfl⟩,aG.single.2 rfl,λv g=>by simp at g;subst g;rfl,rfl⟩
   |int k=>
    obtain⟨b,rfl,l,T⟩:=DataW.trod_int B h;cases l;exact⟨[.int k b],⟨b,rfl,rfl,T⟩,aG.single.2 rfl,λv g=>by simp at g;subst g;rfl,rfl⟩
   |string=>
    obtain⟨s,rfl,l,F⟩:=DataW.trod_string B h;cases l;exact⟨[.str s],⟨s,rfl,rfl,F⟩,aG.single.2 rfl,λv g=>by simp at g;subst g;rfl,rfl⟩
   |slice e=>
    simp only[ahV]at r;obtain⟨D,r⟩:=r;rcases DataW.trod_slice B h with⟨rfl,l⟩| ⟨a,len,cap,es,rest,m,rfl,rfl,l,_,hlc,WY,W,V,_,_⟩
    ·cases l;exact⟨[.aq],.inl ⟨rfl,rfl⟩,aG.single.2 rfl,λv g=>by simp at g;subst g;rfl,rfl⟩
    ·cases l;have F:a.spot=none:=C D _ (List.mem_singleton_self _);obtain⟨af,vs,Q,O,N,M,h5,h6⟩:=XV (R:=ik P f e) F (λc I p u q=>Ib J f e m c I p r (λ_ v g=>by
      obtain⟨j,L⟩:=asR.1 g;obtain⟨o,ho⟩:=u j v L;exact J D _ _ _ ho) q) len (by omega) V
     refine⟨[.sl af false],.inr ⟨es.map (·.1),rest.map (·.1),af,rfl,rfl,by simp[W,Q],by omega,λi x b l Y=>?_⟩,aG.single.2 ?_,λv g=>by simp at g;subst g;rfl,rfl⟩
     ·rw[agA,agj]at l;obtain⟨y,S,rfl⟩:=l;exact O i y b S Y
     ·refine⟨a.block,a.off,cap,P.cellsOf e,vs,?_,by omega,(λu=>absurd u (by decide)),λel G=>?_,h6,M,bw.iff.2 N⟩
      ·rw[Q];obtain⟨b,o,s⟩:=a;simp at F;subst F;rfl
      ·obtain⟨j,L⟩:=asR.1 G;have hjl:=(adN.1 L).1;exact(O j es[j] el (adQ (by omega)) L).1
   |struct fs=>
    obtain⟨ys,m,rfl,l,K,A,z⟩:=DataW.trod_struct B h;cases l;obtain⟨xs,x1,x2,x3,x4⟩:=OQ (R:=ik P f) (cs:=cs) (λt' c I p hg u q=>Ib J f t' m c I p hg (λD v g=>C D v (u v g)) q) _ K fs.toList ys 0 r (by simpa using A) (λi fl hi=>z i fl (by simpa using hi));exact⟨xs,⟨_,rfl,x1⟩,by simpa using x2,by simpa using x3,by simpa using x4⟩
   |array k e=>
    simp only[ahV,atT]at r;obtain⟨U,u⟩:=r;obtain⟨ys,m,rfl,l,K,A,z⟩:=DataW.trod_array B h;cases l;obtain⟨af,Q,O,N,M,h5⟩:=XW (R:=ik P f e) (cs:=cs) (λc I p X q=>Ib J f e m c I p U (λD v g=>C D v (X v g)) q) k (by rw[K,u];exact ae0 _) (by omega) z;have E:k*P.cellsOf e=cs.length:=by rw[K,u]
    rw[E,agk]at N M;exact⟨af.flatten,⟨_,af,rfl,rfl,by simpa using A,Q,λi a b Z Y=>by
     rw[agA,agj]at Z;obtain⟨y,S,rfl⟩:=Z;exact O i y b S Y⟩,N,M,by rw[h5,E]⟩
   |_=>cases r
theorem XX{W j:World}(g:laidOutB P=true)(i:Below W.heap.size W j): ∀ {ts:List TypeId} {vs:List Value} {e:List (DataW H)} {ps:List MemPlace},(ts.all λt=>P.readableRec t&&decide (t<P.types.size))=true->
  DataW.TrodAll enc P W 0 (λ_=>true) true ts vs e ps->(∀x∈ps,x.block<W.heap.size)->DataW.TrodAll enc P j 0 (λb=>decide (b<W.heap.size)) true ts vs e ps
 | [],[],[],_,_,h,_=>h
 |t::ts,v::vs,d::e,ps,c,h,f=>by
  simp only[atS,ahV,alR]at c;obtain⟨p,q,l,k,rfl⟩:=h;exact⟨p,q,Below.trod g c.1.1 c.1.2 l i (λx a=>f x (List.mem_append_left _ a)),XX g i (by grind) k (λx a=>f x (List.mem_append_right _ a)),rfl⟩
 | [],[],_::_,_,_,h,_=>h.elim
 | [],_::_,_,_,_,h,_=>h.elim
 |_::_,[],_,_,_,h,_=>h.elim
 |_::_,_::_,[],_,_,h,_=>h.elim
end
def apB{P:Program}{X:Ctx}(m:fC X w.heap.size w)(q:py P X)(r: ∀f p,X.cg f=some p->gB P w.heap.size w f p){fn:Func}(j:P.funcs[f]?=some fn)(o:fn.body.isSome=true)
  (d: (fn.name== "runtime.NumGoroutine")=false) {args:lA} {a:Array Value} (l:aG (Gh.start w) args a.toList)  {E':AS} (h:D X (.fn (.func f) [] []) args ⟨[],none⟩=some (.ret v E')):
  Calls P f a w λe w'=> ∃G v',e= .returned v'/\an G v v'/\Below w.heap.size w w':=by
 have k:=OO m q r _ _ _ _ h (Gh.start w) w (.func (.func f) #[] #[]) a (.start w) ⟨_,_,_,rfl,rfl,rfl,rfl⟩ l;have b: (wi (.func (.func f) #[] #[]) a).run P w= .ok (.enter f a) w:=by
  have g: ¬fn.name= "runtime.NumGoroutine" :=by grind
  obtain⟨c,n⟩:=asE.1 o;simp[wi,Deferred.ofValue,invoke,callFunc,aq6,j,g,n]
 rw[b]at k;have i:CallsIn Fence.wide 0 P f a w (Ends P w.heap.size w (Gh.start w) {heap:=[],lo:=none} (.ret v E')):=k;refine callsIn_wide.1 (i.mono λe w' he=>?_);cases e with
 |returned v'=>
  obtain⟨u,x,t,s,_⟩:=he;exact⟨u,v',rfl,s,t.lY⟩
 |panicked _=>trivial
 |outgrown=>trivial
section
abbrev bZ:=Ex->Fr->AS->Prop
variable(X:Ctx)
def wp(f:FuncId)(rd:Bool)(pc:PC)(fr:Fr)(E:AS)(Q:bZ):Prop:=
 ∃ex a E',bm X (D X) Lw f rd pc fr E=some (ex,a,E')/\Q ex a E'
def dB(os:List aT)(fr:Fr)(E:AS)(Q:bZ):Prop:=
 ∃ex a E',fa X (D X) os fr E=some (ex,a,E')/\Q ex a E'
def gR(b:List FP)(os:List (aT×lN))(fr:Fr)(E:AS)(Q:bZ):Prop:=
 ∃ex a E',gy X (D X) b os fr E=some (ex,a,E')/\Q ex a E'
def qS(K Kp:AV->AS->Prop):Option Out->Prop
 |some (.ok v E)=>K v E
 |some (.panic v E)=>Kp v E
 |none=>False
def aU(i:I)(e:Env)(E:AS)(K Kp:AV->AS->Prop):Prop:=qS K Kp (exec X (D X) i e E)
def DW(f:FuncId)(rd:Bool)(b:PC)(Q:bZ):bZ
 |.normal,fr,E=>wp X f rd b fr E Q
 |ex,fr,E=>Q ex fr E
def yA(id:Nat)(Q:bZ):bZ
 |.exit i,fr,E=>if i=id then Q .normal fr E else Q (.exit i) fr E
 |ex,fr,E=>Q ex fr E
def Ic(K Kp:AV->AS->Prop):Option aX->Prop
 |some (.ret v E)=>K v E
 |some (.panic v E)=>Kp v E
 |none=>False
def dP(n:Nat)(lo:oN)(b:List RV)(R:aX->Prop):bZ
 |.normal,fr,E|.ret,fr,E=> ∃a v,dN E fr.marks=some a/\fL X a fr.env b=some v/\R (.ret (finish n lo v a).1 (finish n lo v a).2)
 |.panic v,fr,E=> ∃a,dN E fr.marks=some a/\R (.panic (finish n lo v a).1 (finish n lo v a).2)
 |.exit _,_,_=>False
def Ie(c:AV)(b:Bool)(A B:Prop):Prop:=
 match c with
 |.bool t=>(t=b->A)/\ (t=(!b)->B)
 |_=>False
variable{X}{f:FuncId}{rd:Bool}{fr:Fr}{E:AS}{Q:bZ}{e:Env}{ms:lN}{K Kp:AV->AS->Prop}
def aBW{a:Ex}{b:Fr}{c:AS}: (∃ex d E',(some (a,b,c):jy)=some (ex,d,E')/\Q ex d E')↔Q a b c:=
 by grind
def yB(c:AV)(b:Bool)(A B C:Prop):Prop:=
 match c with
 |.bool t=>(t=b->A)/\ (t=(!b)->B)
 |_=>C
def wp_skip:wp X f rd .skip fr E Q=Q .normal fr E:=propext (by simp only[wp,bm];grind)
def wp_exit{id:Nat}:wp X f rd (.exit id) fr E Q=Q (.exit id) fr E:=propext (by simp only[wp,bm];grind)
def wp_ret:wp X f rd .ret fr E Q=Q .ret fr E:=propext (by simp only[wp,bm];grind)
def wp_seq{a:PC}:wp X f rd (.seq a b) fr E Q=wp X f rd a fr E (DW X f rd b Q):=by
 apply propext;simp only[wp,bm];constructor
 ·rintro⟨ex,d,E',h,c⟩;split at h
  ·rename_i g i j;exact⟨_,_,_,j,ex,d,E',h,c⟩
  ·refine⟨_,_,_,h,?_⟩;cases ex with
   |normal=>grind
   |_=>exact c
 ·rintro⟨ex,d,E',h,c⟩;rw[h];cases ex with
  |normal=>exact c
  |exit _=>exact⟨_,_,_,rfl,c⟩
  |ret=>exact⟨_,_,_,rfl,c⟩
  |panic _=>exact⟨_,_,_,rfl,c⟩
def wp_block{id:Nat}:wp X f rd (.block id b) fr E Q=wp X f rd b fr E (yA id Q):=by
 apply propext;simp only[wp,bm];constructor
 ·rintro⟨ex,c,E',h,a⟩;split at h
  ·simp only[yA]
   grind
  ·refine⟨_,_,_,h,?_⟩;cases ex with
   |exit i=>grind
   |_=>exact a
 ·rintro⟨ex,c,E',h,a⟩;rw[h];cases ex with
  |normal=>exact⟨_,_,_,rfl,a⟩
  |exit i=>
   simp only[yA]at a
   grind
  |ret=>exact⟨_,_,_,rfl,a⟩
  |panic _=>exact⟨_,_,_,rfl,a⟩
def wp_cond{c:ao}{a:PC}:wp X f rd (.cond c a b) fr E Q=Ie (c.get fr.env) true (wp X f rd a fr E Q) (wp X f rd b fr E Q):=by
 apply propext;simp only[wp,bm,Ie];constructor
 ·grind
 ·intro h;cases d:c.get fr.env<;>rw[d]at h<;>simp only at h<;>try rfl
  rename_i t;cases t
  ·grind
  grind
theorem OR{os:List aT}:wp X f rd (.aQ os) fr E Q=dB X os fr E Q:=by rfl
theorem apC{os:List (aT×lN)}:wp X f rd (.uA os) fr E Q=gR X [] (ig E.heap.length os) fr (E.my (dD os)) Q:=by rfl
def wp_loop{S:Type}(I:S->Fr->AS->Prop)(μ:S->Nat)(s:S)(j:I s fr E)
  (i: ∀s fr E,I s fr E->wp X f rd b fr E (λex a E'=>match ex with|.normal=> ∃c,μ c<μ s/\I c a E'|ex=>Q ex a E')):wp X f rd (.loop b) fr E Q:=by
 have key: ∀n s fr E,μ s<n->I s fr E-> ∃ex a E',Lw (bm X (D X) Lw f rd b) fr E=some (ex,a,E')/\Q ex a E':=by
  intro n
  induction n with
  |zero=>simp
  |succ n k=>
   intro s fr E l h;obtain⟨ex,a,E',d,g⟩:=i s fr E h;rw[apv,d]
   grind
 obtain⟨ex,a,E',d,g⟩:=key _ s fr E (aqS _) j;exact⟨ex,a,E',by trivial,g⟩
def wp_mono{pc:PC}{c:bZ}(h:wp X f rd pc fr E Q)(g: ∀ex fr E,Q ex fr E->c ex fr E):wp X f rd pc fr E c:=by
 obtain⟨ex,b,E',d,a⟩:=h;exact⟨ex,b,E',d,g _ _ _ a⟩
theorem XY:DW X f rd b Q .normal fr E=wp X f rd b fr E Q:=rfl
theorem XZ:DW X f rd b Q (.exit i) fr E=Q (.exit i) fr E:=rfl
theorem X7:DW X f rd b Q .ret fr E=Q .ret fr E:=rfl
theorem X8:DW X f rd b Q (.panic v) fr E=Q (.panic v) fr E:=rfl
theorem X9{id:Nat}:yA id Q .normal fr E=Q .normal fr E:=rfl
theorem Ya{id:Nat}:yA id Q (.exit i) fr E=if i=id then Q .normal fr E else Q (.exit i) fr E:=rfl
theorem Yb{id:Nat}:yA id Q .ret fr E=Q .ret fr E:=rfl
theorem Yc{id:Nat}:yA id Q (.panic v) fr E=Q (.panic v) fr E:=rfl
theorem yE{b:List RV}{R:aX->Prop}:dP X n lo b R .ret fr E= ∃a v,dN E fr.marks=some a/\fL X a fr.env b=some v/\R (.ret (finish n lo v a).1 (finish n lo v a).2):=rfl
theorem Ig{t b:Bool}{A B:Prop}:Ie (.bool t) b A B=((t=b->A)/\ (t=(!b)->B)):=rfl
theorem Yd:Ic K Kp (some (.ret v E))=K v E:=rfl
theorem Ye:Ic K Kp (some (.panic v E))=Kp v E:=rfl
def Yf:dB X [] fr E Q=Q .normal fr E:=propext (by simp only[dB,fa];grind)
theorem Fr.Yg{d:Nat}:Fr.put ⟨e,ms⟩ (some d) v=⟨e.set d v,ms⟩:=rfl
theorem Fr.Yh:Fr.put ⟨e,ms⟩ none v=⟨e,ms⟩:=rfl
def OS{i:I}{os:List aT}:dB X (⟨none,d,i⟩::os) fr E Q=aU X i fr.env E (λv E'=>dB X os (fr.put d v) E' Q) (λv E'=>Q (.panic v) fr E'):=by
 simp only[dB,aU,fa,gd,ahJ];cases a:exec X (D X) i fr.env E with
 |none=>simp[qS]
 |some o=>
  cases o with
  |ok v E'=>rfl
  |panic v E'=>simp only[qS];grind
def Env.OT{e:Env}:e.set t (e t)=e:=by
 unfold Env.set;grind
def Yi{b:Bool}{i:I}{os:List aT}:dB X (⟨some (t,b),d,i⟩::os) ⟨e,ms⟩ E Q=
  yB (e t) b (aU X i (e.set t (.bool b)) E (λv E'=>dB X os (Fr.put ⟨e.set t (.bool b),ms⟩ d v) E' Q) (λv E'=>Q (.panic v) ⟨e.set t (.bool b),ms⟩ E'))
   (dB X os (Fr.put ⟨e.set t (.bool (!b)),ms⟩ d .undef) E Q) (dB X os (Fr.put ⟨e,ms⟩ d .undef) E Q):=by
 cases g:e t with
 |bool c=>
  have o:c=b->dB X (⟨some (t,b),d,i⟩::os) ⟨e,ms⟩ E Q=dB X (⟨none,d,i⟩::os) ⟨e,ms⟩ E Q:=by
   intro h;subst h;simp only[dB,fa,gd,g,beq_self_eq_true,ahJ]
  have n:c=(!b)->dB X (⟨some (t,b),d,i⟩::os) ⟨e,ms⟩ E Q=dB X os (Fr.put ⟨e,ms⟩ d .undef) E Q:=by
   intro h;subst h;have: ((!b)==b)=false:=by simp
   simp only[dB,fa,gd,g,this,agm,ajc]
  have l:e.set t (.bool c)=e:=by rw[<-g];exact Env.OT
  apply propext;simp only[yB];by_cases j:c=b
  ·have m: ¬c=(!b):=by subst j;cases c<;>simp
   rw[o j,OS];subst j;rw[l];exact⟨λh=>⟨λ_=>h,λk=>absurd k m⟩,λh=>h.1 rfl⟩
  ·have a:c=(!b):=by cases c<;>cases b<;>simp_all
   rw[n a,<-a,l];exact⟨λh=>⟨λk=>absurd k j,λ_=>h⟩,λh=>h.2 rfl⟩
 |_=>simp only[dB,fa,gd,g,yB,agm,ajc]
theorem OU{f:FuncId}{first cap args:lA}{H:List ae}{R:aX->Prop}(j:X.cg f=none)(l:X.code f=some pf)(n: (first++args++cap).length<=pf.ntmps)
  (h:wp X f false pf.body ⟨dj (first++args++cap),[]⟩ ⟨H,none⟩ (dP X H.length lo pf.results R)): ∃b,D X (.fn (.func f) first cap) args ⟨H,lo⟩=some b/\R b:=by
 obtain⟨ex,fr,E,m,g⟩:=h;have key: ∀b,leave X H.length lo pf (some (ex,fr,E))=some b->D X (.fn (.func f) first cap) args ⟨H,lo⟩=some b:=by
  intro b k;refine H9 ?_;simp only[step,j,l]
  grind
 cases ex with
 |normal=>obtain⟨a,v,d,i,c⟩:=g;exact⟨_,key _ (by simp only[leave,qI,d,i]),c⟩
 |ret=>obtain⟨a,v,d,i,c⟩:=g;exact⟨_,key _ (by simp only[leave,qI,d,i]),c⟩
 |panic v=>obtain⟨a,d,c⟩:=g;exact⟨_,key _ (by simp only[leave,d]),c⟩
 |exit _=>trivial
theorem Yj{f:FuncId}{first cap args:lA}{H:List ae}{a:aX}(b:X.cg f=none)(d:X.code f=some pf)(c: (first++args++cap).length<=pf.ntmps)
 (h:wp X f false pf.body ⟨dj (first++args++cap),[]⟩ ⟨H,none⟩ (dP X H.length lo pf.results (· =a))):D X (.fn (.func f) first cap) args ⟨H,lo⟩=some a:=by grind [OU]
end
section
variable{X:Ctx}{f:FuncId}{rd:Bool}{fr:Fr}{E:AS}{Q:bZ}{e:Env}{ms:lN}{K Kp:AV->AS->Prop}
def cZ{α:Type}(r:Option α)(K:α->Prop):Prop:=
 match r with
 |some a=>K a
 |none=>False
def Yk{g:ao}{as:List ao}:aU X (.call g as) e E K Kp=Ic K Kp (D X (g.get e) (as.map (·.get e)) E):=by
 simp only[aU,exec];cases D X (g.get e) (as.map (·.get e)) E with
 |none=>rfl
 |some r=>cases r<;>rfl
def jB{r:Option AV}:qS K Kp (fW E r)=cZ r (λv=>K v E):=by cases r<;>rfl
def k0(c:BinOp)(x y:AV):Option AV:=match x,y with
 |.int k a,.int _ b=>wa c k a b
 |_,_=>none
theorem aBX:aU X (.mov x) e E K Kp=(K (x.get e) E):=by
 rfl
def apD{c:ao}{a:ao}{b:ao}:aU X (.pick c a b) e E K Kp=(cZ (match c.get e with|.bool t=>some t|_=>none) λt=>K (if t then a.get e else b.get e) E):=by
 simp only[aU,exec];cases c.get e<;>rfl
theorem aBY:aU X (.alloc z tg) e E K Kp=(K (.ptr E.heap.length 0) (E.push (.box z tg))):=by
 rfl
def apE:aU X (.box x tg) e E K Kp=(((x.get e).cq=false/\K (.ptr E.heap.length 0) (E.push (.box (x.get e).cells tg)))):=by
 simp only[aU,exec];cases h: (x.get e).cq<;>simp[qS]
def apF{a:List (Nat×Nat×ao)}:aU X (.build z a) e E K Kp=(cZ (eG z (a.map λp=>(p.1,p.2.1,p.2.2.get e))) λcs=>K (.agg cs) E):=by
 simp only[aU,exec];cases eG z (a.map λp=>(p.1,p.2.1,p.2.2.get e))<;>rfl
def apG{len:Nat}{a:List (Nat×Nat×ao)}:aU X (.bslice z len a) e E K Kp=(cZ (eG (List.replicate len z).flatten (a.map λp=>(p.1,p.2.1,p.2.2.get e))) λcs=>K (.sl (chunks z.length len cs) true) E):=by
 simp only[aU,exec];cases eG (List.replicate len z).flatten (a.map λp=>(p.1,p.2.1,p.2.2.get e))<;>rfl
def apH{ty:TypeId}{len:Nat}{a:List (Nat×Nat×ao)}:aU X (.rT ty z len a) e E K Kp=(cZ (eG (List.replicate len z).flatten (a.map λp=>(p.1,p.2.1,p.2.2.get e))) λcs=>K (.ref E.heap.length 0 z.length 0 len false) (E.push (.row 0 z.length ty (chunks z.length len cs)))):=by
 simp only[aU,exec];cases eG (List.replicate len z).flatten (a.map λp=>(p.1,p.2.1,p.2.2.get e))<;>rfl
theorem apI{agg:Bool}{a:ao}:aU X (.load agg n a) e E K Kp=(cZ (cm X E agg n (a.get e)) λv=>K v E):=by
 simp only[aU,exec,jB]
theorem apJ{a:ao}{v:ao}:aU X (.store n a v) e E K Kp=(cZ (kf E n (a.get e) (v.get e)) λE'=>K .undef E'):=by
 simp only[aU,exec];cases kf E n (a.get e) (v.get e)<;>rfl
theorem apK:aU X (.nilck x) e E K Kp=(cZ (we (x.get e)) λv=>K v E):=by
 simp only[aU,exec,jB]
theorem apL{a:BinOp}:aU X (.bin a x y) e E K Kp=(cZ (dp a (x.get e) (y.get e)) λv=>K v E):=by
 simp only[aU,exec,jB]
theorem apM{a:BinOp}:aU X (.shf a x y) e E K Kp=(cZ (k0 a (x.get e) (y.get e)) λv=>K v E):=by
 simp only[aU,exec,k0];cases x.get e<;>first|rfl| (cases y.get e<;>first|rfl|exact jB)
def apN{k:EK}:aU X (.eq k x y) e E K Kp=(cZ (dA k (x.get e) (y.get e)) λb=>K (.bool b) E):=by
 simp only[aU,exec];cases dA k (x.get e) (y.get e)<;>rfl
def apO{k:EK}:aU X (.ne k x y) e E K Kp=(cZ (dA k (x.get e) (y.get e)) λb=>K (.bool !b) E):=by
 simp only[aU,exec];cases dA k (x.get e) (y.get e)<;>rfl
theorem apP{a:UnOp}:aU X (.un a x) e E K Kp=(cZ (xW a (x.get e)) λv=>K v E):=by
 simp only[aU,exec,jB]
def apQ{k:IntKind}:aU X (.conv k x) e E K Kp=(cZ (rU (x.get e)) λn=>K (.int k (k.wrap n)) E):=by
 simp only[aU,exec];cases x.get e<;>rfl
def apR:aU X (.s2b x) e E K Kp=(cZ (match x.get e with|.str s=>if s.size<=room then some s else none|_=>none) λs=>K (.sl (rV s) false) E):=by
 simp only[aU,exec];cases x.get e<;>first|rfl| (simp only[];split<;>rfl)
theorem aBZ{t:TypeId}:aU X (.mki t x) e E K Kp=(K (.di t (x.get e)) E):=by
 rfl
theorem aB0{f:Fn}{first:List ao}{cap:List ao}:aU X (.mkf f first cap) e E K Kp=(K (.fn f (first.map (·.get e)) (cap.map (·.get e))) E):=by
 rfl
theorem aB1:aU X (.nS) e E K Kp=(K (.mp E.heap.length) (E.push (.map []))):=by
 rfl
theorem apS{lo:Option ao}{a:Option ao}:aU X (.slstr x lo a) e E K Kp=(cZ (uB (x.get e) (lo.map (·.get e)) (a.map (·.get e))) λv=>K v E):=by
 simp only[aU,exec,jB]
theorem apT{lo:Option ao}{b:Option ao}{a:Option ao}:aU X (.slsl n x lo b a) e E K Kp=(cZ (gw n (x.get e) (lo.map (·.get e)) (b.map (·.get e)) (a.map (·.get e))) λv=>K v E):=by
 simp only[aU,exec,jB]
theorem apU{lo:Option ao}{a:Option ao}:aU X (.slarr n sz x lo a) e E K Kp=(cZ (qD X n sz (x.get e) (lo.map (·.get e)) (a.map (·.get e))) λv=>K v E):=by
 simp only[aU,exec,jB]
theorem apV:aU X (.faddr n x) e E K Kp=(cZ (qF X n (x.get e)) λv=>K v E):=by
 simp only[aU,exec,jB]
def apW{agg:Bool}{off:Nat}:aU X (.fld agg n off x) e E K Kp=(cZ (match x.get e with|.agg cs=>part agg n cs off|_=>none) λv=>K v E):=by
 simp only[aU,exec];cases x.get e<;>first|rfl|exact jB
theorem apX{i:ao}:aU X (.iaddra n sz x i) e E K Kp=(cZ (uC X n sz (x.get e) (i.get e)) λv=>K v E):=by
 simp only[aU,exec,jB]
theorem apY{i:ao}:aU X (.iaddrs sz x i) e E K Kp=(cZ (kg sz (x.get e) (i.get e)) λv=>K v E):=by
 simp only[aU,exec,jB]
theorem apZ{agg:Bool}{i:ao}:aU X (.idxa agg n sz x i) e E K Kp=(cZ (qG agg n sz (x.get e) (i.get e)) λv=>K v E):=by
 simp only[aU,exec,jB]
theorem ap0{i:ao}:aU X (.idxs x i) e E K Kp=(cZ (xX (x.get e) (i.get e)) λv=>K v E):=by
 simp only[aU,exec,jB]
theorem ap1{b:EK}{z:AV}{m:ao}{k:ao}{a:Bool}:aU X (.lookup b z m k a) e E K Kp=(cZ (jx X.fV E b z (m.get e) (k.get e) a) λv=>K v E):=by
 simp only[aU,exec,jB]
theorem ap2{a:EK}{m:ao}{k:ao}{v:ao}:aU X (.o8 a m k v) e E K Kp=(cZ (mw E a (m.get e) (k.get e) (v.get e)) λE'=>K .undef E'):=by
 simp only[aU,exec];cases mw E a (m.get e) (k.get e) (v.get e)<;>rfl
theorem ap3{z:AV}{t:TypeId}{a:Bool}:aU X (.ta z x t a) e E K Kp=(cZ (AA z (x.get e) t a) λv=>K v E):=by
 simp only[aU,exec,jB]
def ap4:aU X (.ext x i) e E K Kp=(cZ (match x.get e with|.ax vs=>vs[i]?|_=>none) λv=>K v E):=by
 simp only[aU,exec];cases x.get e<;>first|rfl|exact jB
theorem ap5{k:EK}:aU X (.len k x) e E K Kp=(cZ (fX E k (x.get e)) λv=>K v E):=by
 simp only[aU,exec,jB]
def ap6{ty:TypeId}{bytes:Nat}{s:ao}:aU X (.append ty sz bytes s x) e E K Kp=(cZ (elems E sz (x.get e)) λys=>cZ (dv E ty sz bytes (s.get e) ys) λp=>K p.1 p.2):=by
 simp only[aU,exec];cases elems E sz (x.get e)with
 |none=>rfl
 |some ys=>simp only[cZ];cases dv E ty sz bytes (s.get e) ys<;>rfl
theorem ap7{d:ao}{s:ao}:aU X (.copy sz d s) e E K Kp=(cZ (rW E sz (d.get e) (s.get e)) λp=>K p.1 p.2):=by
 simp only[aU,exec];cases rW E sz (d.get e) (s.get e)<;>rfl
theorem ap8:aU X (.clear z x) e E K Kp=(cZ (rX E z (x.get e)) λE'=>K .undef E'):=by
 simp only[aU,exec];cases rX E z (x.get e)<;>rfl
theorem ap9{xs:List ao}:aU X (.max xs) e E K Kp=(cZ (gx qE (xs.map (·.get e))) λv=>K v E):=by
 simp only[aU,exec,jB]
theorem aqa{xs:List ao}:aU X (.min xs) e E K Kp=(cZ (gx wc (xs.map (·.get e))) λv=>K v E):=by
 simp only[aU,exec,jB]
def aqb:aU X (.panic x) e E K Kp=(cZ (match x.get e with|.di t v=>some (AV.di t v)|_=>none) λv=>Kp v E):=by
 simp only[aU,exec];cases x.get e<;>rfl
def Ih(b:Bool)(v:AV)(e:Env)(t:Nat):AV:=match b with|true=>v|false=>e t
theorem Yl:Ih true v e t=v:=rfl
theorem Ym:Ih false v e t=e t:=rfl
def Yn{d:Nat}: (e.set d v) t=Ih (d==t) v e t:=by
 unfold Env.set Ih
 grind
theorem Ii{t b:Bool}{A B C:Prop}:yB (.bool t) b A B C=((t=b->A)/\ (t=(!b)->B)):=rfl
theorem push_mk{H:List ae}{o:ae}:AS.push ⟨H,lo⟩ o=⟨H++[o],lo⟩:=rfl
theorem set_mk{H:List ae}{id:Nat}{o:ae}:AS.set ⟨H,lo⟩ id o r=⟨H.set id o,if r<=id+1 then lo else cM lo id⟩:=rfl
end
section
variable{H L:List ae}{n k:Nat}
def dq(h:H.length=n): (H++L)[n]?=L[0]?:=by grind
def bA(h:H.length=n): (H++L)[n+k]?=L[k]?:=by grind
theorem DX{o:ae}(h:H.length=n): (H++L).set n o=H++L.set 0 o:=by grind
theorem mC{o:ae}(h:H.length=n): (H++L).set (n+k) o=H++L.set k o:=by grind
def kj(h:H.length=n): (H++L).take n=H:=by grind
end
def Ij{v':AV}{H:List ae}(a: (match ak with|none=>true|some j=>decide (n<=j))=true)(b:freeze ⟨H,ak⟩ n 12 v=some v'):finish n lo v ⟨H,ak⟩=(v',⟨H.take n,lo⟩):=by
 cases ak with
 |none=>simp[finish,b]
 |some j=>simp[finish,a,b]
def yF{E:AS}(h:v.refs<=n):freeze E n (k+1) v=some v:=by
 unfold freeze;grind
def Yo{H:List ae}(a: (match ak with|none=>true|some j=>decide (n<=j))=true)(b:v.refs<=n):finish n lo v ⟨H,ak⟩=(v,⟨H.take n,lo⟩):=
 Ij a (yF b)
def wrap_i64{n:Int}(h: -9223372036854775808<=n)(a:n<=9223372036854775807):IntKind.wrap .i64 n=n:=by
 unfold IntKind.wrap IntKind.bits IntKind.signed;grind
def wrap_u64{n:Int}(h:0<=n)(a:n<=18446744073709551615):IntKind.wrap .u64 n=n:=by
 unfold IntKind.wrap IntKind.bits IntKind.signed;grind
def wrap_u32{n:Int}(h:0<=n)(a:n<=4294967295):IntKind.wrap .u32 n=n:=by
 unfold IntKind.wrap IntKind.bits IntKind.signed;grind
def wrap_i32{n:Int}(h: -2147483648<=n)(a:n<=2147483647):IntKind.wrap .i32 n=n:=by
 unfold IntKind.wrap IntKind.bits IntKind.signed;grind
def wrap_u16{n:Int}(h:0<=n)(a:n<=65535):IntKind.wrap .u16 n=n:=by
 unfold IntKind.wrap IntKind.bits IntKind.signed;grind
def wrap_u8{n:Int}(h:0<=n)(a:n<=255):IntKind.wrap .u8 n=n:=by
 unfold IntKind.wrap IntKind.bits IntKind.signed;grind
def S(l:lB):AV:=.str ⟨l.toArray⟩
theorem aqc(l:lB): (⟨l.toArray⟩:ByteArray).size=l.length:=by rfl
def o(d:Nat)(i:I):aT:=⟨none,some d,i⟩
def u(i:I):aT:=⟨none,none,i⟩
def gt(t:Nat)(d:oN)(i:I):aT:=⟨some (t,true),d,i⟩
def gf(t:Nat)(d:oN)(i:I):aT:=⟨some (t,false),d,i⟩
def ci(n:Int):ao:=.c (.int .i64 n)
def cf(f:Nat):ao:=.c (.fn (.func f) [] [])
def k5(P:Program)(f:Nat)(pf:PF):Prop:= ∃rows fn,P.funcs[f]?=some fn/\Dj P rows fn=some pf
section
variable{X:Ctx}{f:FuncId}{rd:Bool}{fr:Fr}{E:AS}{Q:bZ}{e:Env}{ms:lN}{K Kp:AV->AS->Prop}
def aqd{i:I}{os:List aT}:dB X (gt t d i::os) ⟨e,ms⟩ E Q=
 yB (e t) true (aU X i (e.set t (.bool true)) E (λv E'=>dB X os (Fr.put ⟨e.set t (.bool true),ms⟩ d v) E' Q) (λv E'=>Q (.panic v) ⟨e.set t (.bool true),ms⟩ E'))
  (dB X os (Fr.put ⟨e.set t (.bool false),ms⟩ d .undef) E Q) (dB X os (Fr.put ⟨e,ms⟩ d .undef) E Q):=Yi
def aqe{i:I}{os:List aT}:dB X (gf t d i::os) ⟨e,ms⟩ E Q=
 yB (e t) false (aU X i (e.set t (.bool false)) E (λv E'=>dB X os (Fr.put ⟨e.set t (.bool false),ms⟩ d v) E' Q) (λv E'=>Q (.panic v) ⟨e.set t (.bool false),ms⟩ E'))
  (dB X os (Fr.put ⟨e.set t (.bool true),ms⟩ d .undef) E Q) (dB X os (Fr.put ⟨e,ms⟩ d .undef) E Q):=Yi
end
theorem Yp:ao.get e (.t i)=e i:=rfl
theorem Yq:ao.get e (.c v)=v:=rfl
theorem Yr{n:Int}:ao.get e (ci n)= .int .i64 n:=rfl
theorem Ys{f:Nat}:ao.get e (cf f)= .fn (.func f) [] []:=rfl
def OV{X:Ctx}(pf:PF){args:lA}{H:List ae}{a:aX}(b:X.cg f=none)(g:X.code f=some pf)(c:Nat.ble args.length pf.ntmps=true)
 (h: ∀n,H.length=n->wp X f false pf.body ⟨dj args,[]⟩ ⟨H,none⟩ (dP X n lo pf.results (· =a))):D X (.fn (.func f) [] []) args ⟨H,lo⟩=some a:=by grind [Nat.le_of_ble_eq_true,Yj]
def aqf{X:Ctx}(pf:PF){args:lA}{H:List ae}{R:aX->Prop}(b:X.cg f=none)(g:X.code f=some pf)(c:Nat.ble args.length pf.ntmps=true)
 (h: ∀n,H.length=n->wp X f false pf.body ⟨dj args,[]⟩ ⟨H,none⟩ (dP X n lo pf.results R)): ∃a,D X (.fn (.func f) [] []) args ⟨H,lo⟩=some a/\R a:=by simp_all[aoM,OU]
theorem Yt{X:Ctx}{E:AS}:fL X E e [.t t]=some (e t):=rfl
theorem aqg{X:Ctx}{E:AS}{u:Nat}:fL X E e [.t t,.t u]=some (.ax [e t,e u]):=rfl
theorem aqh{X:Ctx}{E:AS}{u v:Nat}:fL X E e [.t t,.t u,.t v]=some (.ax [e t,e u,e v]):=rfl
theorem yG{E:AS}:dN E []=some E:=rfl
def DY(x:AV)(i:Nat):Option AV:=match x with|.ax vs=>vs[i]?|_=>none
def Yu(agg:Bool)(n off:Nat)(x:AV):Option AV:=match x with|.agg cs=>part agg n cs off|_=>none
def od(E:AS)(x:AV)(tg:Option TypeId):Option (AV×AS):=if x.cq=false then some (.ptr E.heap.length 0,E.push (.box x.cells tg))else none
def OW(z:lA)(a:List (Nat×Nat×AV)):Option AV:=(eG z a).map .agg
def OX(z:lA)(len:Nat)(a:List (Nat×Nat×AV)):Option AV:=(eG (List.replicate len z).flatten a).map λcs=>.sl (chunks z.length len cs) true
def OY(E:AS)(ty:TypeId)(z:lA)(len:Nat)(a:List (Nat×Nat×AV)):Option (AV×AS):=
 (eG (List.replicate len z).flatten a).map λcs=>(.ref E.heap.length 0 z.length 0 len false,E.push (.row 0 z.length ty (chunks z.length len cs)))
def Yv(x:AV):Option AV:=match x with|.di t v=>some (.di t v)|_=>none
def Ik(x:AV):Option AV:=match x with|.str s=>if s.size<=room then some (.sl (rV s) false)else none|_=>none
section
variable(X:Ctx)
def kV(os:List aT)(d:Nat)(e:Env)(ms:lN)(Q:bZ):AV->AS->Prop:=λv E=>dB X os ⟨e.set d v,ms⟩ E Q
def kU(os:List aT)(e:Env)(ms:lN)(Q:bZ):AV->AS->Prop:=λ_ E=>dB X os ⟨e,ms⟩ E Q
def kP(e:Env)(ms:lN)(Q:bZ):AV->AS->Prop:=λv E=>Q (.panic v) ⟨e,ms⟩ E
def okV(r:Option AV)(K:AV->AS->Prop)(E:AS):Prop:=match r with|some v=>K v E|none=>False
def wx(r:Option AS)(K:AV->AS->Prop):Prop:=match r with|some E=>K .undef E|none=>False
def sg(r:Option (AV×AS))(K:AV->AS->Prop):Prop:=match r with|some p=>K p.1 p.2|none=>False
def okB(r:Option Bool)(a:Bool)(K:AV->AS->Prop)(E:AS):Prop:=match r with|some b=>K (.bool (if a then !b else b)) E|none=>False
def Yw(k:IntKind)(x:AV)(K:AV->AS->Prop)(E:AS):Prop:=match x with|.int _ n=>K (.int k (k.wrap n)) E|_=>False
def OZ(c a b:AV)(K:AV->AS->Prop)(E:AS):Prop:=match c with|.bool t=>K (if t then a else b) E|_=>False
def Yx(r:Option (List lA))(ty:TypeId)(sz bytes:Nat)(s:AV)(K:AV->AS->Prop)(E:AS):Prop:=match r with|some ys=>sg (dv E ty sz bytes s ys) K|none=>False
def og(f:FuncId)(rd:Bool)(a b:PC)(fr:Fr)(E:AS)(Q:bZ)(c:AV):Prop:=Ie c true (wp X f rd a fr E Q) (wp X f rd b fr E Q)
def gK(t:Nat)(b:Bool)(d:oN)(i:I)(os:List aT)(e:Env)(ms:lN)(E:AS)(Q:bZ)(c:AV):Prop:=
 yB c b (aU X i (e.set t (.bool b)) E (match d with|some d=>kV X os d (e.set t (.bool b)) ms Q|none=>kU X os (e.set t (.bool b)) ms Q) (kP (e.set t (.bool b)) ms Q))
  (dB X os (Fr.put ⟨e.set t (.bool (!b)),ms⟩ d .undef) E Q) (dB X os (Fr.put ⟨e,ms⟩ d .undef) E Q)
end
section
variable{X:Ctx}{f:FuncId}{rd:Bool}{fr:Fr}{E:AS}{Q:bZ}{e:Env}{ms:lN}{K Kp:AV->AS->Prop}{t:Nat}{d:oN}{i:I}{os:List aT}{dd:Nat}
theorem jC{r:Option AV}:cZ r (λv=>K v E)=okV r K E:=by cases r<;>rfl
theorem O0{r:Option AS}:cZ r (λE'=>K .undef E')=wx r K:=by cases r<;>rfl
theorem Yy{r:Option (AV×AS)}:cZ r (λp=>K p.1 p.2)=sg r K:=by cases r<;>rfl
def Yz:dB X (o dd i::os) ⟨e,ms⟩ E Q=aU X i e E (kV X os dd e ms Q) (kP e ms Q):=OS
def YA:dB X (u i::os) ⟨e,ms⟩ E Q=aU X i e E (kU X os e ms Q) (kP e ms Q):=OS
def O2:dB X (gt t d i::os) ⟨e,ms⟩ E Q=gK X t true d i os e ms E Q (e t):=by
 rw[aqd];cases d<;>rfl
def O3:dB X (gf t d i::os) ⟨e,ms⟩ E Q=gK X t false d i os e ms E Q (e t):=by
 rw[aqe];cases d<;>rfl
theorem YB:kV X os dd e ms Q v E=dB X os ⟨e.set dd v,ms⟩ E Q:=rfl
theorem YC:kU X os e ms Q v E=dB X os ⟨e,ms⟩ E Q:=rfl
theorem YD:kP e ms Q v E=Q (.panic v) ⟨e,ms⟩ E:=rfl
theorem YE:okV (some v) K E=K v E:=rfl
def YF{c:Prop}[Decidable c]{v:Option AV}:okV (if c then v else none) K E=(c/\okV v K E):=by split<;>simp[*,okV]
theorem YG:wx (some E) K=K .undef E:=rfl
def YH{c:Prop}[Decidable c]{v:Option AS}:wx (if c then v else none) K=(c/\wx v K):=by split<;>simp[*,wx]
theorem YI:sg (some (v,E)) K=K v E:=rfl
theorem YJ{b:Bool}:okB (some b) false K E=K (.bool b) E:=rfl
theorem YK{b:Bool}:okB (some b) true K E=K (.bool (!b)) E:=rfl
theorem YL{k:IntKind}{n:Int}:Yw k (.int k' n) K E=K (.int k (k.wrap n)) E:=rfl
theorem YM{a b:AV}:OZ (.bool true) a b K E=K a E:=rfl
theorem YN{a b:AV}:OZ (.bool false) a b K E=K b E:=rfl
theorem YO{ys:List lA}{ty:TypeId}{bytes:Nat}{s:AV}:Yx (some ys) ty sz bytes s K E=sg (dv E ty sz bytes s ys) K:=rfl
def O4{c:ao}{a:PC}:wp X f rd (.cond c a b) fr E Q=og X f rd a b fr E Q (c.get fr.env):=wp_cond
def YP{a:PC}:og X f rd a b fr E Q (.bool true)=wp X f rd a fr E Q:=by simp[og,Ig]
def YQ{a:PC}:og X f rd a b fr E Q (.bool false)=wp X f rd b fr E Q:=by simp[og,Ig]
def bO{a:PC}{p:Prop}[Decidable p]:og X f rd a b fr E Q (.bool (decide p))=((p->wp X f rd a fr E Q)/\ (¬p->wp X f rd b fr E Q)):=by simp[og,Ig]
def YR{a:PC}:og X f rd a b fr E Q (.bool (!c))=og X f rd b a fr E Q (.bool c):=by cases c<;>simp[og,Ig]
theorem YS{b:Bool}{c:lA}:gK X t b (some dd) i os e ms E Q (.ax c)=dB X os ⟨e.set dd .undef,ms⟩ E Q:=rfl
theorem YT{b:Bool}{c:lA}:gK X t b none i os e ms E Q (.ax c)=dB X os ⟨e,ms⟩ E Q:=rfl
def YU:gK X t true (some dd) i os e ms E Q (.bool true)=aU X i (e.set t (.bool true)) E (kV X os dd (e.set t (.bool true)) ms Q) (kP (e.set t (.bool true)) ms Q):=by simp[gK,Ii]
def YW:gK X t false (some dd) i os e ms E Q (.bool false)=aU X i (e.set t (.bool false)) E (kV X os dd (e.set t (.bool false)) ms Q) (kP (e.set t (.bool false)) ms Q):=by simp[gK,Ii]
def YX:gK X t true d i os e ms E Q (.bool false)=dB X os (Fr.put ⟨e.set t (.bool false),ms⟩ d .undef) E Q:=by simp[gK,Ii]
def YY:gK X t false d i os e ms E Q (.bool true)=dB X os (Fr.put ⟨e.set t (.bool true),ms⟩ d .undef) E Q:=by simp[gK,Ii]
def YZ{b:Bool}{p:Prop}[Decidable p]:gK X t b d i os e ms E Q (.bool (decide p))=((p->gK X t b d i os e ms E Q (.bool true))/\ (¬p->gK X t b d i os e ms E Q (.bool false))):=by
 by_cases h:p<;>simp[h]
theorem Y0:aU X (.mov x) e E K Kp=(K (x.get e) E):=by rfl
def Y1{c:ao}{a:ao}{b:ao}:aU X (.pick c a b) e E K Kp=(OZ (c.get e) (a.get e) (b.get e) K E):=by
 first|rfl|rfl|rfl|rfl| (rw[apD];cases c.get e<;>rfl)
theorem Y2:aU X (.alloc z tg) e E K Kp=(K (.ptr E.heap.length 0) (E.push (.box z tg))):=by rfl
def Y3{agg:Bool}{a:ao}:aU X (.load agg n a) e E K Kp=(okV (cm X E agg n (a.get e)) K E):=by grind [apI,jC]
def Y4{a:ao}{v:ao}:aU X (.store n a v) e E K Kp=(wx (kf E n (a.get e) (v.get e)) K):=by grind [apJ,O0]
def Y5:aU X (.nilck x) e E K Kp=(okV (we (x.get e)) K E):=by grind [apK,jC]
def Y6{a:BinOp}:aU X (.bin a x y) e E K Kp=(okV (dp a (x.get e) (y.get e)) K E):=by grind [apL,jC]
def Y7{a:BinOp}:aU X (.shf a x y) e E K Kp=(okV (k0 a (x.get e) (y.get e)) K E):=by grind [apM,jC]
def Y8{k:EK}:aU X (.eq k x y) e E K Kp=(okB (dA k (x.get e) (y.get e)) false K E):=by
 first|rfl|rfl|rfl|rfl| (rw[apN];cases dA k (x.get e) (y.get e)<;>rfl)
def Y9{k:EK}:aU X (.ne k x y) e E K Kp=(okB (dA k (x.get e) (y.get e)) true K E):=by
 first|rfl|rfl|rfl|rfl| (rw[apO];cases dA k (x.get e) (y.get e)<;>rfl)
def Za{a:UnOp}:aU X (.un a x) e E K Kp=(okV (xW a (x.get e)) K E):=by grind [apP,jC]
def Zb{k:IntKind}:aU X (.conv k x) e E K Kp=(Yw k (x.get e) K E):=by
 first|rfl|rfl|rfl|rfl| (rw[apQ];cases x.get e<;>rfl)
theorem Zc{t:TypeId}:aU X (.mki t x) e E K Kp=(K (.di t (x.get e)) E):=by rfl
theorem Zd{f:Fn}{first:List ao}{cap:List ao}:aU X (.mkf f first cap) e E K Kp=(K (.fn f (first.map (ao.get e)) (cap.map (ao.get e))) E):=by rfl
theorem Ze:aU X (.nS) e E K Kp=(K (.mp E.heap.length) (E.push (.map []))):=by rfl
def Zf{lo:Option ao}{a:Option ao}:aU X (.slstr x lo a) e E K Kp=(okV (uB (x.get e) (lo.map (ao.get e)) (a.map (ao.get e))) K E):=by grind [apS,jC]
def Zg{lo:Option ao}{b:Option ao}{a:Option ao}:aU X (.slsl n x lo b a) e E K Kp=(okV (gw n (x.get e) (lo.map (ao.get e)) (b.map (ao.get e)) (a.map (ao.get e))) K E):=by grind [apT,jC]
def Zh{lo:Option ao}{a:Option ao}:aU X (.slarr n sz x lo a) e E K Kp=(okV (qD X n sz (x.get e) (lo.map (ao.get e)) (a.map (ao.get e))) K E):=by grind [apU,jC]
def Zi:aU X (.faddr n x) e E K Kp=(okV (qF X n (x.get e)) K E):=by grind [apV,jC]
def Zj{i:ao}:aU X (.iaddra n sz x i) e E K Kp=(okV (uC X n sz (x.get e) (i.get e)) K E):=by grind [apX,jC]
def Zk{i:ao}:aU X (.iaddrs sz x i) e E K Kp=(okV (kg sz (x.get e) (i.get e)) K E):=by grind [apY,jC]
def Zl{agg:Bool}{i:ao}:aU X (.idxa agg n sz x i) e E K Kp=(okV (qG agg n sz (x.get e) (i.get e)) K E):=by grind [apZ,jC]
def Zm{i:ao}:aU X (.idxs x i) e E K Kp=(okV (xX (x.get e) (i.get e)) K E):=by grind [ap0,jC]
def Zn{b:EK}{z:AV}{m:ao}{k:ao}{a:Bool}:aU X (.lookup b z m k a) e E K Kp=(okV (jx X.fV E b z (m.get e) (k.get e) a) K E):=by grind [ap1,jC]
def Zo{a:EK}{m:ao}{k:ao}{v:ao}:aU X (.o8 a m k v) e E K Kp=(wx (mw E a (m.get e) (k.get e) (v.get e)) K):=by grind [ap2,O0]
def Zp{z:AV}{t:TypeId}{a:Bool}:aU X (.ta z x t a) e E K Kp=(okV (AA z (x.get e) t a) K E):=by grind [ap3,jC]
def Zq{k:EK}:aU X (.len k x) e E K Kp=(okV (fX E k (x.get e)) K E):=by grind [ap5,jC]
def Zr{ty:TypeId}{bytes:Nat}{s:ao}:aU X (.append ty sz bytes s x) e E K Kp=(Yx (elems E sz (x.get e)) ty sz bytes (s.get e) K E):=by
 first|rfl|rfl|rfl|rfl| (rw[ap6];cases elems E sz (x.get e)<;>first|rfl|exact Yy)
def Zs{d:ao}{s:ao}:aU X (.copy sz d s) e E K Kp=(sg (rW E sz (d.get e) (s.get e)) K):=by grind [ap7,Yy]
def Zt:aU X (.clear z x) e E K Kp=(wx (rX E z (x.get e)) K):=by grind [ap8,O0]
def Zu{xs:List ao}:aU X (.max xs) e E K Kp=(okV (gx qE (xs.map (ao.get e))) K E):=by grind [ap9,jC]
def Zv{xs:List ao}:aU X (.min xs) e E K Kp=(okV (gx wc (xs.map (ao.get e))) K E):=by grind [aqa,jC]
def Zw{i:Nat}:aU X (.ext x i) e E K Kp=(okV (DY (x.get e) i) K E):=by
 first|rfl| (rw[ap4];exact jC)|rfl|rfl|rfl
def Zx{agg:Bool}{off:Nat}:aU X (.fld agg n off x) e E K Kp=(okV (Yu agg n off (x.get e)) K E):=by
 first|rfl| (rw[apW];exact jC)|rfl|rfl|rfl
def Zy:aU X (.box x tg) e E K Kp=(sg (od E (x.get e) tg) K):=by
 first|rfl|rfl|rfl|rfl| (rw[apE];unfold od;cases h: (x.get e).cq<;>simp[sg])
def ZA{a:List (Nat×Nat×ao)}:aU X (.build z a) e E K Kp=(okV (OW z (a.map λp=>(p.1,p.2.1,p.2.2.get e))) K E):=by
 first|rfl|rfl|rfl|rfl| (rw[apF];unfold OW;cases eG z (a.map λp=>(p.1,p.2.1,p.2.2.get e))<;>rfl)
def ZB{len:Nat}{a:List (Nat×Nat×ao)}:aU X (.bslice z len a) e E K Kp=(okV (OX z len (a.map λp=>(p.1,p.2.1,p.2.2.get e))) K E):=by
 first|rfl|rfl|rfl|rfl| (rw[apG];unfold OX;cases eG (List.replicate len z).flatten (a.map λp=>(p.1,p.2.1,p.2.2.get e))<;>rfl)
def ZC{ty:TypeId}{len:Nat}{a:List (Nat×Nat×ao)}:aU X (.rT ty z len a) e E K Kp=(sg (OY E ty z len (a.map λp=>(p.1,p.2.1,p.2.2.get e))) K):=by
 first|rfl|rfl|rfl|rfl| (rw[apH];unfold OY;cases eG (List.replicate len z).flatten (a.map λp=>(p.1,p.2.1,p.2.2.get e))<;>rfl)
def ZD:aU X (.panic x) e E K Kp=(okV (Yv (x.get e)) Kp E):=by
 first|rfl|rfl|rfl|rfl| (rw[aqb];cases x.get e<;>rfl)
def ZE:aU X (.s2b x) e E K Kp=(okV (Ik (x.get e)) K E):=by
 first|rfl|rfl|rfl|rfl| (rw[apR];cases x.get e<;>first|rfl| (rename_i q;simp only[Ik];by_cases a:q.size<=room<;>simp only[a,ahJ,ajc]<;>rfl))
end
def R1:=gG @wp_skip<|gG @wp_exit<|gG @wp_ret<|gG @wp_seq<|gG @wp_block<|gG @O4<|gG @OR<|gG @XY<|gG @XZ<|gG @X7<|gG @X8<|gG @X9<|gG @Ya<|gG @Yb<|gG @Yc<|gG @Yf<|gG @Yz<|gG @YA<|gG @O2<|gG @O3<|gG @YB<|gG @YC<|gG @YD<|gG @Yk<|gG @Y0<|gG @Y1<|gG @Y2<|gG @Y3<|gG @Y4<|gG @Y5<|gG @Y6<|gG @Y7<|gG @Y8<|gG @Y9<|gG @Za<|gG @Zb<|gG @Zc<|gG @Zd<|gG @Ze<|gG @Zf<|gG @Zg<|gG @Zh<|gG @Zi<|gG @Zj<|gG @Zk<|gG @Zl<|gG @Zm<|gG @Zn<|gG @Zo<|gG @Zp<|gG @Zq<|gG @Zr<|gG @Zs<|gG @Zt<|gG @Zu<|gG @Zv<|gG @Zw<|gG @Zx<|gG @Zy<|gG @ZA<|gG @ZB<|gG @ZC<|gG @ZD @ZE
def R2:=gG @Yd<|gG @Ye<|gG @YE<|gG @YF<|gG @YG<|gG @YH<|gG @YI<|gG @YJ<|gG @YK<|gG @YL<|gG @YM<|gG @YN<|gG @YO<|gG @YP<|gG @YQ<|gG @YR<|gG @YS<|gG @YT<|gG @YU<|gG @YW<|gG @YX<|gG @YY<|gG @Fr.Yg<|gG @Fr.Yh<|gG @Yp<|gG @Yq<|gG @Yr<|gG @Ys<|gG @push_mk @set_mk
def R4:=gG @YZ @bO
section
variable{X:Ctx}{f:FuncId}{rd:Bool}{E:AS}{Q:bZ}{e:Env}{ms:lN}{K Kp:AV->AS->Prop}{k:IntKind}{a b c:Int}{l m:lB}{n:Nat}{lo:oN}{H L:List ae}{R:aX->Prop}
def ZF:dp .add (.int k a) (.int k b)=some (.int k (k.wrap (a+b))):=by simp[dp,mv]
def ZG:dp .sub (.int k a) (.int k b)=some (.int k (k.wrap (a-b))):=by simp[dp,mv]
def ZH:dp .mul (.int k a) (.int k b)=some (.int k (k.wrap (a*b))):=by simp[dp,mv]
def ZI:dp .quo (.int k a) (.int k b)=if b≠0 then some (.int k (k.wrap (a.tdiv b)))else none:=by
 by_cases h:b=0<;>simp[dp,mv,h]
def ZJ:dp .rem (.int k a) (.int k b)=if b≠0 then some (.int k (a.tmod b))else none:=by
 by_cases h:b=0<;>simp[dp,mv,h]
def ZK:dp .lss (.int k a) (.int k b)=some (.bool (decide (a<b))):=by simp[dp,mv]
def ZL:dp .leq (.int k a) (.int k b)=some (.bool (decide (a<=b))):=by simp[dp,mv]
def ZM:dp .gtr (.int k a) (.int k b)=some (.bool (decide (b<a))):=by simp[dp,mv]
def ZN:dp .geq (.int k a) (.int k b)=some (.bool (decide (b<=a))):=by simp[dp,mv]
def D0:dp .and (.int k a) (.int k b)=some (.int k (k.wrap (BitVec.ofInt k.bits a&&&BitVec.ofInt k.bits b).toNat)):=by simp[dp,mv,v9]
def Il:dp .or (.int k a) (.int k b)=some (.int k (k.wrap (BitVec.ofInt k.bits a|||BitVec.ofInt k.bits b).toNat)):=by simp[dp,mv,v9]
def O5:dp .xor (.int k a) (.int k b)=some (.int k (k.wrap (BitVec.ofInt k.bits a^^^BitVec.ofInt k.bits b).toNat)):=by simp[dp,mv,v9]
def O6:dp .andNot (.int k a) (.int k b)=some (.int k (k.wrap (BitVec.ofInt k.bits a&&& ~~~ (BitVec.ofInt k.bits b)).toNat)):=by simp[dp,mv,v9]
def A4:k0 .shl (.int k a) (.int k' b)=if 0<=b then some (.int k (k.wrap (a*2^(min b.toNat k.bits))))else none:=by
 by_cases h:0<=b
 ·have: ¬b<0:=by omega
  simp[k0,wa,h,this]
 ·have:b<0:=by omega
  simp[k0,wa,h,this]
def D1:k0 .shr (.int k a) (.int k' b)=if 0<=b then some (.int k (a.fdiv (2^(min b.toNat k.bits))))else none:=by
 by_cases h:0<=b
 ·have: ¬b<0:=by omega
  simp[k0,wa,h,this]
 ·have:b<0:=by omega
  simp[k0,wa,h,this]
def eq_int:dA .int (.int k a) (.int k b)=some (decide (a=b)):=by
 simp only[dA,qC,ahJ];grind
theorem ZO{x y:Bool}:dA .bool (.bool x) (.bool y)=some (x==y):=rfl
theorem ZP{x:Bool}:xW .not (.bool x)=some (.bool !x):=rfl
theorem ZQ:xW .neg (.int k a)=some (.int k (k.wrap (0-a))):=rfl
theorem ZR:fX E .str (S l)=some (.int .i64 l.length):=by rfl
def ZS:xX (S l) (.int k a)=if 0<=a/\a<l.length then some (.int .u8 (l.getD a.toNat 0).toNat)else none:=by
 simp only[xX,rU,S]
 grind
def aqi(i j:Nat): (⟨l.toArray⟩:ByteArray).extract i j=⟨((l.take j).drop i).toArray⟩:=by
 apply ByteArray.ext;simp[ByteArray.data_extract,axf]
def Im:uB (S l) (some (.int k a)) none=if 0<=a/\a<=l.length then some (S (l.drop a.toNat))else none:=by
 simp only[uB,S,gv,lS,aqc];by_cases h:0<=a/\a<=l.length
 ·simp_all[aez,aqi]
 grind
theorem ZT: (S l).cq=false:=rfl
theorem ZU: (S l).cells=[S l]:=rfl
theorem ZV: (S l).refs=0:=rfl
def ZW:dP X n lo [.t t] R .ret ⟨e,[]⟩ E=R (.ret (finish n lo (e t) E).1 (finish n lo (e t) E).2):=by
 simp[dP,dN,Yt]
def ZX{u:Nat}:dP X n lo [.t t,.t u] R .ret ⟨e,[]⟩ E=R (.ret (finish n lo (.ax [e t,e u]) E).1 (finish n lo (.ax [e t,e u]) E).2):=by
 simp[dP,dN,aqg]
def ZY{u v:Nat}:dP X n lo [.t t,.t u,.t v] R .ret ⟨e,[]⟩ E=R (.ret (finish n lo (.ax [e t,e u,e v]) E).1 (finish n lo (.ax [e t,e u,e v]) E).2):=by
 simp[dP,dN,aqh]
def ZZ:dP X n lo [] R .ret ⟨e,[]⟩ E=R (.ret (finish n lo (.ax []) E).1 (finish n lo (.ax []) E).2):=by
 simp[dP,dN,fL,ki]
def Z0:dP X n lo [] R .normal ⟨e,[]⟩ E=R (.ret (finish n lo (.ax []) E).1 (finish n lo (.ax []) E).2):=by
 simp[dP,dN,fL,ki]
def yH:finish n lo v ⟨H,none⟩=if v.refs<=n then(v,⟨H.take n,lo⟩)else match freeze ⟨H,none⟩ n 12 v with|some v'=>(v',⟨H.take n,lo⟩)|none=>(v,⟨H,gu lo none⟩):=by
 by_cases h:v.refs<=n
 ·rw[aez h,Yo rfl h]
 ·rw[aeu h];rfl
def D2:finish n lo v ⟨H,some j⟩=if n<=j then(if v.refs<=n then(v,⟨H.take n,lo⟩)else match freeze ⟨H,some j⟩ n 12 v with|some v'=>(v',⟨H.take n,lo⟩)|none=>(v,⟨H,gu lo (some j)⟩))else(v,⟨H,gu lo (some j)⟩):=by
 by_cases d:n<=j
 ·rw[aez d];by_cases h:v.refs<=n
  ·rw[aez h,Yo (by grind) h]
  ·rw[aeu h];simp only[finish,alR,aez d];rfl
 ·simp only[finish,alR,aeu d]
def Z1(h:H.length=n):H.take n=H:=by grind
theorem Z2{agg:Bool}{m id off:Nat}{lo:oN}:cm X ⟨H,lo⟩ agg m (.ptr id off)=match H[id]? with
 |some (.box cs _)=>part agg m cs off
 |_=>none:=rfl
theorem Z3{agg:Bool}{m off:Nat}{cs:lA}:cm X E agg m (.fi cs off)=part agg m cs off:=rfl
theorem Z4{m id off:Nat}{v:AV}{lo:oN}:kf ⟨H,lo⟩ m (.ptr id off) v=match H[id]? with
 |some (.box cs tg)=>if v.cq=false/\v.cells.length=m/\off+m<=cs.length then some (AS.set ⟨H,lo⟩ id (.box (aJ cs off v.cells) tg) v.refs)else none
 |_=>none:=rfl
theorem Z5{m:Nat}{cs:lA}{off:Nat}:part false m cs off=cs[off]?:=rfl
theorem Z6{m:Nat}{cs:lA}{off:Nat}:part true m cs off=if off+m<=cs.length then some (.agg ((cs.drop off).take m))else none:=rfl
theorem Z7{id off:Nat}:we (.ptr id off)=some (.ptr id off):=rfl
theorem Z8{id off:Nat}:we (.dn id aj i off)=some (.dn id aj i off):=rfl
theorem Z9{cs:lA}{off:Nat}:we (.fi cs off)=some (.fi cs off):=rfl
theorem aaa{id off m:Nat}:qF X m (.ptr id off)=some (.ptr id (off+m)):=rfl
theorem aab{id off m:Nat}:qF X m (.dn id aj i off)=some (.dn id aj i (off+m)):=rfl
theorem aac{cs:lA}{off m:Nat}:qF X m (.fi cs off)=some (.fi cs (off+m)):=rfl
theorem aad:od E (.int k a) tg=some (.ptr E.heap.length 0,E.push (.box [.int k a] tg)):=rfl
theorem aae{b:Bool}:od E (.bool b) tg=some (.ptr E.heap.length 0,E.push (.box [.bool b] tg)):=rfl
theorem aaf:od E (S l) tg=some (.ptr E.heap.length 0,E.push (.box [S l] tg)):=rfl
theorem aag{cs:lA}:od E (.agg cs) tg=some (.ptr E.heap.length 0,E.push (.box cs tg)):=rfl
def aah{cs:lA}:aJ cs 0 vs=vs++cs.drop vs.length:=by simp[aJ]
def aai{cs:lA}{c:AV}{off:Nat}:aJ (c::cs) (off+1) vs=c::aJ cs off vs:=by
 simp[aJ,Nat.add_right_comm]
theorem aaj{k:IntKind}{n:Int}:AV.cq (.int k n)=false:=rfl
theorem aak{k:IntKind}{n:Int}:AV.cells (.int k n)=[.int k n]:=rfl
theorem aal{b:Bool}:AV.cq (.bool b)=false:=rfl
theorem aam{b:Bool}:AV.cells (.bool b)=[.bool b]:=rfl
theorem aan{o:Nat}:AV.cq (.ptr i o)=false:=rfl
theorem aao{o:Nat}:AV.cells (.ptr i o)=[.ptr i o]:=rfl
theorem aap{v o:Nat}:AV.cq (.dn i v j o)=false:=rfl
theorem aaq{v o:Nat}:AV.cells (.dn i v j o)=[.dn i v j o]:=rfl
theorem aar{cs:lA}{o:Nat}:AV.cq (.fi cs o)=false:=rfl
theorem aas{cs:lA}{o:Nat}:AV.cells (.fi cs o)=[.fi cs o]:=rfl
theorem aat:AV.cq (.dy)=false:=rfl
theorem aau:AV.cells (.dy)=[.dy]:=rfl
theorem aav:AV.cq (.aq)=false:=rfl
theorem aaw:AV.cells (.aq)=[.aq]:=rfl
theorem aax{c:Bool}:AV.cq (.sl af c)=false:=rfl
theorem aay{c:Bool}:AV.cells (.sl af c)=[.sl af c]:=rfl
theorem aaz{v z o l:Nat}{c:Bool}:AV.cq (.ref i v z o l c)=false:=rfl
theorem aaA{v z o l:Nat}{c:Bool}:AV.cells (.ref i v z o l c)=[.ref i v z o l c]:=rfl
theorem aaB{z o l:Nat}:AV.cq (.fw i z o l)=false:=rfl
theorem aaC{z o l:Nat}:AV.cells (.fw i z o l)=[.fw i z o l]:=rfl
theorem aaD:AV.cq (.mr)=false:=rfl
theorem aaE:AV.cells (.mr)=[.mr]:=rfl
theorem aaF:AV.cq (.mp i)=false:=rfl
theorem aaG:AV.cells (.mp i)=[.mp i]:=rfl
theorem aaH{f:Fn}{a b:lA}:AV.cq (.fn f a b)=false:=rfl
theorem aaI{f:Fn}{a b:lA}:AV.cells (.fn f a b)=[.fn f a b]:=rfl
theorem aaJ:AV.cq (.du)=false:=rfl
theorem aaK:AV.cells (.du)=[.du]:=rfl
theorem aaL{t:TypeId}:AV.cq (.di t v)=false:=rfl
theorem aaM{t:TypeId}:AV.cells (.di t v)=[.di t v]:=rfl
theorem aaN:AV.cq (.eV)=false:=rfl
theorem aaO:AV.cells (.eV)=[.eV]:=rfl
theorem aaP{g:Nat}:AV.cq (.dL g)=false:=rfl
theorem aaQ{g:Nat}:AV.cells (.dL g)=[.dL g]:=rfl
theorem aaR{cs:lA}:AV.cq (.agg cs)=false:=rfl
theorem aaS{cs:lA}:AV.cells (.agg cs)=cs:=rfl
theorem aaT{k:IntKind}{n:Int}:AV.refs (.int k n)=0:=by rfl
theorem aaU{b:Bool}:AV.refs (.bool b)=0:=by rfl
theorem aaV{o:Nat}:AV.refs (.ptr i o)=i+1:=by rfl
theorem aaW:AV.refs (.aq)=0:=by rfl
theorem aaX{v z o l:Nat}{c:Bool}:AV.refs (.ref i v z o l c)=i+1:=by rfl
theorem aaY:AV.refs (.mp i)=i+1:=by rfl
theorem aaZ{f:Nat}{a b:lA}:AV.refs (.fn (.func f) a b)=max (aI a) (aI b):=by rfl
theorem aa0{t:TypeId}:AV.refs (.di t v)=v.refs:=by rfl
theorem aa1{cs:lA}:AV.refs (.agg cs)=aI cs:=by rfl
theorem aa2{cs:lA}:AV.refs (.ax cs)=aI cs:=by rfl
theorem aa3{c:Bool}:AV.refs (.sl af c)=cb af:=by rfl
theorem aa4:aI []=0:=by rfl
theorem aa5{a:AV}{as:lA}:aI (a::as)=max a.refs (aI as):=by rfl
theorem aa6{a:AV}{as:lA}:dj (a::as) 0=a:=rfl
theorem aa7{a:AV}{as:lA}{n:Nat}:dj (a::as) (n+1)=dj as n:=rfl
theorem aa8{n:Nat}:dj [] n= .undef:=rfl
theorem aa9: (!true)=false:=rfl
theorem aba: (!false)=true:=rfl
end
structure Rd(E:AS)(v:AV)(sz:Nat)(af:List lA):Prop where
 kind:match v with|.aq|.sl .. |.ref .. =>True|_=>False
 eq:elems E sz v=some af
 aB2: ∀el∈af,el.length=sz
def ef(v:AV)(j off:Nat):AV:=
 match v with
 |.sl af _=>.fi (af.getD j []) off
 |.ref id aj _ o _ _=>.dn id aj (o+j) off
 |_=>.qB
section
variable{X:Ctx}{E:AS}{v:AV}{sz:Nat}{af:List lA}{k:IntKind}{a:Int}
def Rd.len(h:Rd E v sz af):fX E .sl v=some (.int .i64 af.length):=by
 obtain⟨i,d,j⟩:=h;cases v<;>simp only[]at i
 ·cases d;rfl
 ·simp only[elems]at d;split at d<;>cases d;rfl
 ·simp only[elems]at d;split at d
  ·split at d
   ·simp only[fX];grind
   grind
  grind
def Rd.addr(h:Rd E v sz af):kg sz v (.int k a)=if 0<=a/\a<af.length then some (ef v a.toNat 0)else none:=by
 obtain⟨o,d,p⟩:=h;cases v<;>simp only[]at o
 ·cases d;have: ¬(0<=a/\a< (([]:List lA).length:Int)):=by simp
  rw[aeu this];rfl
 ·simp only[elems]at d;simp only[kg,rU,ef]
  grind
 ·rename_i id aj z off len cK;simp only[elems]at d;split at d
  ·split at d
   ·rename_i j;cases d;simp only[kg,rU,ef];have e: ((List.take len (List.drop off (by assumption))).length:Nat)=len:=by rw[agw,amM];omega
    rw[e];by_cases i:0<=a/\a<len
    ·rw[aez ⟨i.1,i.2,j.2.2.1⟩,aez i]
    ·rw[aeu (λh=>i ⟨h.1,h.2.1⟩),aeu i]
   grind
  grind
def Rd.load(h:Rd E v sz af){off:Nat}{agg:Bool}(r:j<af.length):cm X E agg n (ef v j off)=part agg n (af.getD j []) off:=by
 obtain⟨q,d,s⟩:=h;cases v<;>simp only[]at q
 ·simp only[elems]at d;grind
 ·simp only[elems]at d;split at d<;>cases d;rfl
 ·simp only[elems]at d;split at d
  ·rename_i v' o ty i p;split at d
   ·simp only[ef,cm,p]
    grind
   grind
  grind
def Rd.faddr(h:Rd E v sz af){off:Nat}(o:j<af.length):qF X n (ef v j off)=some (ef v j (off+n)):=by
 obtain⟨i,d,p⟩:=h;cases v<;>simp only[]at i
 ·simp only[elems]at d;grind
 ·rfl
 ·rfl
theorem Rd.sl{af:List lA}(h: ∀el∈af,el.length=sz):Rd E (.sl af c) sz af:=
 ⟨trivial,by simp only[elems];grind,h⟩
theorem Rd.aq:Rd E .aq sz []:=⟨trivial,rfl,by simp⟩
def Rd.ext{H L:List ae}(h:Rd ⟨H,lo⟩ v sz af):Rd ⟨H++L,ak⟩ v sz af:=by
 obtain⟨i,d,j⟩:=h;refine⟨i,?_,j⟩;cases v<;>simp only[]at i
 ·exact d
 ·exact d
 ·simp only[elems]at d⊢
  grind
end
def O7{f:AV->AV->Option AV}{x:AV}:gx f [x]=some x:=by rw[gx]
def abb{f:AV->AV->Option AV}{x y z:AV}{r:lA}(h:f x y=some z):gx f (x::y::r)=gx f (z::r):=by rw[gx,h]
def O8{k:IntKind}{a b:Int}{r:lA}:gx qE (.int k a:: .int k' b::r)=gx qE (.int k (max a b)::r):=by
 refine abb ?_;simp only[qE];grind
def abc{k:IntKind}{a b:Int}{r:lA}:gx wc (.int k a:: .int k' b::r)=gx wc (.int k (min a b)::r):=by
 refine abb ?_;simp only[wc];grind
def Rd.mono{H H':List ae}(h:Rd ⟨H,lo⟩ v sz af)(d:H<+:H'):Rd ⟨H',ak⟩ v sz af:=by
 obtain⟨L,rfl⟩:=d;exact h.ext
def Rv(v:AV)(sz:Nat)(af:List lA):Prop:= ∀E,Rd E v sz af
def Rv.len(h:Rv v sz af){E:AS}:fX E .sl v=some (.int .i64 af.length):=(h E).len
def Rv.addr(h:Rv v sz af){k:IntKind}{a:Int}:kg sz v (.int k a)=if 0<=a/\a<af.length then some (ef v a.toNat 0)else none:=(h ⟨[],none⟩).addr
theorem Rv.load{X:Ctx}(h:Rv v sz af){E:AS}{off:Nat}{agg:Bool}(d:j<af.length):cm X E agg n (ef v j off)=part agg n (af.getD j []) off:=(h E).load d
theorem Rv.faddr{X:Ctx}(h:Rv v sz af){off:Nat}(d:j<af.length):qF X n (ef v j off)=some (ef v j (off+n)):=(h ⟨[],none⟩).faddr d
theorem Rv.sl(h: ∀el∈af,el.length=sz):Rv (.sl af c) sz af:=λ_=>.sl h
theorem Rv.aq:Rv .aq sz []:=λ_=>.aq
def dk{v':AV}{H H':List ae}(h:v=v')(d:H=H'):aX.ret v ⟨H,lo⟩=aX.ret v' ⟨H',lo⟩:=by grind
theorem abd: ((k+m:Nat):Int)=(k:Int)+(m:Int):=by rfl
theorem cast_zero: ((0:Nat):Int)=0:=rfl
def abe{α:Type}[Inhabited α]{g:α->lA}{l:List α}(h:j<l.length): (l.map g).getD j []=g (l.getD j default):=by grind
section
variable{α:Type}{g:α->lA}{l:List α}{v:AV}{sz:Nat}
def Rv.bJ(h:Rv v sz (l.map g)){E:AS}:fX E .sl v=some (.int .i64 l.length):=by rw[h.len,ae3]
def Rv.bW(h:Rv v sz (l.map g)){k:IntKind}{a:Int}:kg sz v (.int k a)=if 0<=a/\a<l.length then some (ef v a.toNat 0)else none:=by rw[h.addr,ae3]
def Rv.cp[Inhabited α]{X:Ctx}(h:Rv v sz (l.map g)){E:AS}{off:Nat}{agg:Bool}(d:j<l.length):cm X E agg n (ef v j off)=part agg n (g (l.getD j default)) off:=by
 rw[h.load (by grind),abe d]
def Rv.Io{X:Ctx}(h:Rv v sz (l.map g)){off:Nat}(d:j<l.length):qF X n (ef v j off)=some (ef v j (off+n)):=h.faddr (by grind)
def Rd.bJ{E:AS}(h:Rd E v sz (l.map g)):fX E .sl v=some (.int .i64 l.length):=by rw[h.len,ae3]
def Rd.bW{E:AS}(h:Rd E v sz (l.map g)){k:IntKind}{a:Int}:kg sz v (.int k a)=if 0<=a/\a<l.length then some (ef v a.toNat 0)else none:=by rw[h.addr,ae3]
def Rd.cp[Inhabited α]{X:Ctx}{E:AS}(h:Rd E v sz (l.map g)){off:Nat}{agg:Bool}(d:j<l.length):cm X E agg n (ef v j off)=part agg n (g (l.getD j default)) off:=by
 rw[h.load (by grind),abe d]
end
def V1:=gG @ZF<|gG @ZG<|gG @ZH<|gG @ZI<|gG @ZJ<|gG @ZK<|gG @ZL<|gG @ZM<|gG @ZN<|gG @D0<|gG @Il<|gG @O5<|gG @O6<|gG @A4<|gG @D1<|gG @eq_int<|gG @ZO<|gG @ZP<|gG @ZQ<|gG @ZR<|gG @ZS<|gG @Im<|gG @ZT<|gG @ZU<|gG @ZV<|gG @ZW<|gG @ZX<|gG @ZY<|gG @ZZ<|gG @Z0<|gG @Z2<|gG @Z3<|gG @Z4<|gG @Z5<|gG @Z6<|gG @Z7<|gG @Z8<|gG @Z9<|gG @aaa<|gG @aab<|gG @aac<|gG @aad<|gG @aae<|gG @aaf<|gG @aag<|gG @aah<|gG @aai<|gG @Yn<|gG @Yl @Ym
def V3:type_of% @aa6/\type_of% @cast_zero/\type_of% @abd/\type_of% @Int.toNat_natCast/\type_of% @Int.natCast_nonneg/\type_of% @O7/\type_of% @O8/\type_of% @abc/\type_of% @aa7/\type_of% @aa8/\type_of% @aa9/\type_of% @aba/\type_of% @Option.map_some.{0,0}/\type_of% @Option.map_none.{0,0}/\type_of% @List.map_cons.{0,0}/\type_of% @List.map_nil.{0,0}/\type_of% @not_false_eq_true/\type_of% @true_and/\type_of% @and_true/\type_of% @Nat.zero_le/\type_of% @List.length_cons.{0}/\type_of% @List.length_nil.{0}/\type_of% @List.length_append.{0}/\type_of% @List.length_map.{0,0}/\type_of% @if_true.{1}/\type_of% @if_false.{1}/\type_of% @if_true.{0}/\type_of% @if_false.{0}/\type_of% @ne_eq.{1}/\type_of% @List.cons_append.{0}/\type_of% @List.nil_append.{0}/\type_of% @List.append_nil.{0}/\type_of% @Nat.zero_add/\type_of% @List.length_set.{0}/\type_of% @List.append_assoc.{0}/\type_of% @List.getElem?_cons_zero.{0}/\type_of% @List.getElem?_cons_succ.{0}/\type_of% @List.set_cons_zero.{0}/\type_of% @List.set_cons_succ.{0}/\type_of% @List.drop_succ_cons.{0}/\type_of% @List.drop_zero.{0}/\type_of% @List.take_succ_cons.{0}/\type_of% @List.take_zero.{0}/\type_of% @Nat.max_self/\type_of% @Nat.zero_max/\type_of% @Nat.max_zero:=
 ⟨@aa6,@cast_zero,@abd,@aAH,@Int.natCast_nonneg,@O7,@O8,@abc,@aa7,@aa8,@aa9,@aba,@agl.{0,0},@Option.map_none.{0,0},@amF.{0,0},@avF.{0,0},@not_false_eq_true,@azs,@alS,@ae4,@agt.{0},@am9.{0},@aeZ.{0},@ae3.{0,0},@ahJ.{1},@ajc.{1},@ahJ.{0},@ajc.{0},@ne_eq.{1},@ahY.{0},@ah1.{0},@agB.{0},@alV,@agq.{0},@aev.{0},@aqQ.{0},@axQ.{0},@List.set_cons_zero.{0},@List.set_cons_succ.{0},@apA.{0},@amR.{0},@aqG.{0},@List.take_zero.{0},@Nat.max_self,@Nat.zero_max,@Nat.max_zero⟩
def F1:=gG @yH @D2
def V2:=gG @aaj<|gG @aal<|gG @aan<|gG @aap<|gG @aar<|gG @aat<|gG @aav<|gG @aax<|gG @aaz<|gG @aaB<|gG @aaD<|gG @aaF<|gG @aaH<|gG @aaJ<|gG @aaL<|gG @aaN<|gG @aaP<|gG @aaR<|gG @aak<|gG @aam<|gG @aao<|gG @aaq<|gG @aas<|gG @aau<|gG @aaw<|gG @aay<|gG @aaA<|gG @aaC<|gG @aaE<|gG @aaG<|gG @aaI<|gG @aaK<|gG @aaM<|gG @aaO<|gG @aaQ<|gG @aaS<|gG @aaT<|gG @aaU<|gG @aaV<|gG @aaW<|gG @aaX<|gG @aaY<|gG @aaZ<|gG @aa0<|gG @aa1<|gG @aa2<|gG @aa3<|gG @aa4 @aa5
def gS:List aT->lN
 | []=>[]
 |o::os=>match o.dst with
  |some d=>d::gS os
  |none=>gS os
def Fr.DE{fr:Fr}(h:d≠some t): (fr.put d v).env t=fr.env t:=by
 cases d with
 |none=>rfl
 |some d=>
  simp only[Fr.put,Env.set]
  grind
section
variable{X:Ctx}{C:bE}{L:eH}
theorem O9: ∀ (os:List aT) (fr a:Fr) (E E':AS) (ex:Ex),fa X C os fr E=some (ex,a,E')-> ∀t,t∉gS os->a.env t=fr.env t
 | [],fr,a,E,E',ex,h,t,j=>by simp only[fa,adP,aqs]at h;grind
 |o::os,fr,a,E,E',ex,h,t,j=>by
  have k:o.dst≠some t:=by
   intro e;apply j;simp[gS,e]
  have g:t∉gS os:=by
   intro e;apply j;simp only[gS];grind
  simp only[fa]at h;split at h
  ·split at h
   ·rw[O9 os _ _ _ _ _ h t g,Fr.DE k]
   ·grind
   grind
  ·rw[O9 os _ _ _ _ _ h t g,Fr.DE k]
end
def sh:lN->Nat->Bool
 | [],_=>false
 |a::as,t=>a==t||sh as t
theorem abf{t:Nat}: ∀ {W:lN},sh W t=true↔t∈W
 | []=>by simp[sh]
 |a::as=>by
  simp only[sh,aoS,atT,agF];rw[abf]
  grind
def abg(b:Bool)(a e:Env)(t:Nat):AV:=match b with|true=>a t|false=>e t
theorem abh{a:Env}:abg true a e t=a t:=rfl
theorem abi{a:Env}:abg false a e t=e t:=rfl
section
variable{X:Ctx}{f:FuncId}{rd:Bool}{E oc:AS}{Q:bZ}{e:Env}{ms:lN}{t:Nat}{b c:Bool}{d:oN}{i:I}{os:List aT}
def Pa(r:Nat)(v:AV)(ms:lN)(oc:AS)(Q:bZ):bZ
 |.normal,fr,E'=>fr.env r=v/\fr.marks=ms/\E'=oc
 |ex,fr,E'=>Q ex fr E'
theorem abj{ms a:lN}:Pa r v ms oc Q .normal ⟨e,a⟩ E=(e r=v/\a=ms/\E=oc):=rfl
end
def wy(e:Env):lN->Env->Env
 | [],a=>a
 |t::ts,a=>(wy e ts a).set t (e t)
theorem abk{W:lN}{e g:Env}(h: ∀t,t∉W->g t=e t): ∀a:lN,a.all (λk=>!sh W k)=true->wy e a g=g
 | [],_=>rfl
 |k::a,j=>by
  simp only[atS,ahV]at j;have l:k∉W:=by
   intro hm;have:=abf.2 hm
   grind
  simp only[wy];rw[abk h a j.2,<-h k l,Env.OT]
section
variable{X:Ctx}{f:FuncId}{rd:Bool}{E:AS}{Q:bZ}{e:Env}{ms:lN}{t:Nat}{b c:Bool}{d:oN}{i:I}{os:List aT}
def aqj(oc:AS)(r:Nat)(v:AV)(g:lN)(l:g.all (λk=>!sh (gS os) k)=true)(u:dB X os ⟨e,ms⟩ E (Pa r v ms oc Q))(q: ∀w,Q .normal ⟨(wy e g w).set r v,ms⟩ oc):dB X os ⟨e,ms⟩ E Q:=by
 obtain⟨ex,a,E',h,j⟩:=u;have m:=O9 os _ _ _ _ _ h;refine⟨ex,a,E',h,?_⟩;cases ex with
 |normal=>
  obtain⟨p,o,n⟩:=j;have:=q a.env;rw[abk m g l,<-p,Env.OT,<-o,<-n]at this;omega
 |_=>exact j
def wz(r:Nat)(v:AV)(a:lN){g:AV}(l:e t=g)(j:a.all (λk=>!sh (gS (⟨none,d,i⟩::os)) k)=true)(h:gK X t b d i os e ms E (Pa r v ms E Q) g)(m: ∀n,Q .normal ⟨(wy e a n).set r v,ms⟩ E):gK X t b d i os e ms E Q g:=by
 subst l;have key: ∀Q,gK X t b d i os e ms E Q (e t)=dB X (⟨some (t,b),d,i⟩::os) ⟨e,ms⟩ E Q:=by
  intro Q;cases b
  ·exact O3.symm
  ·exact O2.symm
 rw[key]at h⊢;exact aqj E r v a j h m
def aqk(r:Nat)(v:AV)(ms:lN)(P:AS->Prop)(Q:bZ):bZ
 |.normal,fr,E'=>fr.env r=v/\fr.marks=ms/\P E'
 |ex,fr,E'=>Q ex fr E'
theorem abl{ms a:lN}{P:AS->Prop}:aqk r v ms P Q .normal ⟨e,a⟩ E=(e r=v/\a=ms/\P E):=rfl
def Pb(P:Env->List ae->oN->Prop)(Q:bZ):bZ
 |.normal,fr,E'=>fr.marks=[]/\P fr.env E'.heap E'.lo
 |ex,fr,E'=>Q ex fr E'
def Ip{P:Env->List ae->oN->Prop}{H:List ae}:Pb P Q .normal ⟨e,[]⟩ ⟨H,lo⟩=P e H lo:=by simp[Pb]
def abm{p q:PC}{a:AV}(P:Env->List ae->oN->Prop)(g:og X f rd p q ⟨e,[]⟩ E (Pb P Q) a)(l: ∀e H lo,P e H lo->Q .normal ⟨e,[]⟩ ⟨H,lo⟩):og X f rd p q ⟨e,[]⟩ E Q a:=by
 have key: ∀Q,og X f rd p q ⟨e,[]⟩ E Q a=wp X f rd (.cond (.c a) p q) ⟨e,[]⟩ E Q:=λQ=>by rw[O4];rfl
 rw[key]at g⊢;refine wp_mono g ?_;rintro ex ⟨m,ms⟩ ⟨H,lo⟩ h;cases ex with
 |normal=>obtain⟨k,j⟩:=h;grind
 |_=>exact h
end
def mD(n:Nat)(a:AV):FP:=match a with
 |.ptr id off=>.rd id off (Nat.max n 1)
 |.dn .. =>.rr
 |.fi .. =>.no
 |.dL _=>.no
 |_=>.all
def Iq(n:Nat)(a:AV):FP:=match a with
 |.ptr id off=>.wr id off n
 |.dn .. =>.app
 |_=>.all
noncomputable def A5(E E':AS):FP:=open Classical in if E'=E then .q else if E'.heap.take E.heap.length=E.heap then .new E.heap.length else .all
section
variable{e:Env}{E E':AS}
theorem abn:aZ (.mov x) e E E'= .no:=rfl
theorem abo{c:ao}{a:ao}{b:ao}:aZ (.pick c a b) e E E'= .no:=rfl
theorem abp{a:List (Nat×Nat×ao)}:aZ (.build z a) e E E'= .no:=rfl
theorem abq{a:List (Nat×Nat×ao)}:aZ (.bslice z n a) e E E'= .no:=rfl
theorem abr:aZ (.nilck x) e E E'= .no:=rfl
theorem abt{a:BinOp}:aZ (.bin a x y) e E E'= .no:=rfl
theorem abu{a:BinOp}:aZ (.shf a x y) e E E'= .no:=rfl
theorem abv{k:EK}:aZ (.eq k x y) e E E'= .no:=rfl
theorem abw{k:EK}:aZ (.ne k x y) e E E'= .no:=rfl
theorem abx{a:UnOp}:aZ (.un a x) e E E'= .no:=rfl
theorem aby{a:IntKind}:aZ (.conv a x) e E E'= .no:=rfl
theorem abz:aZ (.s2b x) e E E'= .no:=rfl
theorem abA{ty:TypeId}:aZ (.mki ty x) e E E'= .no:=rfl
theorem abB{fn:Fn}{g:List ao}{a:List ao}:aZ (.mkf fn g a) e E E'= .no:=rfl
theorem abC{lo:Option ao}{a:Option ao}:aZ (.slstr x lo a) e E E'= .no:=rfl
theorem abD{lo:Option ao}{g:Option ao}{a:Option ao}:aZ (.slsl n x lo g a) e E E'= .no:=rfl
theorem abE{lo:Option ao}{a:Option ao}:aZ (.slarr n m x lo a) e E E'= .no:=rfl
theorem abF:aZ (.faddr n x) e E E'= .no:=rfl
theorem abG:aZ (.fld ag n m x) e E E'= .no:=rfl
theorem abH:aZ (.iaddra n m x y) e E E'= .no:=rfl
theorem abI:aZ (.iaddrs n x y) e E E'= .no:=rfl
theorem abJ:aZ (.idxa ag n m x y) e E E'= .no:=rfl
theorem abK:aZ (.idxs x y) e E E'= .no:=rfl
theorem abL{a:AV}{ty:TypeId}{g:Bool}:aZ (.ta a x ty g) e E E'= .no:=rfl
theorem abM:aZ (.ext x n) e E E'= .no:=rfl
theorem abN{a:List ao}:aZ (.max a) e E E'= .no:=rfl
theorem abO{a:List ao}:aZ (.min a) e E E'= .no:=rfl
theorem abP{k:EK}{a:AV}{g:Bool}:aZ (.lookup k a x y g) e E E'= .q:=rfl
theorem abQ:aZ (.len .sl x) e E E'= .no/\aZ (.len .str x) e E E'= .no/\aZ (.len .map x) e E E'= .q:=⟨rfl,rfl,rfl⟩
theorem abR{ty:TypeId}:aZ (.append ty n m x y) e E E'= .app:=rfl
theorem abS:aZ (.alloc z tg) e E E'= .all:=rfl
theorem abT:aZ (.box x tg) e E E'= .all:=rfl
theorem abU{ty:TypeId}{a:List (Nat×Nat×ao)}:aZ (.rT ty z n a) e E E'= .all:=rfl
theorem abV:aZ (.nS) e E E'= .all:=rfl
theorem abW{k:EK}{c:ao}:aZ (.o8 k x y c) e E E'= .all:=rfl
theorem abX:aZ (.copy n x y) e E E'= .all:=rfl
theorem abY:aZ (.clear z x) e E E'= .all:=rfl
theorem abZ:aZ (.panic x) e E E'= .all:=rfl
theorem ab0:aZ (.load ag n x) e E E'=mD n (x.get e):=by rfl
theorem ab1:aZ (.store n x y) e E E'=Iq n (x.get e):=by rfl
theorem ab2{a:List ao}:aZ (.call x a) e E E'=A5 E E':=rfl
def ab3:A5 E E= .q:=by simp[A5]
def aql{b c:Nat}(h:E'.heap.take E.heap.length=E.heap)(g:a<E.heap.length):FP.ok (.rd a b c) (A5 E E')=true/\FP.ok (A5 E E') (.rd a b c)=true:=by
 unfold A5;split
 ·trivial
 ·exact⟨aeD g,aeD g⟩
theorem ab4{id off:Nat}:mD n (.ptr id off)= .rd id off (Nat.max n 1)/\mD n (.dn id aj i off)= .rr:=⟨rfl,rfl⟩
theorem ab5{off:Nat}{cs:lA}:mD n (.fi cs off)= .no:=rfl
theorem ab6{g:Nat}:mD n (.dL g)= .no:=rfl
theorem ab7{id off:Nat}:Iq n (.ptr id off)= .wr id off n/\Iq n (.dn id aj i off)= .app:=⟨rfl,rfl⟩
theorem Rv.mD(h:Rv v sz af){off:Nat}(k:j<af.length):Den.mD n (ef v j off)= .no:=by
 obtain⟨g,a,l⟩:=h ⟨[],none⟩;cases v<;>simp only[]at g
 ·simp only[Den.elems]at a;grind
 ·rfl
 ·trivial
def Rv.aqm{α:Type}{g:α->lA}{l:List α}(h:Rv v sz (l.map g)){off:Nat}(a:j<l.length):Den.mD n (ef v j off)= .no:=h.mD (by grind)
theorem Ir{x:FP}:FP.ok .no x=true:=by rfl
def Is{x:FP}:FP.ok x .no=true:=by cases x<;>rfl
theorem It{b c h g:Nat}:FP.ok (.rd a b c) (.rd a' h g)=true:=rfl
theorem Iu{b c:Nat}:FP.ok (.rd a b c) .q=true:=rfl
theorem Iv{b c:Nat}:FP.ok .q (.rd a b c)=true:=rfl
theorem Iw:FP.ok .q .q=true:=rfl
theorem ab8{b c:Nat}:FP.ok .rr (.rd a b c)=true/\FP.ok (.rd a b c) .rr=true/\FP.ok .rr (.wr a b c)=true/\FP.ok (.wr a b c) .rr=true:=⟨rfl,rfl,rfl,rfl⟩
def ab9:FP.ok .rr .q=true/\FP.ok .q .rr=true/\FP.ok .rr .rr=true:=by decide
theorem Ix{b c:Nat}:FP.ok (.rd a b c) .app=true:=rfl
theorem Iy{b c:Nat}:FP.ok .app (.rd a b c)=true:=rfl
theorem Iz{b c g h:Nat}:FP.ok (.rd a b c) (.wr a' g h)=(a !=a'||b+c<=g||g+h<=b):=rfl
theorem IA{b c g h:Nat}:FP.ok (.wr a b c) (.rd a' g h)=(a !=a'||b+c<=g||g+h<=b):=rfl
end
def qT(bL:List FP)(x:FP):lN->Bool
 | []=>true
 |j::js=>(bL.getD j .all).ok x&&qT bL x js
theorem Pc{bL:List FP}{x:FP}: ∀js:lN,js.all (λj=>(bL.getD j .all).ok x)=qT bL x js
 | []=>rfl
 |j::js=>by simp only[atS,qT,Pc js]
def kD(X:Ctx)(i:I)(cu:AS)(bL:List FP)(js:lN)(os:List (aT×lN))(d:oN)(e:Env)(ms:lN)(Q:bZ):AV->AS->Prop:=λv E=>
 qT bL (aZ i e cu E) js=true/\gR X (bL++[aZ i e cu E]) os (Fr.put ⟨e,ms⟩ d v) E Q
def kF(bL:List FP)(i:I)(d:oN)(js:lN)(os:List (aT×lN))(e:Env)(ms:lN)(Q:bZ):AV->AS->Prop:=λv E=>Dh bL (⟨none,d,i⟩,js) os=true/\Q (.panic v) ⟨e,ms⟩ E
def aca{X:Ctx}{E:AS}{Q:bZ}{ms:lN}{bL:List FP}{js:lN}{os:List (aT×lN)}{i:I}:gR X bL ((⟨none,d,i⟩,js)::os) ⟨e,ms⟩ E Q=aU X i e E (kD X i E bL js os d e ms Q) (kF bL i d js os e ms Q):=by
 apply propext;simp only[gR,aU,gy,gd,ahJ];cases g:exec X (D X) i e E with
 |none=>simp[qS]
 |some o=>
  cases o with
  |ok v E'=>
   simp only[qS,Pc];by_cases a:qT bL (aZ i e E E') js=true
   ·rw[aez a];exact⟨λh=>⟨a,h⟩,λh=>h.2⟩
   ·simp[kD,a]
  |panic v E'=>
   simp only[qS,kF]
   grind
section
variable{X:Ctx}{f:FuncId}{rd:Bool}{E cu:AS}{Q:bZ}{e:Env}{ms:lN}{bL:List FP}{js:lN}{os:List (aT×lN)}{i:I}{d:Nat}{v:AV}
def acb:gR X bL [] ⟨e,ms⟩ E Q=Q .normal ⟨e,ms⟩ E:=propext (by simp only[gR,gy];grind)
def acd:gR X bL ((o d i,js)::os) ⟨e,ms⟩ E Q=aU X i e E (kD X i E bL js os (some d) e ms Q) (kF bL i (some d) js os e ms Q):=aca
def ace:gR X bL ((u i,js)::os) ⟨e,ms⟩ E Q=aU X i e E (kD X i E bL js os none e ms Q) (kF bL i none js os e ms Q):=aca
theorem acf:kD X i cu bL js os (some d) e ms Q v E=(qT bL (aZ i e cu E) js=true/\gR X (bL++[aZ i e cu E]) os ⟨e.set d v,ms⟩ E Q):=rfl
theorem acg:kD X i cu bL js os none e ms Q v E=(qT bL (aZ i e cu E) js=true/\gR X (bL++[aZ i e cu E]) os ⟨e,ms⟩ E Q):=rfl
theorem ach{x:FP}:qT bL x []=true:=rfl
theorem aci{x:FP}:qT bL x (j::js)=((bL.getD j .all).ok x&&qT bL x js):=rfl
def acj{H:List ae}:wp X f rd (.uA os) ⟨e,ms⟩ ⟨H,lo⟩ Q=gR X [] (ig H.length os) ⟨e,ms⟩ ⟨H++dD os,lo⟩ Q:=apC
theorem ack{x y:FP}{l:List FP}: (x::l).getD 0 y=x:=rfl
end
def dm:I->Option ae
 |.alloc z tg=>some (.box z tg)
 |_=>none
theorem acm{d:Nat}{i:I}:aT.fK (o d i)=dm i:=by rfl
theorem acn{i:I}:aT.fK (u i)=dm i:=by rfl
theorem aco{i:I}:aT.fK (gt t d i)=dm i:=by rfl
theorem acp{i:I}:aT.fK (gf t d i)=dm i:=by rfl
def jf(n:Nat)(x:aT)(l:lN)(os:List (aT×lN)):Option ae->List (aT×lN)
 |none=>(x,l)::ig n os
 |some _=>({x with i:=.mov (.c (.ptr n 0))},l)::ig (n+1) os
def zC(os:List (aT×lN)):Option ae->List ae
 |none=>dD os
 |some b=>b::dD os
theorem acq:ig n []=[]:=rfl
def acr{x:aT}{l:lN}{os:List (aT×lN)}:ig n ((x,l)::os)=jf n x l os x.fK:=by
 simp only[ig,lV];cases x.fK<;>rfl
theorem acs{x:aT}{l:lN}{os:List (aT×lN)}:jf n x l os none=(x,l)::ig n os:=rfl
theorem acu{d:Nat}{i:I}{l:lN}{os:List (aT×lN)}{b:ae}:jf n (o d i) l os (some b)=(o d (.mov (.c (.ptr n 0))),l)::ig (n+1) os:=rfl
theorem acv{i:I}{l:lN}{os:List (aT×lN)}{b:ae}:jf n (gt t d i) l os (some b)=(gt t d (.mov (.c (.ptr n 0))),l)::ig (n+1) os:=rfl
theorem acw{i:I}{l:lN}{os:List (aT×lN)}{b:ae}:jf n (gf t d i) l os (some b)=(gf t d (.mov (.c (.ptr n 0))),l)::ig (n+1) os:=rfl
theorem acx:dD []=[]:=rfl
def acy{x:aT}{l:lN}{os:List (aT×lN)}:dD ((x,l)::os)=zC os x.fK:=by
 simp only[dD];cases x.fK<;>rfl
theorem acz{os:List (aT×lN)}:zC os none=dD os:=rfl
theorem acA{os:List (aT×lN)}{b:ae}:zC os (some b)=b::dD os:=rfl
theorem acB:dm (.alloc z tg)=some (.box z tg):=rfl
theorem acC{a:_}:dm (.mov a)=none:=rfl
theorem acD{h:_}{g:_}{a:_}:dm (.pick h g a)=none:=rfl
theorem acE{g:_}{a:_}:dm (.box g a)=none:=rfl
theorem acF{g:_}{a:_}:dm (.build g a)=none:=rfl
theorem acH{h:_}{g:_}{a:_}:dm (.bslice h g a)=none:=rfl
theorem acI{j:_}{h:_}{g:_}{a:_}:dm (.rT j h g a)=none:=rfl
theorem acJ{h:_}{g:_}{a:_}:dm (.load h g a)=none:=rfl
theorem acL{h:_}{g:_}{a:_}:dm (.store h g a)=none:=rfl
theorem acM{a:_}:dm (.nilck a)=none:=rfl
theorem acN{h:_}{g:_}{a:_}:dm (.bin h g a)=none:=rfl
theorem acO{h:_}{g:_}{a:_}:dm (.shf h g a)=none:=rfl
theorem acP{h:_}{g:_}{a:_}:dm (.eq h g a)=none:=rfl
theorem acQ{h:_}{g:_}{a:_}:dm (.ne h g a)=none:=rfl
theorem acR{g:_}{a:_}:dm (.un g a)=none:=rfl
theorem acS{g:_}{a:_}:dm (.conv g a)=none:=rfl
theorem acT{a:_}:dm (.s2b a)=none:=rfl
theorem acU{g:_}{a:_}:dm (.mki g a)=none:=rfl
theorem acV{h:_}{g:_}{a:_}:dm (.mkf h g a)=none:=rfl
theorem acW:dm .nS=none:=rfl
theorem acX{h:_}{g:_}{a:_}:dm (.slstr h g a)=none:=rfl
theorem acY{k:_}{j:_}{h:_}{g:_}{a:_}:dm (.slsl k j h g a)=none:=rfl
theorem acZ{k:_}{j:_}{h:_}{g:_}{a:_}:dm (.slarr k j h g a)=none:=rfl
theorem ac0{g:_}{a:_}:dm (.faddr g a)=none:=rfl
theorem ac1{j:_}{h:_}{g:_}{a:_}:dm (.fld j h g a)=none:=rfl
theorem ac2{j:_}{h:_}{g:_}{a:_}:dm (.iaddra j h g a)=none:=rfl
theorem ac3{h:_}{g:_}{a:_}:dm (.iaddrs h g a)=none:=rfl
theorem ac4{k:_}{j:_}{h:_}{g:_}{a:_}:dm (.idxa k j h g a)=none:=rfl
theorem ac5{g:_}{a:_}:dm (.idxs g a)=none:=rfl
theorem ac6{k:_}{j:_}{h:_}{g:_}{a:_}:dm (.lookup k j h g a)=none:=rfl
theorem ac7{j:_}{h:_}{g:_}{a:_}:dm (.o8 j h g a)=none:=rfl
theorem ac8{j:_}{h:_}{g:_}{a:_}:dm (.ta j h g a)=none:=rfl
theorem ac9{g:_}{a:_}:dm (.ext g a)=none:=rfl
theorem ada{g:_}{a:_}:dm (.len g a)=none:=rfl
theorem adb{k:_}{j:_}{h:_}{g:_}{a:_}:dm (.append k j h g a)=none:=rfl
theorem ade{h:_}{g:_}{a:_}:dm (.copy h g a)=none:=rfl
theorem adf{g:_}{a:_}:dm (.clear g a)=none:=rfl
theorem adg{a:_}:dm (.max a)=none:=rfl
theorem adh{a:_}:dm (.min a)=none:=rfl
theorem adi{g:_}{a:_}:dm (.call g a)=none:=rfl
theorem adj{a:_}:dm (.panic a)=none:=rfl
def N1:=gG @acm<|gG @acn<|gG @aco<|gG @acp<|gG @acq<|gG @acr<|gG @acs<|gG @acu<|gG @acv<|gG @acw<|gG @acx<|gG @acy<|gG @acz<|gG @acA<|gG @acB<|gG @acC<|gG @acD<|gG @acE<|gG @acF<|gG @acH<|gG @acI<|gG @acJ<|gG @acL<|gG @acM<|gG @acN<|gG @acO<|gG @acP<|gG @acQ<|gG @acR<|gG @acS<|gG @acT<|gG @acU<|gG @acV<|gG @acW<|gG @acX<|gG @acY<|gG @acZ<|gG @ac0<|gG @ac1<|gG @ac2<|gG @ac3<|gG @ac4<|gG @ac5<|gG @ac6<|gG @ac7<|gG @ac8<|gG @ac9<|gG @ada<|gG @adb<|gG @ade<|gG @adf<|gG @adg<|gG @adh<|gG @adi @adj
def P1:=gG @acj<|gG @acb<|gG @acd<|gG @ace<|gG @acf<|gG @acg<|gG @ach<|gG @aci<|gG @ack<|gG @ab0<|gG @ab1<|gG @ab2<|gG @ab3<|gG @ab4<|gG @ab5<|gG @ab6<|gG @ab7<|gG @Ir<|gG @Is<|gG @It<|gG @Iu<|gG @Iv<|gG @Iw<|gG @ab8<|gG @ab9<|gG @Ix<|gG @Iy<|gG @Iz<|gG @IA<|gG @abn<|gG @abo<|gG @abp<|gG @abq<|gG @abr<|gG @abt<|gG @abu<|gG @abv<|gG @abw<|gG @abx<|gG @aby<|gG @abz<|gG @abA<|gG @abB<|gG @abC<|gG @abD<|gG @abE<|gG @abF<|gG @abG<|gG @abH<|gG @abI<|gG @abJ<|gG @abK<|gG @abL<|gG @abM<|gG @abN<|gG @abO<|gG @abP<|gG @abQ<|gG @abR<|gG @abS<|gG @abT<|gG @abU<|gG @abV<|gG @abW<|gG @abX<|gG @abY @abZ
def aqn{X:Ctx}(pf:PF){args cap:lA}{H:List ae}{a:aX}(g:X.cg f=none)(l:X.code f=some pf)(k:Nat.ble (args++cap).length pf.ntmps=true)
  (h: ∀n,H.length=n->wp X f false pf.body ⟨dj (args++cap),[]⟩ ⟨H,none⟩ (dP X n lo pf.results (· =a))):D X (.fn (.func f) [] cap) args ⟨H,lo⟩=some a:=by
 have j:=aoM k;refine Yj g l (by grind) ?_
 grind
def aqo{X:Ctx}{rd:Bool}{E:AS}{Q:bZ}(m:Nat)(I:Nat->Env->List ae->Prop){H:List ae}(k:Nat)(g:k<=m)(n:I k e H)
  (l: ∀k,k<=m-> ∀e H,I k e H->wp X f rd b ⟨e,[]⟩ ⟨H,none⟩ (λex a E'=>match ex with|.normal=>k<m/\ ∃h H',a=⟨h,[]⟩/\E'=⟨H',none⟩/\I (k+1) h H'|ex=>Q ex a E')):wp X f rd (.loop b) ⟨e,[]⟩ ⟨H,none⟩ Q:=by
 refine wp_loop (S:=Nat) (λk fr E=>k<=m/\ ∃e H,fr=⟨e,[]⟩/\E=⟨H,none⟩/\I k e H) (λk=>m-k) k ⟨g,e,H,rfl,rfl,n⟩ ?_;rintro k fr E ⟨g,e,H,rfl,rfl,j⟩;refine wp_mono (l k g e H j) ?_
 grind
def A6(k m:Nat)(I:Nat->Env->List ae->Prop)(Q:bZ):bZ:=λex a E'=>match ex with|.normal=>k<m/\ ∃g H',a=⟨g,[]⟩/\E'=⟨H',none⟩/\I (k+1) g H'|ex=>Q ex a E'
def adk{I:Nat->Env->List ae->Prop}{Q:bZ}{H:List ae}:A6 k m I Q .normal ⟨e,[]⟩ ⟨H,none⟩=(k<m/\I (k+1) e H):=by
 simp only[A6]
 grind
theorem adl{I:Nat->Env->List ae->Prop}{Q:bZ}{fr:Fr}{E:AS}:A6 k m I Q (.exit i) fr E=Q (.exit i) fr E:=rfl
theorem adm{I:Nat->Env->List ae->Prop}{Q:bZ}{fr:Fr}{E:AS}:A6 k m I Q .ret fr E=Q .ret fr E:=rfl
theorem adn{I:Nat->Env->List ae->Prop}{Q:bZ}{fr:Fr}{E:AS}:A6 k m I Q (.panic v) fr E=Q (.panic v) fr E:=rfl
def dQ{X:Ctx}{rd:Bool}{Q:bZ}(m:Nat)(I:Nat->Env->List ae->Prop){H:List ae}(k:Nat)(a:k<=m)(j:I k e H)
  (h: ∀k,k<=m-> ∀e H,I k e H-> ∀n,H.length=n->wp X f rd b ⟨e,[]⟩ ⟨H,none⟩ (A6 k m I Q)):wp X f rd (.loop b) ⟨e,[]⟩ ⟨H,none⟩ Q:=
 aqo (E:=⟨H,none⟩) m I k a j λk a e H g=>h k a e H g _ rfl
def A7(k m:Nat)(I:Nat->Env->List ae->oN->Prop)(Q:bZ):bZ:=λex a E'=>match ex with|.normal=>k<m/\a.marks=[]/\I (k+1) a.env E'.heap E'.lo|ex=>Q ex a E'
def ado{I:Nat->Env->List ae->oN->Prop}{Q:bZ}{H:List ae}:A7 k m I Q .normal ⟨e,[]⟩ ⟨H,lo⟩=(k<m/\I (k+1) e H lo):=by
 simp[A7]
theorem adp{I:Nat->Env->List ae->oN->Prop}{Q:bZ}{fr:Fr}{E:AS}:A7 k m I Q (.exit i) fr E=Q (.exit i) fr E:=rfl
theorem adq{I:Nat->Env->List ae->oN->Prop}{Q:bZ}{fr:Fr}{E:AS}:A7 k m I Q .ret fr E=Q .ret fr E:=rfl
def gE{X:Ctx}{rd:Bool}{Q:bZ}(m:Nat)(I:Nat->Env->List ae->oN->Prop){H:List ae}(k:Nat)(g:k<=m)(o:I k e H lo)
  (l: ∀k,k<=m-> ∀e H lo,I k e H lo-> ∀n,H.length=n->wp X f rd b ⟨e,[]⟩ ⟨H,lo⟩ (A7 k m I Q)):wp X f rd (.loop b) ⟨e,[]⟩ ⟨H,lo⟩ Q:=by
 refine wp_loop (S:=Nat) (λk fr E=>k<=m/\fr.marks=[]/\I k fr.env E.heap E.lo) (λk=>m-k) k ⟨g,rfl,o⟩ ?_;rintro k ⟨e,ms⟩ ⟨H,lo⟩ ⟨g,a,j⟩;subst a;refine wp_mono (l k g e H lo j _ rfl) ?_;intro ex fr E h;cases ex with
 |normal=>
  obtain⟨r,q,p⟩:=h
  grind
 |_=>exact h
section
variable{S:Type}{I:S->Env->List ae->Prop}{μ:S->Nat}{s:S}{Q:bZ}
end
def IB(X:Ctx)(f:FuncId)(rd:Bool)(b:PC)(Q:bZ):bZ
 |.normal,fr,E=>wp X f rd (.loop b) fr E Q
 |ex,fr,E=>Q ex fr E
section
variable{X:Ctx}{f:FuncId}{rd:Bool}{b:PC}{fr:Fr}{E:AS}{Q:bZ}{i:Nat}{v:AV}
theorem adr:IB X f rd b Q .normal fr E=wp X f rd (.loop b) fr E Q:=rfl
theorem ads:IB X f rd b Q (.exit i) fr E=Q (.exit i) fr E:=rfl
theorem adt:IB X f rd b Q .ret fr E=Q .ret fr E:=rfl
theorem adu:IB X f rd b Q (.panic v) fr E=Q (.panic v) fr E:=rfl
end
theorem adv{a:Env}:wy e [] a=a:=rfl
theorem adw{g:Env}{a:lN}:wy e (t::a) g=(wy e a g).set t (e t):=rfl
def adx{p:Prop}[Decidable p]: (!decide p)=decide (¬p):=by simp
theorem ady:gS []=[]:=rfl
theorem adz{i:I}{os:List aT}:gS (o a i::os)=a::gS os:=rfl
theorem adA{i:I}{os:List aT}:gS (u i::os)=gS os:=rfl
theorem adB{i:I}{os:List aT}:gS (gt t (some a) i::os)=a::gS os:=rfl
theorem adC{i:I}{os:List aT}:gS (gf t (some a) i::os)=a::gS os:=rfl
theorem adD{i:I}{os:List aT}:gS (gt t none i::os)=gS os:=rfl
theorem adE{i:I}{os:List aT}:gS (gf t none i::os)=gS os:=rfl
theorem adF{i:I}{os:List aT}:gS (⟨none,some a,i⟩::os)=a::gS os:=rfl
theorem adG{i:I}{os:List aT}:gS (⟨none,none,i⟩::os)=gS os:=rfl
theorem adH:sh [] t=false:=rfl
theorem adI{as:lN}:sh (a::as) t=(a==t||sh as t):=rfl
def ff: (false=true)=False:=by simp
def tt: (true=true)=True:=by simp
def C1:=gG @abl<|gG @ado<|gG @adp<|gG @adq<|gG @adr<|gG @ads<|gG @adt<|gG @adu<|gG @adk<|gG @adl<|gG @adm<|gG @adn<|gG @abh<|gG @abi<|gG @aqF<|gG @aqR<|gG @axU<|gG @alk<|gG @adv<|gG @adw<|gG @adx<|gG @ady<|gG @adz<|gG @adA<|gG @adB<|gG @adC<|gG @adD<|gG @adE<|gG @adF<|gG @adG<|gG @adH<|gG @adI<|gG @ff @abj
def aH{X:Ctx}(pf:PF){args:lA}{H:List ae}{a:aX}
 (h: ∀n,H.length=n->wp X f false pf.body ⟨dj args,[]⟩ ⟨H,none⟩ (dP X n lo pf.results (· =a))) (g:X.cg f=none:=by exact rfl) (k:X.code f=some pf:=by exact rfl) (j:Nat.ble args.length pf.ntmps=true:=by exact rfl):D X (.fn (.func f) [] []) args ⟨H,lo⟩=some a:=OV pf g k j h
def cA{X:Ctx}(pf:PF){args:lA}{H:List ae}{R:aX->Prop}
 (h: ∀n,H.length=n->wp X f false pf.body ⟨dj args,[]⟩ ⟨H,none⟩ (dP X n lo pf.results R)) (g:X.cg f=none:=by exact rfl) (k:X.code f=some pf:=by exact rfl) (j:Nat.ble args.length pf.ntmps=true:=by exact rfl): ∃a,D X (.fn (.func f) [] []) args ⟨H,lo⟩=some a/\R a:=aqf pf g k j h
def fj{X:Ctx}(pf:PF){args cap:lA}{H:List ae}{a:aX}
 (h: ∀n,H.length=n->wp X f false pf.body ⟨dj (args++cap),[]⟩ ⟨H,none⟩ (dP X n lo pf.results (· =a))) (g:X.cg f=none:=by exact rfl) (k:X.code f=some pf:=by exact rfl) (j:Nat.ble (args++cap).length pf.ntmps=true:=by exact rfl):D X (.fn (.func f) [] cap) args ⟨H,lo⟩=some a:=aqn pf g k j h
section
variable{P:Program}{X:Ctx}{B:Nat}{ay:World}{c7:List Deferred}
section
variable{C:bE}(hC:fY P B ay C)(hg:fC X B ay){r:oN}{n nt:Nat}{rows:Bool}
include hC hg
theorem Pd{c:Array Oper}(k:lN): ∀ (os:List Oper) (is:lN) (l:List aT),is.map (c[·]?)=os.map some->kT P rows c os=some l->(∀x∈l,∀d,x.dst=some d->d<nt)->
  ∀ (G:Gh) (E:AS) (w:World) (fr:Fr) (a:Act) (res:Ex×Fr×AS) (Q:Exit->Act->World->Prop),ba P B ay G E w->cN G nt fr.env a.tmps->gz c7 G fr.marks a.defers->fa X C l fr E=some res->
  (∀a w,res.1= .normal->mB P B ay c7 G E nt res .normal a w->wpOpsIn (W r) n P c Q k a w)->(∀e a w,res.1≠ .normal->mB P B ay c7 G E nt res e a w->Q e a w)->wpOpsIn (W r) n P c Q (is++k) a w
 | [],is,l,q,p,s,G,E,w,fr,a,res,Q,hw,he,hm,j,A,z=>by
   have:is=[]:=by simp_all
   subst this;simp only[kT,adP]at p;subst p;simp only[fa,adP]at j;subst j;exact A _ _ rfl ⟨G,G.le_refl,hw,he,hm,.refl E,trivial⟩
 |o::os,is,l,q,p,s,G,E,w,fr,a,res,Q,hw,he,hm,j,A,z=>by
  cases is with
  |nil=>grind
  |cons i is=>
   simp only[amF,azq]at q;obtain⟨H,q⟩:=q;simp only[kT]at p;split at p
   ·rename_i x xs g t;cases p;simp only[ahY,wpOpsIn,H];have I:guardOf c o=some x.g:=by
     unfold iP at g;split at g
     ·rename_i J;cases g;exact J
     ·cases g
    have u:x.dst=o.dst:=by
     unfold iP at g;split at g
     ·cases g;rfl
     ·cases g
    have F:=yh he I;simp only[fa]at j;rw[F];split at j
    ·rename_i m;rw[aez m];split at j
     ·rename_i v E' hex;refine yj hC hg g (s x (by simp)) hw he hm hex (λb f e V a' w' M J K T S=>?_) (λb f e=>by cases e);cases e;exact Pd k os is xs q t (λy D=>s y (by simp[D])) V E' w' _ a' res Q J T S j (λa w e h=>A a w e (h.trans M K)) (λe a w U h=>z e a w U (h.trans M K))
     ·rename_i v E' hex;cases j;exact yj hC hg g (s x (by simp)) hw he hm hex (λb f e=>by cases e) (λb f e Y a' w' h=>by cases e;exact z _ _ _ (by simp) h)
     ·cases j
    ·rename_i m;rw[aeu m];refine⟨λ_ _=>trivial,?_⟩;obtain⟨R,O,N⟩:=qM (a:=a) he (s x (by simp)) (v:=.undef) (v':=undef) yg;rw[<-u];exact Pd k os is xs q t (λy D=>s y (by simp[D])) G E w _ _ res Q hw R (by rw[O,N];exact hm) j A z
   grind
end
structure wA where
 dst:Nat
 pf:PF
 deriving Inhabited
def adJ(o:Oper):Bool:=match o.op with
 |.call c=>match c.callee,c.args.toList,o.guard with
  |.builtin .recover,[],none=>true
  |_,_,_=>false
 |_=>false
def Pe(o:Oper):Bool:=match o.op,o.guard with
 |.move _,none=>true
 |.assign _,none=>true
 |_,_=>false
def adK(P:Program)(rows:Bool)(nt:Nat):Code->Option (Nat×PC)
 |.seq (.region _ ops false) b=>match ops.toList with
  |o::os=>match o.dst,kT P rows ops os,fb P rows nt b with
   |some d,some xs,some a=>if adJ o=true/\os.all Pe=true/\d<nt/\xs.all (λx=>match x.dst with|some d=>d<nt|none=>true)then some (d,.seq (.aQ xs) a)else none
   |_,_,_=>none
  | []=>none
 |_=>none
def A8(P:Program)(rows:Bool)(fn:Func):Option wA:=
 match fn.body with
 |some c=>match adK P rows fn.ntmps c,pn P fn.results.toList with
  |some (d,b),some rs=>if(fn.name != "runtime.NumGoroutine")then some ⟨d,{ntmps:=fn.ntmps,results:=rs,body:=b}⟩else none
  |_,_=>none
 |none=>none
noncomputable def IC(X:Ctx)(C:bE)(L:eH)(g:FuncId)(pr:wA)(args:lA)(rv:AV)(E:AS):Option AS:=
 if args.length<=pr.pf.ntmps then
  match bm X C L g false pr.pf.body {env:=(dj args).set pr.dst rv,marks:=[]} {E with lo:=none}with
  |some (.normal,⟨e,[]⟩,E')=>(fL X E' e pr.pf.results).map λv=>(finish E.heap.length E.lo v E').2
  |some (.ret,⟨e,[]⟩,E')=>(fL X E' e pr.pf.results).map λv=>(finish E.heap.length E.lo v E').2
  |_=>none
 else none
def adL(G:Gh)(u:FrameMode)(rv:AV):Prop:=
 (u= .returning/\rv= .eV)\/ ∃v',u= .panicking [{v:=v',recovered:=false}]/\an G rv v'
section
variable{C:bE}(hC:fY P B ay C)(hg:fC X B ay)(hX:py P X)(gQ:AQ P X B ay){L:eH}(hL:yk L)
include hC hg hX gQ hL
omit hC hg hX gQ hL in
theorem adM{n nt:Nat}{rows:Bool}{b:Array Oper}{cs:List Frame}: ∀ (os:List Oper) (is:lN) (l:List aT),is.map (b[·]?)=os.map some->kT P rows b os=some l->os.all Pe=true->(∀x∈l,∀d,x.dst=some d->d<nt)->
  ∀ (G:Gh) (E:AS) (w:World) (fr:Fr) (a:Act) (Q:Exit->Act->List Frame->World->Prop) (res:Ex×Fr×AS),ba P B ay G E w->cN G nt fr.env a.tmps->gz [] G fr.marks a.defers->fa X C l fr E=some res->
  (∀a' m,res=(.normal,m,E)->cN G nt m.env a'.tmps->gz [] G m.marks a'.defers->Q .normal a' cs w)->wpOpsSIn (W none) n P b Q is a cs w
 | [],is,l,k,h,_,J,G,E,w,fr,a,Q,res,hw,he,hm,q,K=>by
   have:is=[]:=by simpa using k
   subst this;simp only[kT,adP]at h;subst h;simp only[fa,adP]at q;exact K a fr q.symm he hm
 |o::os,is,l,k,h,e,J,G,E,w,fr,a,Q,res,hw,he,hm,q,K=>by
  cases is with
  |nil=>simp at k
  |cons i is=>
   simp only[amF,azq]at k;obtain⟨I,k⟩:=k;simp only[atS,ahV]at e;obtain⟨j,e⟩:=e;simp only[kT]at h;split at h
   ·rename_i x xs c D;cases h;have s: (∃z,(o.op= .move z\/o.op= .assign z))/\o.guard=none:=by
     unfold Pe at j;split at j
     ·rename_i z v u;exact⟨⟨_,.inl v⟩,u⟩
     ·rename_i z v u;exact⟨⟨_,.inr v⟩,u⟩
     ·cases j
    obtain⟨⟨z,f⟩,t⟩:=s;have F: ∃y,bM z=some y/\x={g:=none,dst:=o.dst,i:=.mov y}:=by
     unfold iP at c;have v:guardOf b o=some none:=by unfold guardOf;rw[t]
     rw[v]at c;have u:kS P rows o=(bM z).map .mov:=by
      rcases f with f|f<;>simp only[kS,f]
     rw[u]at c;cases A:bM z with
     |none=>rw[A]at c;cases c
     |some y=>rw[A]at c;cases c;exact⟨y,rfl,rfl⟩
    obtain⟨y,A,rfl⟩:=F;have p: (execOp a.eval o).run P w= .ok (.value (a.eval z)) w:=by
     rcases f with f|f<;>(unfold execOp;simp only[f];rfl)
    simp only[wpOpsSIn,I];have H:Region.wanted o (yielded b a.tmps)=true:=by simp[Region.wanted,t]
    rw[aez H,p];refine⟨λ_ _=>trivial,?_⟩;simp only[fa,gd,ahJ,exec]at q;obtain⟨O,N,M⟩:=qM (a:=a) (dst:=o.dst) he (J {g:=none,dst:=o.dst,i:=.mov y} (by simp)) (cG he A);exact adM os is xs k D e (λx c=>J x (by simp[c])) G E w _ _ Q res hw O (by rw[N,M];exact hm) q K
   ·cases h
theorem aqp{g:FuncId}{fn:Func}{pr:wA}{rows:Bool}(hfn:P.funcs[g]?=some fn)(q:A8 P rows fn=some pr){args:lA}{E f:AS}{rv:AV}
  (h:IC X C L g pr args rv E=some f) {G:Gh}  {a:Array Value} (hw:ba P B ay G E w) (hl:aG G args a.toList) {u:FrameMode} (hu:adL G u rv):
  CallsDIn (W none) n P g a u w (λe A w'=>settle A= .returning/\ ∃v K,e= .returned v/\G.le K/\ba P B ay K f w'/\E.Ext f):=by
 unfold A8 at q;split at q
 case h_2=>grind
 rename_i c hb;split at q
 case h_2=>grind
 rename_i d b rs p hrs;split at q
 case isFalse=>grind
 cases q;unfold adK at p;split at p
 case h_2=>cases p
 rename_i id ops b';split at p
 case h_2=>cases p
 rename_i o os y;split at p
 case h_2=>cases p
 rename_i d' xs pb Pf wB hpb;split at p
 case isFalse=>cases p
 rename_i U;cases p;obtain⟨I,hmv,hdn,yv⟩:=U;unfold IC at h;split at h
 case isFalse=>cases h
 rename_i z;simp only at z h;cases H:bm X C L g false (.seq (.aQ xs) pb) {env:=(dj args).set d rv,marks:=[]} {E with lo:=none}with
 |none=>rw[H]at h;cases h
 |some res=>
 have k:=H;simp only[bm]at k;cases s:fa X C xs {env:=(dj args).set d rv,marks:=[]} {E with lo:=none}with
 |none=>rw[s]at k;cases k
 |some Y=>
 rw[s]at k;refine callsDIn_of_wpSIn hfn hb trivial λl cs T=>?_
 refine wpSIn_seq (wpSIn_region ?_);have aB3:0<ops.size:=by rw[<-amq,y];simp
 have M:List.range ops.size=0:: (List.range' 1 (ops.size-1)):=by
  rw[azt,show ops.size=(ops.size-1)+1 by omega,List.range'_succ];simp
 have h0:ops[0]?=some o:=by rw[<-aqw,y];rfl
 rw[M];simp only[wpOpsSIn,h0];have aqv: (∃c,o.op= .call c/\c.callee= .builtin .recover/\c.args.toList=[])/\o.guard=none:=by
  unfold adJ at I;split at I
  ·rename_i c R;split at I
   ·rename_i h1 h2 h3;exact⟨⟨c,R,h1,h2⟩,h3⟩
   ·cases I
  ·cases I
 obtain⟨⟨cc,R,Pg,aB4⟩,gA⟩:=aqv;have Ph: ∀t:Array Value,Region.wanted o (yielded ops t)=true:=λt=>by simp[Region.wanted,gA]
 have S: ∀ρ,(execOp ρ o).run P w= .ok .recover w:=by
  intro ρ;unfold execOp;simp only[R,resolve,Pg];simp[invoke,builtin]
 rw[aez (Ph _),S];refine⟨λ_ _=>trivial,?_⟩;have he0:cN G fn.ntmps (dj args) (a++Array.replicate (fn.ntmps-a.size) undef):=HK hl z;have Pj: (List.range' 1 (ops.size-1)).map (ops[·]?)=os.map some:=by
  apply ang;intro j;have hos:os.length=ops.size-1:=by
   have:ops.toList.length=os.length+1:=by rw[y];rfl
   rw[amq]at this;omega
  by_cases hj:j<os.length
  ·have e1: (List.range' 1 (ops.size-1))[j]?=some (1+j):=by
     rw[List.getElem?_range' (by omega)];simp
   simp only[agA,e1,agl,adQ hj];rw[<-aqw,y,Nat.add_comm,axQ,adQ hj]
  ·rw[alZ (by simp;omega),alZ (by simp;omega)]
 have aqx: ∀x∈xs,∀d,x.dst=some d->d<fn.ntmps:=by
  intro x hx d Z;have:=agx.1 yv x hx;rw[Z]at this;simpa using this
 have key: ∀ (v':Value) (N:List Frame) (A:FrameMode),an G rv v'->settle A= .returning->N={l with mode:=A}::cs->
   wpOpsSIn (W none) n P ops (Exit.thenS (b'.wpSIn (W none) n P (bodyPostS P fn l cs (λe A w'=>settle A= .returning/\ ∃v K,e= .returned v/\G.le K/\ba P B ay K f w'/\E.Ext f))) (bodyPostS P fn l cs (λe A w'=>settle A= .returning/\ ∃v K,e= .returned v/\G.le K/\ba P B ay K f w'/\E.Ext f)))
    (List.range' 1 (ops.size-1)) (Act.put {tmps:=a++Array.replicate (fn.ntmps-a.size) undef,defers:=[]} o.dst v') N w:=by
  intro v' N A hv O HD;rw[Pf];have he1:cN G fn.ntmps ((dj args).set d rv) (Act.put {tmps:=a++Array.replicate (fn.ntmps-a.size) undef,defers:=[]} (some d) v').tmps:=he0.set hdn hv;refine adM os _ xs Pj wB hmv aqx G {E with lo:=none} w {env:=(dj args).set d rv,marks:=[]} _ _ Y (hw.lo none) he1 rfl s (λa1 ID Q he2 hm2=>?_);subst Q;simp only at k;simp only[Exit.thenS];refine wpSIn_of_wpIn rfl (wj hC hg hX gQ hL (r:=none) rfl b' pb hpb G {E with lo:=none} w ID a1 res _ (hw.lo none) he2 hm2 k (λe a2 w2 aqB=>?_));obtain⟨G2,q1,q2,q3,q4,q5,q6⟩:=aqB;obtain⟨ex,⟨e2,ms⟩,V⟩:=res;rw[H]at h;have fin:ms=[]->(∃v,fL X V e2 rs=some v/\ (finish E.heap.length E.lo v V).2=f)->(e= .normal\/e= .ret)->bodyPostS P fn l cs (λe A w'=>settle A= .returning/\ ∃v K,e= .returned v/\G.le K/\ba P B ay K f w'/\E.Ext f) e a2 N w2:=by
   intro hms ⟨v,F,D⟩ hee;subst hms;obtain⟨v2,r1,r2⟩:=DB hg q2 q3 hrs F;obtain⟨G3,p1,p2,p3,p4⟩:=yf hw q1 q2 q5 r2;rw[D]at p2 p4;have hd2:a2.defers=[]:=q4;rcases hee with rfl|rfl
   ·exact⟨hd2,A,HD,v2,r1,O,v2,G3,rfl,p1,p2,p4⟩
   ·exact⟨hd2,A,HD,v2,r1,O,v2,G3,rfl,p1,p2,p4⟩
  cases ex with
  |normal=>
   cases ms with
   |cons m ms=>cases h
   |nil=>
    obtain⟨v,F,D⟩:=agj.1 h;cases e<;>simp[fZ]at q6;exact fin rfl ⟨v,F,D⟩ (.inl rfl)
  |ret=>
   cases ms with
   |cons m ms=>cases h
   |nil=>
    obtain⟨v,F,D⟩:=agj.1 h;cases e<;>simp[fZ]at q6;exact fin rfl ⟨v,F,D⟩ (.inr rfl)
  |exit i=>cases h
  |panic v=>cases h
 rcases hu with⟨rfl,rfl⟩| ⟨v',rfl,hv⟩
 ·have J:recoverD (l::cs)=none:=by simp[recoverD,T]
  simp only[J];refine key .nilIface (l::cs) .returning (by simp[an]) rfl ?_;rw[<-T]
 ·have J:recoverD (l::cs)=some (v',{l with mode:=.panicking [{v:=v',recovered:=true}]}::cs):=by simp[recoverD,T]
  simp only[J];exact key v' _ _ hv rfl rfl
end
end
section
variable{P:Program}{X:Ctx}{B:Nat}{ay:World}{c7:List Deferred}
inductive D3 where
 |here(ops:List aT)(k6:ao)(fE:List ao)(rest:PC)
 |later(pre:PC)(d:D3)
 deriving Inhabited
structure uL where
 ntmps:Nat
 results:List RV
 body:D3
 deriving Inhabited
def adO(P:Program)(rows:Bool)(nt:Nat):Code->Option (List aT×ao×List ao)
 |.region _ ops false=>match ops.toList.getLast? with
  |some o=>match o.op,o.guard,o.dst with
   |.defer c,none,none=>match c.callee with
    |.value f=>match kT P rows ops ops.toList.dropLast,bM f,nT c.args.toList with
     |some xs,some a,some as=>if xs.all (λx=>match x.dst with|some d=>d<nt|none=>true)then some (xs,a,as)else none
     |_,_,_=>none
    |_=>none
   |_,_,_=>none
  |none=>none
 |_=>none
def D4(P:Program)(rows:Bool)(nt:Nat):Code->Option D3
 |.seq a b=>match adO P rows nt a with
  |some (xs,f,as)=>(fb P rows nt b).map (.here xs f as)
  |none=>match fb P rows nt a,D4 P rows nt b with
   |some d,some c=>some (.later d c)
   |_,_=>none
 |_=>none
def A9(P:Program)(rows:Bool)(fn:Func):Option uL:=
 match fn.body with
 |some c=>match D4 P rows fn.ntmps c,pn P fn.results.toList with
  |some b,some rs=>if(fn.name != "runtime.NumGoroutine")then some {ntmps:=fn.ntmps,results:=rs,body:=b}else none
  |_,_=>none
 |none=>none
def AV.IE:AV->Bool
 |.fn .. =>true
 |_=>false
noncomputable def wC(X:Ctx)(C:bE)(L:eH)(bU:FuncId):D3->Fr->AS->Option (Option (AV×lA)×(Ex×Fr×AS))
 |.here ops a c rest,fr,E=>match fa X C ops fr E with
  |some (.normal,⟨e,[]⟩,E')=>if(a.get e).IE then(bm X C L bU false rest ⟨e,[]⟩ E').map λr=>(some (a.get e,c.map (·.get e)),r)else none
  |some (.normal,_,_)=>none
  |some r=>some (none,r)
  |none=>none
 |.later pre d,fr,E=>match bm X C L bU false pre fr E with
  |some (.normal,b,E')=>wC X C L bU d b E'
  |some r=>some (none,r)
  |none=>none
abbrev pD:=FuncId->Option wA
noncomputable def Ba(X:Ctx)(C:bE)(L:eH)(R:pD)(b:AV)(a:lA)(rv:AV)(E:AS):Option AS:=
 match b with
 |.fn (.func g) first cap=>(R g).bind λpr=>IC X C L g pr (first++a++cap) rv E
 |_=>none
def Ex.Pk:Ex->Option AV
 |.normal=>some .eV
 |.ret=>some .eV
 |.panic v=>some v
 |.exit _=>none
noncomputable def Pl(X:Ctx)(C:bE)(L:eH)(R:pD)(n:Nat)(dM:oN)(c:uL):Option (Option (AV×lA)×(Ex×Fr×AS))->Option aX
 |some (none,r)=>leave X n dM {ntmps:=c.ntmps,results:=c.results,body:=.skip} (some r)
 |some (some (tv,d),(ex,fr,E))=>match ex.Pk,dN E fr.marks with
  |some rv,some b=>(Ba X C L R tv d rv b).bind λa=>(fL X a fr.env c.results).map λv=>.ret (finish n dM v a).1 (finish n dM v a).2
  |_,_=>none
 |none=>none
noncomputable def wD(X:Ctx)(C:bE)(L:eH)(R:pD)(f:FuncId)(a:uL)(args:lA)(E:AS):Option aX:=
 if args.length<=a.ntmps then Pl X C L R E.heap.length E.lo a (wC X C L f a.body {env:=dj args,marks:=[]} {E with lo:=none})else none
def Pm(P:Program)(R:pD):Prop:= ∀g pr,R g=some pr-> ∃rows fn,P.funcs[g]?=some fn/\A8 P rows fn=some pr
section
variable{C:bE}(hC:fY P B ay C)(hg:fC X B ay)(hX:py P X)(gQ:AQ P X B ay){L:eH}(hL:yk L)
include hC hg hX gQ hL
theorem aqE{rows:Bool}{nt:Nat}{bU:FuncId}: ∀ (c:Code) (pd:D3),D4 P rows nt c=some pd->
  ∀ (G:Gh) (E:AS) (w:World) (fr:Fr) (a:Act) (O:Option (AV×lA)) (r:Ex×Fr×AS) (Q:Exit->Act->World->Prop),ba P B ay G E w->cN G nt fr.env a.tmps->gz [] G fr.marks a.defers->wC X C L bU pd fr E=some (O,r)->
  (O=none-> ∀e a w,mB P B ay [] G E nt r e a w->Q e a w)->
  (∀tv J,O=some (tv,J)-> ∀A s G1,G.le G1->an G1 tv A->aG G1 J s.toList-> ∀d,(∀w:World,(Deferred.ofValue A s).run P w= .ok d w)-> ∀e a w,mB P B ay [d] G1 E nt r e a w->Q e a w)->c.wpIn (W none) n P Q a w:=by
 intro c
 induction c with
 |seq x y ihx ihy=>
  intro pd h G E w fr a O r Q hw he hm i hN hD;rw[D4]at h;split at h
  ·rename_i xs f' as g;obtain⟨rest,M,rfl⟩:=agj.1 h;unfold adO at g;split at g
   case h_2=>cases g
   rename_i id ops;split at g
   case h_2=>cases g
   rename_i o v;split at g
   case h_2=>cases g
   rename_i cc pC gA Pf;split at g
   case h_2=>cases g
   rename_i fop Pg;split at g
   case h_2=>cases g
   rename_i xs' f'' HJ wB hfo has;split at g
   case isFalse=>cases g
   rename_i uJ;cases g;have hd: ∀x∈xs,∀d,x.dst=some d->d<nt:=by
    intro x hx d yv;have:=agx.1 uJ x hx;rw[yv]at this;simpa using this
   have q:ops.toList=ops.toList.dropLast++[o]:=by
    rw[List.getLast?_eq_some_iff]at v;obtain⟨ys,Pn⟩:=v;rw[Pn];simp
   have r9:ops.size=ops.toList.dropLast.length+1:=by
    rw[<-amq];conv=>lhs;rw[q]
    simp
   have D:List.range ops.size=List.range (ops.size-1)++[ops.size-1]:=by
    conv=>lhs;rw[show ops.size=(ops.size-1)+1 by omega,aqD]
   have Pj: (List.range (ops.size-1)).map (ops[·]?)=ops.toList.dropLast.map some:=by
    apply ang;intro j;by_cases hj:j<ops.toList.dropLast.length
    ·have e1: (List.range (ops.size-1))[j]?=some j:=by rw[apz (by omega)]
     simp only[agA,e1,agl,adQ hj];rw[<-aqw]
     conv=>lhs;rw[q]
     rw[acK hj,adQ hj]
    ·rw[alZ (by simp;simp at hj;omega),alZ (by simpa using hj)]
   have H:ops[ops.size-1]?=some o:=by
    rw[<-aqw]
    conv=>lhs;rw[q]
    rw[ags (by omega)];rw[show ops.size-1-ops.toList.dropLast.length=0 by omega];rfl
   refine azX (wpIn_region ?_);rw[D];simp only[wC]at i;cases b:fa X C xs fr E with
   |none=>rw[b]at i;cases i
   |some k=>
   refine Pd hC hg [ops.size-1] _ _ xs Pj wB hd G E w fr a k _ hw he hm b (λl w1 F f=>?_) (λe l w1 F f=>?_)
   ·obtain⟨ex,⟨e1,ms⟩,t⟩:=k;simp only at F;subst F;obtain⟨G1,q1,q2,S,q4,q5,q6⟩:=f;rw[b]at i;cases ms with
    |cons m ms=>cases i
    |nil=>
    simp only at i;split at i
    case isFalse=>cases i
    rename_i z;obtain⟨r',Po,Bb⟩:=agj.1 i;cases Bb;have Pp:l.defers=[]:=q4;have aqH:=x8 S has;have I:=cG S hfo;simp only[wpOpsIn,H];have Ph:Region.wanted o (yielded ops l.tmps)=true:=by simp[Region.wanted,gA]
    rw[aez Ph];refine⟨λ_ _=>trivial,?_⟩;have DJ:o.semAt (W none).round l.eval=execOp l.eval o:=Oper.semAt_none _ _;rw[DJ];have aqI: ∀d,(∀w:World,(Deferred.ofValue (l.eval fop) (cc.args.map l.eval)).run P w= .ok d w)->(execOp l.eval o).run P w1= .ok (.defer d) w1:=by
     intro d u;unfold execOp;simp only[pC,resolve,Pg];rw[Sem.run_bind,u w1];rfl
    have aqJ: ∃d,∀w:World,(Deferred.ofValue (l.eval fop) (cc.args.map l.eval)).run P w= .ok d w:=by
     cases htv:f'.get e1<;>rw[htv]at z<;>simp only[AV.IE,agm]at z;rw[htv]at I;simp only[an]at I;obtain⟨f0,fs0,Pq,hfe,_⟩:=I;rw[hfe];exact⟨_,λw=>rfl⟩
    obtain⟨d,u⟩:=aqJ;rw[aqI d u];simp only[Oper.uponIn,Pf,Act.put,Pp];refine wj hC hg hX gQ hL (r:=none) (c7:=[d]) rfl y rest M G1 t w1 ⟨e1,[]⟩ {l with defers:=[d]} r _ q2 S rfl Po (λe a2 R p=>?_);refine hD _ _ rfl _ _ G1 q1 I (by simpa using aqH) d u e a2 R ?_;obtain⟨G2,Z,Y,V,U,T,K⟩:=p;exact⟨G2,Z,Y,V,U,q5.trans T,K⟩
   ·rw[b]at i;obtain⟨ex,⟨e1,ms⟩,t⟩:=k;have N:some (none,(ex,⟨e1,ms⟩,t))=some (O,r):=by
     cases ex with
     |normal=>exact absurd rfl F
     |_=>exact i
    cases N;have N:=hN rfl e l w1 f;obtain⟨G2,Z,Y,V,U,T,K⟩:=f;cases e<;>first|exact N| (exfalso;cases ex<;>simp[fZ]at K;exact F rfl)
  ·split at h
   ·rename_i px pd' hx hy;cases h;simp only[wC]at i;cases b:bm X C L bU false px fr E with
    |none=>rw[b]at i;cases i
    |some k=>
    rw[b]at i;obtain⟨ex,ID,t⟩:=k;by_cases F:ex= .normal
    ·subst F;simp only at i;refine azX (wj hC hg hX gQ hL (r:=none) rfl x px hx G E w fr a _ _ hw he hm b (λe l w1 f=>?_));obtain⟨G1,q1,q2,S,q4,q5,q6⟩:=f;cases e<;>simp[fZ]at q6;refine ihy pd' hy G1 t w1 ID l O r Q q2 S q4 i (λaqM e a2 R hh=>hN aqM e a2 R (hh.trans q1 q5)) (λtv J u A s G2 hG2 hv hl d hd e a2 R p=>?_);refine hD tv J u A s G2 (Gh.le_trans q1 hG2) hv hl d hd e a2 R ?_;obtain⟨G3,Z,Y,V,U,T,K⟩:=p;exact⟨G3,Z,Y,V,U,q5.trans T,K⟩
    ·have N:some (none,(ex,ID,t))=some (O,r):=by
       cases ex with
       |normal=>exact absurd rfl F
       |_=>exact i
     cases N;refine azX (wj hC hg hX gQ hL (r:=none) rfl x px hx G E w fr a _ _ hw he hm b (λe l w1 f=>?_));have N:=hN rfl e l w1 f;obtain⟨G2,Z,Y,V,U,T,K⟩:=f;cases e<;>first|exact N| (exfalso;cases ex<;>simp[fZ]at K;exact F rfl)
   ·cases h
 |_=>intro pd h;simp[D4]at h
omit hC hX gQ hL in
theorem aqO{fn:Func}{G:Gh}{E:AS}{w':World}{r:Ex×Fr×AS}{k:aX}{e:Exit}{a:Act}(g:pn P fn.results.toList=some pf.results)(x:ba P B ay G E w)
  (h:leave X E.heap.length E.lo pf (some r)=some k) (D:mB P B ay [] G {heap:=E.heap,lo:=none} fn.ntmps r e a w'):bodyPostM (W none) 0 P fn (Ends P B ay G E k) e a w':=by
 obtain⟨F,u,t,z,s,q,j⟩:=D;obtain⟨ex,fr,E'⟩:=r;have f:qI X E.heap.length E.lo pf fr E'=some k->LeavesInM (W none) 0 P fn a.tmps (Ends P B ay G E k) a.defers .returning w':=by
  intro h;unfold qI at h;split at h
  ·rename_i d i;split at h
   ·rename_i v A;cases h;refine ym (by simp) fr.marks a.defers E' d w' s t i (λl b=>?_);obtain⟨v',e1,y⟩:=DB hg b z g A;refine⟨v',e1,?_⟩;obtain⟨c,p,o,n,m⟩:=yf x u b (q.trans (yl _ _ _ i)) y;exact⟨c,p,o,n,m⟩
   ·cases h
  ·cases h
 cases ex with
 |normal=>cases e<;>simp[fZ]at j;exact f h
 |ret=>cases e<;>simp[fZ]at j;exact f h
 |exit id=>simp[leave]at h
 |panic v=>
  cases e<;>simp[fZ]at j;rename_i chain;obtain⟨v',rfl,rv⟩:=j;simp only[leave]at h;split at h
  ·rename_i d i;cases h;refine ym (by simp) fr.marks a.defers E' d w' s t i (λl b=>?_);obtain⟨c,p,o,n,m⟩:=yf x u b (q.trans (yl _ _ _ i)) rv;exact⟨c,v',rfl,p,o,n,m⟩
  ·cases h
theorem aqP{R:pD}(hR:Pm P R){fn:Func}{pd:uL}{rows:Bool}(N:P.funcs[f]?=some fn)(n:A9 P rows fn=some pd):gB P B ay f (wD X C L R f pd):=by
 intro args E cr h G w l hw hl;unfold A9 at n;split at n
 case h_2=>grind
 rename_i c hb;split at n
 case h_2=>grind
 rename_i bd rs D y;split at n
 case isFalse=>grind
 rename_i aCa;cases n;unfold wD at h;split at h
 case isFalse=>cases h
 rename_i q;simp only at q h;have x: ¬fn.name= "runtime.NumGoroutine" :=by grind
 have O: (callFunc f l).run P w= .ok (.enter f l) w:=by
  simp[callFunc,aq6,N,x,hb]
 rw[O];show CallsIn (W none) 0 P f l w _;have he:cN G fn.ntmps (dj args) (l++Array.replicate (fn.ntmps-l.size) undef):=HK hl q;cases t:wC X C L f bd {env:=dj args,marks:=[]} {E with lo:=none}with
 |none=>rw[t]at h;cases h
 |some res=>
 obtain⟨dr,r⟩:=res;rw[t]at h;refine ax3 N hb trivial (aqE hC hg hX gQ hL c bd D G {E with lo:=none} w {env:=dj args,marks:=[]} _ dr r _ (hw.lo none) he rfl t ?_ ?_) rfl
 ·rintro rfl e a w' hr;exact aqO hg (pf:={ntmps:=fn.ntmps,results:=rs,body:=.skip}) y hw h hr
 ·rintro tv S rfl tv' m G1 hG1 hv IF d hd e a w' ⟨G',V,q2,q3,q4,q5,U⟩;obtain⟨ex,fr,E'⟩:=r;simp only[Pl]at h;have ai: ∀ (rv:AV) (j:AS) (u:FrameMode),dN E' fr.marks=some j->adL G' u rv->u≠ .run->
    ((Ba X C L R tv S rv j).bind λs=>(fL X s fr.env rs).map λv=>aX.ret (finish E.heap.length E.lo v s).1 (finish E.heap.length E.lo v s).2)=some cr->
    LeavesInM (W none) 0 P fn a.tmps (Ends P B ay G E cr) a.defers u w':=by
   intro rv j u o A hu IG;refine ym hu fr.marks a.defers E' j w' q4 q2 o (λZ I=>?_);obtain⟨s,p,M⟩:=anf.1 IG;obtain⟨v,hv1,rfl⟩:=agj.1 M;unfold Ba at p;split at p
   case h_2=>cases p
   rename_i g first cap
   obtain⟨pr,hpr,Bb⟩:=anf.1 p;obtain⟨aoN,Q,z,b⟩:=hR g pr hpr;have hgb: ∃Y,Q.body=some Y/\ ¬Q.name= "runtime.NumGoroutine" :=by
    unfold A8 at b;split at b
    case h_2=>cases b
    rename_i Y F;split at b
    case h_2=>cases b
    split at b
    case isFalse=>cases b
    rename_i hn;exact⟨Y,F,by simpa using hn⟩
   obtain⟨Y,F,hgn⟩:=hgb;have J:=hv;simp only[an,m9]at J;obtain⟨f',i,k,rfl,rfl,hf,hc⟩:=J;have yt:d={target:=.fn (.func g) k,args:=i++m}:=by
    have h1:=hd w;have h2: (Deferred.ofValue (.func (.func g) i k) m).run P w= .ok {target:=.fn (.func g) k,args:=i++m} w:=rfl;rw[h2]at h1;simpa using h1.symm
   subst yt;have H:aG G' (first++S++cap) (i++m++k).toList:=by
    simp only[Array.toList_append];exact((hf.mono V).append (IF.mono V)).append (hc.mono V)
   refine⟨hu,.inr ⟨λh=>by simp[W]at h,.func g,k,g,i++m++k,rfl,?_,λ_ _=>trivial,?_⟩⟩
   ·show(callFunc g (i++m++k)).run P Z=_;simp[callFunc,aq6,z,hgn,F]
   ·refine(aqp hC hg hX gQ hL z b Bb I H A).mono ?_;rintro e2 u2 w3 ⟨K,v3,G3,rfl,g1,g2,g3⟩;show LeavesInM (W none) 0 P fn a.tmps _ [] (settle u2) w3;rw[K];obtain⟨v',e1,r1⟩:=DB hg g2 (q3.mono g1) y hv1;refine⟨v',e1,?_⟩;obtain⟨T,p1,p2,p3,p4⟩:=yf hw (Gh.le_trans hG1 (Gh.le_trans V g1)) g2 ((q5.trans (yl _ _ _ o)).trans g3) r1;exact⟨T,p1,p2,p3,p4⟩
  cases ex with
  |normal=>
   cases e<;>simp[fZ]at U;cases o:dN E' fr.marks with
   |none=>rw[o]at h;cases h
   |some j=>rw[o]at h;exact ai .eV j .returning o (.inl ⟨rfl,rfl⟩) (by simp) h
  |ret=>
   cases e<;>simp[fZ]at U;cases o:dN E' fr.marks with
   |none=>rw[o]at h;cases h
   |some j=>rw[o]at h;exact ai .eV j .returning o (.inl ⟨rfl,rfl⟩) (by simp) h
  |exit id=>
   cases o:dN E' fr.marks<;>rw[o]at h<;>cases h
  |panic v=>
   cases e<;>simp[fZ]at U;obtain⟨v',rfl,rv⟩:=U;cases o:dN E' fr.marks with
   |none=>rw[o]at h;cases h
   |some j=>rw[o]at h;exact ai v j (.panicking [{v:=v',recovered:=false}]) o (.inr ⟨v',rfl,rv⟩) (by simp) h
end
def adR:yk Lw:=λ_ _ _ _ h=>DV h
def Pr(hg:fC X B ay)(hX:py P X)(e: ∀f p,X.cg f=some p->gB P B ay f p){R:pD}(d:Pm P R){fn:Func}{c:uL}{rows:Bool}(b:P.funcs[f]?=some fn)(a:A9 P rows fn=some c):
 gB P B ay f (wD X (D X) Lw R f c):=aqP (OO hg hX e) hg hX (Ox hg) adR d b a
end
def aP(N:Nat)(H:List ae)(v:AV)(sz:Nat)(ty:TypeId)(af:List lA):Prop:=
 (∀el∈af,el.length=sz)/\ ((v= .aq/\af=[])\/ ∃id aj,N<=id/\v= .ref id aj sz 0 af.length false/\H[id]?=some (.row aj sz ty af))
def bD(v:AV)(af:List lA):AV:=match v with
 |.aq=>.aq
 |_=>.sl af false
section
variable{N:Nat}{H H':List ae}{v:AV}{sz bytes:Nat}{ty:TypeId}{af ys:List lA}{lo:oN}
theorem aP.aq:aP N H .aq sz ty []:=⟨by simp,.inl ⟨rfl,rfl⟩⟩
def aP.mono(h:aP N H v sz ty af)(b:H<+:H'):aP N H' v sz ty af:=by
 obtain⟨c,a⟩:=h;refine⟨c,?_⟩;rcases a with a| ⟨id,aj,f,d,e⟩
 ·grind
 ·obtain⟨L,rfl⟩:=b
  grind
def aP.ext{L:List ae}(h:aP N H v sz ty af):aP N (H++L) v sz ty af:=h.mono (aok _ _)
def aP.rd(h:aP N H v sz ty af):Rd ⟨H,lo⟩ v sz af:=by
 obtain⟨c,b⟩:=h;rcases b with⟨rfl,rfl⟩| ⟨id,aj,d,rfl,a⟩
 ·exact .aq
 ·refine⟨trivial,?_,c⟩;simp only[elems,a,azs]
  grind
def aqV{id:Nat}{o:ae}(a:H0<+:H)(b:H0.length<=id):H0<+:H.set id o:=by
 obtain⟨L,rfl⟩:=a
 grind
def aP.append(h:aP N H v sz ty af)(b:H0<+:H)(o:H0.length=N)(i:0<sz)(k: ∀el∈ys,el.length=sz)(l:cb ys=0)(f: (af.length+ys.length)*bytes<=room):
  ∃v' H',dv ⟨H,lo⟩ ty sz bytes v ys=some (v',⟨H',lo⟩)/\aP N H' v' sz ty (af++ys)/\H0<+:H'/\H.length<=H'.length/\ (∀id,id<N->H'[id]?=H[id]?):=by
 have e:0<sz/\ys.all (λel=>el.length==sz)=true:=⟨i,by grind⟩;obtain⟨q,g⟩:=h;have p: ∀el∈af++ys,el.length=sz:=by grind
 by_cases he:ys.length=0
 ·have d:ys=[]:=ajM.1 he;subst d;refine⟨v,H,?_,by simpa using⟨q,g⟩,b,ae0 _,λ_ _=>rfl⟩;unfold dv
  grind
 rcases g with⟨rfl,rfl⟩| ⟨id,aj,m,rfl,a⟩
 ·refine⟨.ref H.length 0 sz 0 ys.length false,H++[.row 0 sz ty ys],?_,⟨by simpa using k,.inr ⟨H.length,0,?_,by simp,by simp⟩⟩,b.trans (aok _ _),by simp,λid n=>?_⟩
  ·unfold dv;rw[aez e];simp only[aeu he];rw[aez (by simpa using f)];rfl
  ·rw[<-o];exact b.length_le
  ·rw[acK (by have:=b.length_le;omega)]
 ·have c:=(adN.1 a).1;refine⟨.ref id (aj+1) sz 0 (af.length+ys.length) false,H.set id (.row (aj+1) sz ty (af++ys)),?_,⟨p,.inr ⟨id,aj+1,m,by simp,by simp[c]⟩⟩,aqV b (by omega),by simp,λj r=>?_⟩
  ·unfold dv;rw[aez e];simp only[a];rw[aez ⟨trivial,trivial,trivial,trivial,by omega,f⟩,aeu he];simp[AS.set,l]
  ·rw[acG (by omega)]
def pE{K:AV->AS->Prop}(h:aP N H v sz ty af)(d:H0<+:H)(f:H0.length=N)(a:0<sz)(b: ∀el∈ys,el.length=sz)(c:cb ys=0)(e: (af.length+ys.length)*bytes<=room)
  (g: ∀v' H',aP N H' v' sz ty (af++ys)->H0<+:H'->K v' ⟨H',lo⟩):sg (dv ⟨H,lo⟩ ty sz bytes v ys) K:=by
 obtain⟨v',H',k,j,i,_⟩:=h.append d f a b c e;rw[k];exact g v' H' j i
def aP.Ps(h:aP N H v sz ty af)(w:N<=H.length)(k:0<sz)(l: ∀el∈ys,el.length=sz)(m:cb ys=0)(q: (af.length+ys.length)*bytes<=room):
  ∃v' H',dv ⟨H,lo⟩ ty sz bytes v ys=some (v',⟨H',lo⟩)/\aP N H' v' sz ty (af++ys)/\H.length<=H'.length/\ (∀id,id<N->H'[id]?=H[id]?)/\ (∀ (id:Nat) o,(∀a d,o≠ .row a sz ty d)->H[id]?=some o->H'[id]?=some o):=by
 have n:H.take N<+:H:=List.take_prefix _ _;obtain⟨v',H',b,t,x,s,r⟩:=h.append n (by grind) k l m q;refine⟨v',H',b,t,s,r,λid o f e=>?_⟩;have p:=(adN.1 e).1;unfold dv at b;have i:0<sz/\ys.all (λel=>el.length==sz)=true:=⟨k,by grind⟩;rw[aez i]at b;rcases h.2 with⟨rfl,rfl⟩| ⟨j,aj,u,rfl,c⟩
 ·simp only at b;split at b
  ·grind
  ·split at b
   ·simp only[AS.push,adP,aqs,AS.mk.injEq]at b
    grind
   grind
 ·simp only[c]at b;split at b
  ·split at b
   ·simp only[adP,aqs,AS.mk.injEq]at b;rw[<-b.2.1];exact e
   ·simp only[agm,ajc,AS.set,adP,aqs,AS.mk.injEq]at b;rw[<-b.2.1];have g:j≠id:=by rintro rfl;rw[c]at e;cases e;exact f _ _ rfl
    rw[acG g];exact e
  ·cases b
def aqW{K:AV->AS->Prop}(h:aP N H v sz ty af)(i:H0<+:H)(j:H0.length=N)(b:0<sz)(c: ∀el∈ys,el.length=sz)(e:cb ys=0)(f: (af.length+ys.length)*bytes<=room)
  (k: ∀v' H',aP N H' v' sz ty (af++ys)->H0<+:H'->H.length<=H'.length->(∀ (id:Nat) o,(∀a d,o≠ .row a sz ty d)->H[id]?=some o->H'[id]?=some o)->K v' ⟨H',lo⟩):sg (dv ⟨H,lo⟩ ty sz bytes v ys) K:=by
 obtain⟨v',H',g,n,m,q,l⟩:=h.Ps (by grind) b c e f;obtain⟨v2,r,g1,_,p,_⟩:=h.append i j b c e f;rw[g]at g1;cases g1;rw[g];exact k v' H' n p m l
def IH{E:AS}:freeze E n (k+1) (.ax vs)=if(AV.ax vs).refs<=n then some (.ax vs)else match iN E n k vs with|some a=>some (.ax a)|none=>none:=by
 rw[freeze]
 grind
theorem Pt{E:AS}{n k:Nat}: ∀l:lA,aI l<=n->iN E n (k+2) l=some l
 | [],_=>by rw[iN]
 |b::bs,a=>by
  simp only[aI]at a;rw[iN,yF (by omega)];rw[Pt bs (by omega)]
theorem Pu{E:AS}{n k:Nat}: ∀af:List lA,cb af<=n->rY E n (k+3) af=some af
 | [],_=>by rw[rY]
 |a::as,h=>by
  simp only[cb]at h;rw[rY,Pt a (by omega)];rw[Pu as (by omega)]
theorem aP.freeze(h:aP N H v sz ty af)(c:cb af<=N):Den.freeze ⟨H,lo⟩ N (k+4) v=some (bD v af):=by
 obtain⟨f,d⟩:=h;rcases d with⟨rfl,rfl⟩| ⟨id,aj,e,rfl,a⟩
 ·exact yF (ae4 _)
 ·have b: ¬(AV.ref id aj sz 0 af.length false).refs<=N:=by simp only[AV.refs];omega
  rw[Den.freeze,aeu b];simp only[a];rw[aez ⟨trivial,trivial,by omega⟩];simp only[amR,agk];rw[Pu af c];rfl
theorem aP.D5(h:aP N H v sz ty af)(a:cb af<=N):finish N lo v ⟨H,none⟩=(bD v af,⟨H.take N,lo⟩):=
 Ij rfl (h.freeze a)
def aP.adS{b:AV}(h:aP N H v sz ty af)(d:cb af<=N)(e:b.refs<=N):finish N lo (.ax [v,b]) ⟨H,none⟩=(.ax [bD v af,b],⟨H.take N,lo⟩):=by
 refine Ij rfl ?_;rw[IH];have e1:iN ⟨H,none⟩ N 11 [v,b]=some [bD v af,b]:=by
  rw[iN,h.freeze d];rw[iN,yF e];rw[iN]
 rw[e1];split
 ·rename_i hle;have a:bD v af=v:=by
   obtain⟨i,f⟩:=h;rcases f with⟨rfl,rfl⟩| ⟨id,aj,g,rfl,c⟩
   ·rfl
   ·simp only[AV.refs,aI]at hle;omega
  rw[a]
 ·rfl
def aP.pG(h:aP N H v sz ty af):Rv (bD v af) sz af:=by
 obtain⟨c,b⟩:=h;rcases b with⟨rfl,rfl⟩| ⟨id,aj,d,rfl,a⟩
 ·exact .aq
 ·exact .sl c
theorem bB{α:Type}{g:α->lA}(a: ∀x,aI (g x)=0): ∀l:List α,cb (l.map g)=0
 | []=>rfl
 |x::xs=>by simp only[amF,cb,a,bB a xs];rfl
def aqX{E:AS}(h:af.all (λel=>el.length==sz)=true):Den.elems E sz (.sl af c)=some af:=by
 simp only[Den.elems];grind
end
def Pv{k:IntKind}{a b:Int}{c:List EK}{as bs:lA}:iM (.int::c) (.int k a::as) (.int k b::bs)=if a=b then iM c as bs else some false:=by
 simp only[iM,qC,ahJ]
 grind
def adT{a b:Bool}{c:List EK}{as bs:lA}:iM (.bool::c) (.bool a::as) (.bool b::bs)=if a=b then iM c as bs else some false:=by
 simp only[iM,qC]
 grind
theorem adU:iM [] [] []=some true:=rfl
def adV{N:Nat}{H:List ae}(b: ¬v.refs<=N)(a:freeze ⟨H,none⟩ N 12 v=none):finish N lo v ⟨H,none⟩=(v,⟨H,lo⟩):=by
 rw[yH,aeu b,a];rfl
def Pw{N id o:Nat}{E:AS}(h:N<=id):freeze E N k (.ptr id o)=none:=by
 cases k with
 |zero=>rw[freeze]
 |succ k=>
  have a: ¬(AV.ptr id o).refs<=N:=by simp only[AV.refs];omega
  simp[freeze,a]
def D6{X:Ctx}{p:lA->AS->Option aX}{args:lA}{E:AS}{a:aX}(b:X.cg f=some p)(h:p args E=some a):D X (.fn (.func f) [] []) args E=some a:=by
 refine H9 ?_;simp only[step,b,ah1,agB];exact h
theorem adW{cs:lA}:eG cs []=some cs:=rfl
theorem adX{cs:lA}{off:Nat}{r:List (Nat×Nat×AV)}:eG cs ((off,n,v)::r)=if v.cq=false/\v.cells.length=n/\off+n<=cs.length then eG (aJ cs off v.cells) r else none:=rfl
theorem adY{len:Nat}{a:List (Nat×Nat×AV)}:OX z len a=(eG (List.replicate len z).flatten a).map λcs=>.sl (chunks z.length len cs) true:=rfl
theorem adZ{E:AS}{ty:TypeId}{len:Nat}{a:List (Nat×Nat×AV)}:OY E ty z len a=(eG (List.replicate len z).flatten a).map λcs=>(.ref E.heap.length 0 z.length 0 len false,E.push (.row 0 z.length ty (chunks z.length len cs))):=rfl
theorem ad0{a:List (Nat×Nat×AV)}:OW z a=(eG z a).map .agg:=rfl
theorem ad1{cs:lA}:chunks sz 0 cs=[]:=rfl
theorem ad2{cs:lA}:chunks sz (k+1) cs=cs.take sz::chunks sz k (cs.drop sz):=rfl
theorem ad3{E:AS}:Den.elems E sz (.sl af c)=if af.all (λel=>el.length==sz)then some af else none:=rfl
theorem ad4{X:Ctx}{id off:Nat}{k:IntKind}{a:Int}:uC X n sz (.ptr id off) (.int k a)=if 0<=a/\a<n then some (.ptr id (off+a.toNat*sz))else none:=rfl
theorem ad5{X:Ctx}{id off:Nat}{k:IntKind}{a:Int}:uC X n sz (.dn id aj j off) (.int k a)=if 0<=a/\a<n then some (.dn id aj j (off+a.toNat*sz))else none:=rfl
theorem ad6{X:Ctx}{off:Nat}{cs:lA}{k:IntKind}{a:Int}:uC X n sz (.fi cs off) (.int k a)=if 0<=a/\a<n then some (.fi cs (off+a.toNat*sz))else none:=rfl
theorem ad7{X:Ctx}{g:Nat}{k:IntKind}{a:Int}:uC X n sz (.dL g) (.int k a)=if 0<=a/\a<n then(match X.dL g with|some cs=>some (.fi cs (a.toNat*sz))|none=>none)else none:=rfl
theorem ad8{off:Nat}{cs:lA}:Yu ag n off (.agg cs)=Den.part ag n cs off:=rfl
theorem ad9:DY (.ax vs) i=vs[i]?:=rfl
theorem aea{E:AS}:fX E .sl (.sl af c)=some (.int .i64 af.length):=rfl
theorem aeb{E:AS}:fX E .sl .aq=some (.int .i64 0):=rfl
theorem aec{E:AS}{id v z o:Nat}:fX E .sl (.ref id v z o n c)=some (.int .i64 n):=rfl
theorem aed{E:AS}{id off:Nat}:fX E .sl (.fw id sz off n)=some (.int .i64 n):=rfl
theorem Px{id off:Nat}{k:IntKind}{a:Int}:kg m (.fw id sz off n) (.int k a)=if 0<=a/\a<n/\sz=m then some (.ptr id (off+a.toNat*m))else none:=rfl
def aee{X:Ctx}{id off:Nat}{b:Int}:qD X n sz (.ptr id off) none (some (.int k' b))=if 0<=b/\b<=n then some (.fw id sz off b.toNat)else none:=by
 simp only[qD,gv,lS]
 grind
theorem aef{H:List ae}{lo:oN}{id sz m off n:Nat}:Den.elems ⟨H,lo⟩ m (.fw id sz off n)=match H[id]? with
 |some (.box cs _)=>if sz=m/\off+n*m<=cs.length then some (chunks m n (cs.drop off))else none
 |_=>none:=rfl
theorem aeg:wb []=some []:=rfl
theorem aeh{n:Int}{r:List lA}:wb ([.int .u8 n]::r)=(wb r).map (UInt8.ofNat n.toNat:: ·):=rfl
def aei{H:List ae}{x:ae}(h:H.length=n)(a:m=n+1): (H++[x]).take m=H++[x]:=by grind
def dT{h:Decidable True}: @decide True h=true:=by simp
def dF{h:Decidable False}: @decide False h=false:=by simp
def O1:=gG @adW<|gG @adX<|gG @adY<|gG @adZ<|gG @ad0<|gG @ad1<|gG @ad2<|gG @ad3<|gG @ad8<|gG @aed<|gG @aea<|gG @aeb<|gG @aec<|gG @Px<|gG @aee<|gG @aef<|gG @aeg<|gG @aeh<|gG @dT<|gG @dF<|gG @List.getD_cons_zero.{0}<|gG @List.getD_cons_succ.{0}<|gG @ad4<|gG @ad5<|gG @ad6<|gG @ad7<|gG @Nat.mul_one<|gG @ad9<|gG @ark.{0}<|gG @List.replicate_zero.{0}<|gG @aoD.{0}<|gG @List.flatten_nil.{0}<|gG @atS.{0} @List.all_nil.{0}
section
variable{X:Ctx}{n:Nat}{lo:oN}{e:Env}{E:AS}{R:aX->Prop}{a b c d m k:Nat}{ag ah:Bool}
def oh(n:Nat)(lo:oN)(R:aX->Prop):AV->AS->Prop:=λv E=>R (.ret (finish n lo v E).1 (finish n lo v E).2)
theorem aej:oh n lo R v E=R (.ret (finish n lo v E).1 (finish n lo v E).2):=rfl
def Bc:dP X n lo [.cell a ag m] R .ret ⟨e,[]⟩ E=okV (cm X E ag m (e a)) (oh n lo R) E:=by
 simp only[yE,yG,fL,ki,pa];cases h:cm X E ag m (e a)with
 |none=>simp[okV,h]
 |some v=>simp[okV,oh,h]
def pJ:dP X n lo [.cell a ag m,.t b] R .ret ⟨e,[]⟩ E=okV (cm X E ag m (e a)) (λv E=>oh n lo R (.ax [v,e b]) E) E:=by
 simp only[yE,yG,fL,ki,pa];cases h:cm X E ag m (e a)with
 |none=>simp[okV,h]
 |some v=>simp[okV,oh,h]
def aek:dP X n lo [.cell a ag m,.t b,.t c] R .ret ⟨e,[]⟩ E=okV (cm X E ag m (e a)) (λv E=>oh n lo R (.ax [v,e b,e c]) E) E:=by
 simp only[yE,yG,fL,ki,pa];cases h:cm X E ag m (e a)with
 |none=>simp[okV,h]
 |some v=>simp[okV,oh,h]
def ael:dP X n lo [.cell a ag m,.cell b ah k] R .ret ⟨e,[]⟩ E=okV (cm X E ag m (e a)) (λv E=>okV (cm X E ah k (e b)) (λu E=>oh n lo R (.ax [v,u]) E) E) E:=by
 simp only[yE,yG,fL,ki,pa];cases h:cm X E ag m (e a)with
 |none=>simp[okV,h]
 |some v=>
  cases f:cm X E ah k (e b)with
  |none=>simp[okV,h,f]
  |some u=>simp[okV,oh,h,f]
def Q1:=gG @aej<|gG @Bc<|gG @pJ<|gG @aek @ael
end
section
variable{X:Ctx}{R:pD}
def qU(X:Ctx)(R:pD)(tv:AV)(fE:lA)(rv:AV)(E:AS)(K:AS->Prop):Prop:= ∃a,Ba X (D X) Lw R tv fE rv E=some a/\K a
def dK(X:Ctx)(R:pD)(n:Nat)(lo:oN)(res:List RV)(P:aX->Prop)(tv:AV)(fE:lA):bZ
 |.normal,fr,E=> ∃a,dN E fr.marks=some a/\qU X R tv fE .eV a λb=>dP X n lo res P .ret ⟨fr.env,[]⟩ b
 |.ret,fr,E=> ∃a,dN E fr.marks=some a/\qU X R tv fE .eV a λb=>dP X n lo res P .ret ⟨fr.env,[]⟩ b
 |.panic v,fr,E=> ∃a,dN E fr.marks=some a/\qU X R tv fE v a λb=>dP X n lo res P .ret ⟨fr.env,[]⟩ b
 |.exit _,_,_=>False
section
variable{n:Nat}{lo:oN}{res:List RV}{P:aX->Prop}{tv:AV}{fE:lA}{e:Env}{E:AS}{v:AV}
def D7:dK X R n lo res P tv fE .ret ⟨e,[]⟩ E=qU X R tv fE .eV E λa=>dP X n lo res P .ret ⟨e,[]⟩ a:=by
 simp[dK,dN]
def oi:dK X R n lo res P tv fE (.panic v) ⟨e,[]⟩ E=qU X R tv fE v E λa=>dP X n lo res P .ret ⟨e,[]⟩ a:=by
 simp[dK,dN]
end
def II(X:Ctx)(R:pD)(f:FuncId)(n:Nat)(lo:oN)(res:List RV)(P:aX->Prop)(k6:ao)(fE:List ao)(rest:PC):bZ:=λex fr E=>
 ex= .normal/\fr.marks=[]/\ (k6.get fr.env).IE=true/\wp X f false rest ⟨fr.env,[]⟩ E (dK X R n lo res P (k6.get fr.env) (fE.map (·.get fr.env)))
def Py(X:Ctx)(R:pD)(f:FuncId)(n:Nat)(lo:oN)(res:List RV)(P:aX->Prop)(ops:List aT)(k6:ao)(fE:List ao)(rest:PC):bZ:=λex fr E=>
 ex= .normal/\wp X f false (.aQ ops) fr E (II X R f n lo res P k6 fE rest)
section
variable{f:FuncId}{n:Nat}{lo:oN}{res:List RV}{P:aX->Prop}{ops:List aT}{k6:ao}{fE:List ao}{rest:PC}{e:Env}{fr:Fr}{E:AS}
def km:II X R f n lo res P k6 fE rest .normal ⟨e,[]⟩ E=((k6.get e).IE=true/\wp X f false rest ⟨e,[]⟩ E (dK X R n lo res P (k6.get e) (fE.map (·.get e)))):=by simp[II]
def kn:Py X R f n lo res P ops k6 fE rest .normal fr E=wp X f false (.aQ ops) fr E (II X R f n lo res P k6 fE rest):=by simp[Py]
end
def Pz(i:uL){k:PC}{ops:List aT}{k6:ao}{fE:List ao}{rest:PC}(y:i.body= .later k (.here ops k6 fE rest)){args:lA}{H:List ae}{P:aX->Prop}(w:Nat.ble args.length i.ntmps=true)
  (h: ∀n,H.length=n->wp X f false k ⟨dj args,[]⟩ ⟨H,none⟩ (Py X R f n lo i.results P ops k6 fE rest)): ∃m,wD X (D X) Lw R f i args ⟨H,lo⟩=some m/\P m:=by
 obtain⟨ex,fr,E,u,rfl,hw⟩:=h _ rfl;rw[OR]at hw;obtain⟨B,⟨j,t⟩,s,p,rfl,hm,x,d,c,g,o,q⟩:=hw;subst hm;have l:wC X (D X) Lw f i.body ⟨dj args,[]⟩ ⟨H,none⟩=some (some (k6.get j,fE.map (·.get j)),(d,c,g)):=by
  rw[y];simp only[wC,u,p,x,ahJ,o,agl]
 unfold wD;rw[aez (aoM w)];simp only[l,Pl];have key: ∀rv,d.Pk=some rv->(∃b,dN g c.marks=some b/\qU X R (k6.get j) (fE.map (·.get j)) rv b λa=>dP X H.length lo i.results P .ret ⟨c.env,[]⟩ a)->
   ∃m,(match d.Pk,dN g c.marks with
    |some rv,some b=>(Ba X (D X) Lw R (k6.get j) (fE.map (·.get j)) rv b).bind λa=>(fL X a c.env i.results).map λv=>aX.ret (finish H.length lo v a).1 (finish H.length lo v a).2
    |_,_=>none)=some m/\P m:=by
  rintro rv C ⟨b,J,a,I,A⟩;obtain⟨r,v,z,G,F⟩:=A;simp only[dN,adP]at z
  grind
 cases d with
 |normal=>exact key _ rfl q
 |ret=>exact key _ rfl q
 |panic v=>exact key _ rfl q
 |exit _=>trivial
def IJ{g:FuncId}{pr:wA}(c:R g=some pr){cap fE:lA}{rv:AV}{H:List ae}{K:AS->Prop}(b:Nat.ble (fE++cap).length pr.pf.ntmps=true)
  (h: ∀n,H.length=n->wp X g false pr.pf.body ⟨(dj (fE++cap)).set pr.dst rv,[]⟩ ⟨H,none⟩ (λex fr E=>fr.marks=[]/\ (ex= .normal\/ex= .ret)/\ ∃v,fL X E fr.env pr.pf.results=some v/\K (finish n lo v E).2)):
  qU X R (.fn (.func g) [] cap) fE rv ⟨H,lo⟩ K:=by
 obtain⟨ex,⟨e,ms⟩,E,i,hm,hex,v,j,d⟩:=h _ rfl;have a:=aoM b;refine⟨_,?_,d⟩;simp only[Ba,c,ao2,IC,ah1]
 grind
end
section
structure Ext(X X':Ctx):Prop where
 dL:X'.dL=X.dL
 fV:X'.fV=X.fV
 code:X'.code=X.code
 cg: ∀f,X'.cg f=X.cg f\/ (X.cg f=none/\X.code f=none)
variable{X X':Ctx}
def aqY(h:Ext X X'):cm X'=cm X:=by
 unfold cm;rw[h.dL]
def aem(h:Ext X X'){C:bE}(i:I)(e:Env)(E:AS):exec X' C i e E=exec X C i e E:=by
 obtain⟨g,j,c,m'⟩:=X';obtain⟨b,a,f,d⟩:=h;subst b a;cases i<;>rfl
theorem aen(h:Ext X X'){C:bE}: ∀ (os:List aT),fa X' C os=fa X C os
 | []=>by rfl
 |o::os=>by
  simp only[fa,aem h,aen h os]
theorem aeo(h:Ext X X'){C:bE}: ∀ (os:List (aT×lN)) (a:List FP),gy X' C a os=gy X C a os
 | [],a=>by rfl
 |o::os,a=>by
  simp only[gy,aem h,aeo h os]
def aqZ(h:Ext X X')(a:qH X v=true):qH X' v=true:=by
 unfold qH at a⊢;split at a
 ·rename_i f _ _;rw[h.code];rcases h.cg f with b| ⟨_,c⟩
  ·grind
  grind
 omega
theorem si(h:Ext X X'){C:bE}{L:eH}(e:eH.le L L)(bU:FuncId)(rd:Bool): ∀pc,qP (bm X C L bU rd pc) (bm X' C L bU rd pc)
 |.skip,_,_,_,d=>by trivial
 |.seq a b,fr,E,r,d=>by
  simp only[bm]at d⊢;split at d
  ·rename_i k;rw[si h e bU rd a _ _ _ k];exact si h e bU rd b _ _ _ d
  ·cases f:bm X C L bU rd a fr E with
   |none=>grind
   |some q=>
    rw[si h e bU rd a _ _ _ f]
    grind
 |.cond c a b,fr,E,r,d=>by
  simp only[bm]at d⊢;split at d
  ·rename_i t m;split at d
   ·rename_i i;rw[aez i];exact si h e bU rd a _ _ _ d
   ·rename_i i;rw[aeu i];exact si h e bU rd b _ _ _ d
  omega
 |.block id body,fr,E,r,d=>by
  simp only[bm]at d⊢;cases f:bm X C L bU rd body fr E with
  |none=>rw[f]at d;cases d
  |some q=>rw[si h e bU rd body _ _ _ f];rw[f]at d;exact d
 |.loop body,fr,E,r,d=>by
  simp only[bm]at d⊢;exact e _ _ (si h e bU rd body) _ _ _ d
 |.exit id,_,_,_,d=>by simpa only[bm]using d
 |.ret,_,_,_,d=>by simpa only[bm]using d
 |.aQ ops,fr,E,r,d=>by
  simp only[bm]at d⊢;rw[aen h];exact d
 |.uA ops,fr,E,r,d=>by
  simp only[bm]at d⊢;rw[aeo h];exact d
 |.ie g ps as bd,fr,E,r,d=>by
  simp only[bm]at d⊢;split at d
  ·cases d
  ·rename_i j;rw[aeu j];split at d
   ·rename_i l;rw[aez (aqZ h l)];exact d
   ·cases d
def aq0(h:Ext X X'){C:bE}{L:eH}(m:eH.le L L)(l:Nat)(args:lA)(E:AS)(r:aX)(c:lW X C L l args E=some r):lW X' C L l args E=some r:=by
 simp only[lW]at c⊢;split at c
 ·rename_i st j f env ps as bd s;split at c
  ·rename_i a;simp only[a,ahJ];split at c
   ·rename_i fr e n;rw[si h m _ _ _ _ _ _ n];simp only;split at c
    ·rename_i b p d g i je o;cases k:bm X C L f true bd fr (e.set l (.loop .busy b p d g i je) 0)with
     |none=>rw[k]at c;cases c
     |some q=>rw[si h m _ _ _ _ _ _ k];grind
    omega
   grind
  grind
 omega
theorem aep(h:Ext X X')(E:AS)(e:Env): ∀rs,ki X' E e rs=ki X E e rs
 | []=>rfl
 |r::rs=>by
  have:pa X' E e r=pa X E e r:=by
   cases r with
   |t i=>rfl
   |cell a ag n=>simp only[pa,aqY h]
  simp only[ki,this,aep h E e rs]
def aq1(h:Ext X X')(n:Nat)(lo:oN)(pf:PF)(r:jy):leave X' n lo pf r=leave X n lo pf r:=by
 have e1: ∀fr E,qI X' n lo pf fr E=qI X n lo pf fr E:=λfr E=>by
  simp only[qI,fL,aep h]
 rcases r with _| ⟨ex,fr,E⟩
 ·rfl
 ·cases ex<;>simp only[leave,e1]
def aq2(h:Ext X X'){C:bE}{L:eH}(d:eH.le L L):bE.le (step X C L) (step X' C L):=by
 intro v args E r b;unfold step at b⊢;split at b
 ·rename_i f first cap
  split at b
  ·rename_i p g;have:X'.cg f=some p:=by
    rcases h.cg f with q| ⟨q,_⟩
    ·grind
    grind
   grind
  ·split at b
   ·rename_i pf e;split at b
    ·rename_i a;have:X'.cg f=none:=by
      rcases h.cg f with q| ⟨_,q⟩
      ·grind
      grind
     rw[this,h.code,e];simp only;rw[aez a,aq1 h];cases c:bm X C L f false pf.body {env:=dj (first++args++cap),marks:=[]} {E with lo:=none}with
     |none=>rw[c]at b;cases b
     |some q=>rw[si h d _ _ _ _ _ _ c];grind
    grind
   grind
 ·exact aq0 h d _ _ _ _ b
 omega
theorem aeq(h:Ext X X'): ∀n,bE.le (iO X n) (iO X' n)
 |0=>λf args E r h=>by trivial
 |n+1=>by
  exact bE.le_trans (aq2 h (H7 n)) (XQ (aeq h n) (H7 n))
def aer(h:Ext X X'):bE.le (D X) (D X'):=λf a s r b=>by
 obtain⟨n,c⟩:=yy b;exact OJ (n:=n) _ _ _ _ (aeq h n _ _ _ _ c)
end
def sj(a:List (Nat×lB×Nat)):List (AV×AV):=a.map λx=>(.int .u8 x.1,.fn (.func x.2.2) [] [])
theorem PA{n:Int}: ∀l:List (AV×AV),(∀p∈l,∃m:Int,p.1= .int .u8 m)->eu (.int .u8 n) l=some ((l.find? λp=>match p.1 with|.int _ m=>n==m|_=>false).map (·.2))
 | [],_=>rfl
 | (k,v)::l,h=>by
   obtain⟨m,hm⟩:=h (k,v) (by simp);have a:=PA (n:=n) l (λp b=>h p (by grind));simp only[eu,o9,List.find?_cons]
   grind
theorem aes: ∀ {l:List (AV×AV)} {p q:AV×AV},(l.Pairwise λp q=>p.1≠q.1)->p∈l->q∈l->p≠q->p.1≠q.1
 |a::l,p,q,h,f,e,b=>by
  rw[aoB]at h;rcases agF.1 f with d|d
  ·grind
  ·rcases agF.1 e with c|c
   ·grind
   ·exact aes h.2 d c b
def aq3{α β:Type}{F:α->β}{l g:List β}(h:l.Perm g): ∀m:List α,m.map F=l-> ∃m':List α,m'.Perm m/\m'.map F=g:=by
 induction h with
 |nil=>simp
 |cons x _ j=>
  intro m hm;cases m with
  |nil=>grind
  |cons a m=>
   simp only[amF,azq]at hm;obtain⟨m',f,i⟩:=j m hm.2;exact⟨a::m',f.cons a,by grind⟩
 |swap x y l=>
  intro m hm
  match m,hm with
  |a::b::m,hm=>
   exact⟨b::a::m,.swap a b m,by grind⟩
 |trans _ _ e d=>
  intro m hm;obtain⟨m',f,i⟩:=e m hm;obtain⟨c,n,k⟩:=d m' i;exact⟨c,n.trans f,k⟩
def aq4{l e:List (AV×AV)}(h: ∀p∈l,∃m:Int,p.1= .int .u8 m)(o:l.Perm e)(u:l.Pairwise λp q=>p.1≠q.1){k:AV}{v:Option AV}(f:eu k l=some v):eu k e=some v:=by
 have w: ∀p∈e,∃m:Int,p.1= .int .u8 m:=λp j=>h p (o.mem_iff.2 j)
 cases l with
 |nil=>simp_all
 |cons a l=>
  obtain⟨m,hm⟩:=h a (by simp);obtain⟨z,r⟩:=a;simp only at hm;subst hm;cases k with
  |int q n=>
   by_cases t:q= .u8
   ·subst t;rw[PA _ h]at f;rw[PA _ w];rw[<-f]
    congr 2
    have hu: ∀p q:AV×AV,p∈((AV.int .u8 m,r)::l)->q∈((AV.int .u8 m,r)::l)->(match p.1 with|.int _ m=>n==m|_=>false)=true->(match q.1 with|.int _ m=>n==m|_=>false)=true->p=q:=by
     intro p q c b e1 d;obtain⟨g,y⟩:=h p c;obtain⟨s,x⟩:=h q b;have e3:p.1=q.1:=by grind
     by_cases i:p=q
     ·omega
     ·exact absurd e3 (aes u c b i)
    cases e1: ((AV.int .u8 m,r)::l).find? (λp=>match p.1 with|.int _ m=>n==m|_=>false)with
    |none=>grind
    |some p=>
     have g:=are e1;have t1:=List.find?_some e1;cases d:e.find? (λp=>match p.1 with|.int _ m=>n==m|_=>false)with
     |none=>
      rw[awB]at d;exact absurd t1 (d p (o.mem_iff.1 g))
     |some q=>
      have s:=o.mem_iff.2 (are d);have t2:=List.find?_some d;rw[hu q p s g t2 t1]
   ·exfalso;simp[eu,o9,t]at f
  |_=>exfalso;simp[eu,o9]at f
section
variable{P:Program}{W:World}
theorem aet{α β:Type}{f:α->Option β}: ∀ {l:List α} {r:List β},l.mapM f=some r->l.length=r.length/\ ∀ (i:Nat) a b,l[i]?=some a->r[i]?=some b->f a=some b
 | [],r,h=>by grind
 |x::l,r,h=>by
  rw[azT]at h;simp only[bind,anf,pure,adP]at h;obtain⟨y,e,d,c,rfl⟩:=h;obtain⟨j,g⟩:=aet c
  grind
def aq5{n:String}{d:DataW Unit}{g e:Nat}{ps rs:Array TypeId}{va:Bool}{a:List (Nat×lB×Nat)}(hfa:funcsAt P W n d)(hd:d.funcsOut= .map (a.map λx=>(.int .u8 x.1,.held x.2.1)))
  (hg:P.globalNamed n=some g) (ht: (P.globals[g]?).map (·.type)=some t) (hu:P.underlying t=some (.map k e)) (hk:P.underlying k=some (.int .u8)) (he:P.underlying e=some (.func ps rs va))
  (S: ∀x∈a,((List.range P.funcs.size).filter λf=>(P.funcs[f]?).any (·.name.toUTF8.data.toList==x.2.1))=[x.2.2]) (se: ∀x∈a,x.2.1≠[]) (D:a.Pairwise λx y=>x.1≠y.1):
  g<W.heap.size/\ ∃es' r ms clock,r<W.heap.size/\W.cell? ⟨g,0,none⟩=some (.map (some r))/\W.heap[r]?=some (.map ms clock)/\fN (G0 W.heap.size W) es' ms.toList/\ ∀k v,eu k (sj a)=some v->eu k es'=some v:=by
 obtain⟨g',t',cs,fuel,p,h1,h2,h3,u⟩:=hfa;obtain rfl:g'=g:=ajL (h1.symm.trans hg);obtain rfl:t'=t:=ajL (h2.symm.trans ht);rw[hd]at u;cases fuel with
 |zero=>simp[DataW.trod]at u
 |succ fuel=>
 unfold DataW.trod at u;rw[hu]at u;obtain⟨b,K⟩: ∃b,cs.toList=[.map (some b)]:=by
  split at u<;>simp_all
 rw[K]at u;simp only at u;split at u
 case h_2=>cases u
 rename_i es clock hb;split at u
 case isFalse=>cases u
 obtain⟨entries,hm,hs⟩:=anf.1 u;split at hs
 case isFalse=>cases hs
 rename_i aCc;simp only[adP,aqs,DataW.map.injEq]at hs;obtain⟨G,_⟩:=hs;obtain⟨E,IK⟩:=aet hm;have z: (entries.map (·.1)).Perm (a.map λx=>(Lit.int .u8 x.1,DataW.held x.2.1)):=by
  rw[<-G];exact(WideShapes.sorted_perm _).symm
 have B: ∀ (i:Nat) (m:MapEntry),es.toList[i]?=some m-> ∃x∈a,(entries.map (·.1))[i]?=some (Lit.int .u8 x.1,DataW.held x.2.1)/\m.key= .int .u8 x.1/\m.val= .func (.func x.2.2) #[] #[]:=by
  intro i m J;have I:i<entries.length:=by rw[<-E];exact(adN.1 J).1
  have B:=IK i m entries[i] J (adQ I);obtain⟨key,l,s⟩:=anf.1 B;have U:entries[i].1∈a.map λx=>(Lit.int .u8 x.1,DataW.held x.2.1):=z.mem_iff.1 (ago.2 ⟨entries[i],arj I,rfl⟩)
  obtain⟨x,C,q⟩:=ago.1 U;refine⟨x,C,by rw[agA,adQ I,agl,<-q],?_⟩;split at s
  case isFalse=>cases s
  rename_i A;obtain⟨y,F,N⟩:=agj.1 s;have IM:key= .int .u8 x.1:=by rw[<-N]at q;simp only[aqs]at q;exact q.1.symm
  have V:y.1= .held x.2.1:=by rw[<-N]at q;simp only[aqs]at q;exact q.2.symm
  constructor
  ·subst IM;unfold keyOf at l;rw[hk]at l;simp only at l;unfold mapKey at l;rw[hk]at l;split at l<;>simp_all
  ·have L:m.val.cells.toList=[m.val]:=by
     cases hv:m.val<;>first|rfl| (rw[hv]at A;simp[Value.formed,he]at A)
   rw[L]at F;obtain⟨y1,y2⟩:=y;simp only at V;subst V;cases H:x.2.1 with
   |nil=>exact absurd H (se x C)
   |cons c r=>
    rw[H]at F;have ho:=S x C;rw[H]at ho;exact func_of_trod he ho F
 obtain⟨w,R,Q⟩:=aq3 z.symm a rfl;have O:g'<W.heap.size:=by
  have hc:W.cell? ⟨g',0,none⟩=some (.map (some b)):=by rw[World.var?_cell hg h3,<-aqw,K];rfl
  unfold World.cell? at hc;cases hh:W.heap[g']? with
  |none=>rw[hh]at hc;cases hc
  |some o=>exact(amK.1 hh).1
 have Z: ∀x∈a,∀y∈a,x.1=y.1->x=y:=by
  intro x C y F e;obtain⟨i,J⟩:=atP C;obtain⟨j,Y⟩:=atP F;rw[List.pairwise_iff_getElem]at D;have hi1:=(adN.1 J).1;have X:=(adN.1 Y).1;rcases az9 i j with h|h|h
  ·have:=D i j hi1 X h;rw[(adN.1 J).2,(adN.1 Y).2]at this;exact absurd e this
  ·subst h;rw[J]at Y;cases Y;rfl
  ·have:=D j i X hi1 h;rw[(adN.1 J).2,(adN.1 Y).2]at this;exact absurd e.symm this
 refine⟨O,sj w,b,es,clock,(amK.1 hb).1,?_,hb,?_,?_⟩
 ·rw[World.var?_cell hg h3,<-aqw,K];rfl
 ·have hl':w.length=es.toList.length:=by
    have:=ahX List.length Q;simp only[ae3]at this;omega
  have key: ∀ (T:List (Nat×lB×Nat)) (M:List MapEntry),T.length=M.length->(∀ (i:Nat) x m,T[i]?=some x->M[i]?=some m->m.key= .int .u8 x.1/\m.val= .func (.func x.2.2) #[] #[])->fN (G0 W.heap.size W) (sj T) M:=by
   intro T
   induction T with
   |nil=>
    intro M hM _;cases M with
    |nil=>rfl
    |cons m M=>simp at hM
   |cons x T ih=>
    intro M hM hh;cases M with
    |nil=>simp at hM
    |cons m M=>
     obtain⟨e1,e2⟩:=hh 0 x m rfl rfl;refine⟨m,M,rfl,rfl,by rw[e1];rfl,by rw[e2];exact⟨.func x.2.2,#[],#[],rfl,rfl,rfl,rfl⟩,ih M (by simpa using hM) λi x' m' C hm=>hh (i+1) x' m' (by simpa using C) (by simpa using hm)⟩
  refine key w es.toList hl' λi x m C hm=>?_
  obtain⟨y,F,hy1,hy2,hy3⟩:=B i m hm;have e1: (entries.map (·.1))[i]?=some (Lit.int .u8 x.1,DataW.held x.2.1):=by
   rw[<-Q,agA,C];rfl
  rw[hy1]at e1;simp only[adP,aqs,Lit.int.injEq,azs]at e1;have e2:y.1=x.1:=by have:=e1.1;omega
  have:y=x:=Z y F x (R.mem_iff.1 (alL C)) e2;subst this;exact⟨hy2,hy3⟩
 ·intro k v hf;refine aq4 (λp hp=>?_) (R.symm.map _) ?_ hf
  ·obtain⟨x,_,rfl⟩:=ago.1 hp;exact⟨x.1,rfl⟩
  ·rw[aAC];refine D.imp λhab=>?_
   simp only[ne_eq,AV.int.injEq,azs];omega
end
section
variable{X:Ctx}
def arb{args:lA}{E:AS}{r:aX}(h:lW X (D X) Lw l args E=some r):D X (.fn (.yield l) [] []) args E=some r:=
 H9 (by trivial)
def Ex.code:Ex->PC
 |.ret=>.ret
 |.exit id=>.exit id
 |_=>.skip
end
section
structure YV(S:Type)where
 P:S->List ae->Prop
 row:S->oN
 cH:Nat->Prop
 c:Nat
structure YV.Ok{S:Type}(V:YV S):Prop where
 st: ∀s W W',V.P s W->(∀i,V.cH i\/V.row s=some i->W'[i]?=W[i]?)->V.P s W'
 lt: ∀s W r,V.P s W->V.row s=some r-> ∃v z t af,W[r]?=some (.row v z t af)
def YV.Fr{S:Type}(V:YV S)(s:S)(W a:List ae):Prop:=W.length<=a.length/\ ∀i,i<W.length-> ¬V.cH i->V.row s≠some i->a[i]?=W[i]?
def k7(c b:Nat)(lo ak:oN)(r a:oN):Prop:=(ak=lo/\a=r)\/ ∃j,c<=j/\j<b/\ak=cM lo j
variable{X:Ctx}
def IN(X:Ctx){S:Type}(V:YV S)(b:Nat)(y:AV)(x:lA)(s:S)(Q:Bool->S->Prop):Prop:=
 ∀W,V.P s W->b<=W.length-> ∀lo,∃c a d ak,D X y x ⟨W,lo⟩=some (.ret (.bool c) ⟨d,ak⟩)/\V.P a d/\V.Fr s W d/\ (V.row a=V.row s\/ ∃r,V.row a=some r/\W.length<=r)/\k7 V.c b lo ak (V.row s) (V.row a)/\Q c a
def uM(X:Ctx)(g:AV)(a:Nat)(G:List ae)(xs:List lA):Prop:=
 ∀ (S:Type) (V:YV S) (y:AV) (I:Nat->S->Prop) (J:S->Prop) (b:Nat),V.Ok->(∀i,V.cH i->i<b/\ ¬(a<=i/\i<a+G.length))->
   (∀j x s,xs[j]?=some x->I j s->IN X V b y x s (λc d=>if c=true then I (j+1) d else J d))->
   ∀W s,V.P s W->I 0 s->W.length=b->V.row s=none->(∀i,i<G.length->W[a+i]?=G[i]?)-> ∀lo,∃d e ak,
    D X g [y] ⟨W,lo⟩=some (.ret (.ax []) ⟨e,ak⟩)/\V.P d e/\ (I xs.length d\/J d)/\b<=e.length/\
    (∀i,i<b-> ¬V.cH i-> ¬(a<=i/\i<a+G.length)->e[i]?=W[i]?)/\k7 V.c b lo ak none (V.row d)
def PB(X:Ctx){S:Type}(V:YV S)(b:Nat)(g:AV)(a:Nat)(G:List ae)(xs:List lA):Prop:=
 ∀ (y:Nat) (I:Nat->S->Prop) (J:S->Prop),(∀i,V.cH i->i<b/\ ¬(a<=i/\i<a+G.length))->
   (∀j x s,xs[j]?=some x->I j s->IN X V b (.fn (.yield y) [] []) x s (λc d=>if c=true then I (j+1) d else J d))->
   ∀W s,V.P s W->I 0 s->W.length=b->V.row s=none->(∀i,i<G.length->W[a+i]?=G[i]?)-> ∀lo,∃d e ak,
    D X g [.fn (.yield y) [] []] ⟨W,lo⟩=some (.ret (.ax []) ⟨e,ak⟩)/\V.P d e/\ (I xs.length d\/J d)/\b<=e.length/\
    (∀i,i<b-> ¬V.cH i-> ¬(a<=i/\i<a+G.length)->e[i]?=W[i]?)/\k7 V.c b lo ak none (V.row d)
theorem D8:cM none j=some j:=rfl
def aew: ∃q,cM (some i) j=some q/\ (q=i\/q=j):=by
 refine⟨Nat.min j i,rfl,?_⟩
 grind
def PD{S:Type}(V:YV S)(b:Nat)(s:S)(W:List ae)(I:S->Prop)(J:Ex->S->Prop):bZ:=λex _ E=>
 ∃a,V.P a E.heap/\V.Fr s W E.heap/\ ((E.lo=none/\V.row a=V.row s)\/ ∃j,V.c<=j/\j<b/\E.lo=some j/\ (V.row a=V.row s\/ ∃r,V.row a=some r/\W.length<=r))/\
  (match ex with|.normal=>I a|.panic _=>False|ex=>J ex a)
def PE{H:List ae}(a:v.refs=0): (finish n lo v ⟨H,ak⟩).2=(match ak with|none=>⟨H.take n,lo⟩|some j=>if n<=j then⟨H.take n,lo⟩else⟨H,cM lo j⟩):=by
 have c: ∀k E,freeze E n (k+1) v=some v:=λk E=>yF (by omega)
 unfold finish;cases ak with
 |none=>grind
 |some j=>
  simp only[alR];split
  ·grind
  ·rfl
def qV{W:List ae}{o:ae}(h:i≠l): (W.set l o)[i]?=W[i]?:=by grind
def aex{W:List ae}{o:ae}(h:l<W.length): (W.set l o)[l]?=some o:=by grind
def yV{S:Type}(V:YV S)(m:Nat)(f:FuncId)(e:Env)(a:lN)(as d:PC):YV (S×Option Ex)where
 P:=λs W=>V.P s.1 W/\W[m]?=some .fx/\W[m+1]?=some (match s.2 with|none=>.loop .ready none f e a as d|some ex=>.loop .done (some ex.code) f e a as d)
 row:=λs=>V.row s.1
 cH:=λi=>V.cH i\/i=m\/i=m+1
 c:=V.c
def IP{S:Type}{V:YV S}(c:V.Ok){d:lN}{as n:PC}: (yV V m f e d as n).Ok where
 st:=λs W o ⟨l,k,j⟩ h=>by
  refine⟨c.st _ _ _ l λi a=>h i ?_,?_,?_⟩
  ·rcases a with a|a
   ·exact .inl (.inl a)
   ·exact .inr a
  ·rw[h m (.inl (.inr (.inl rfl)))];exact k
  ·rw[h (m+1) (.inl (.inr (.inr rfl)))];exact j
 lt:=λs W r h g=>c.lt _ _ r h.1 g
def aey{S:Type}(V:YV S)(P:V.Ok){g:ao}{p:lN}{as t:PC}{Q:bZ}(xs:List lA)(a:Nat)(G W0:List ae)(s0:S)
  (hg:qH X (g.get e)=true) (hit:PB X (yV V W0.length f e p as t) (W0.length+2) (g.get e) a G xs) (hG: ∀i,i<G.length->W0[a+i]?=G[i]?) (hGl:a+G.length<=W0.length)
  (q: ∀i,V.cH i->i<W0.length/\ ¬(a<=i/\i<a+G.length)) (hP:V.P s0 W0) (U:V.row s0=none)
  (I:Nat->S->Prop) (J:Ex->S->Prop) (h0:I 0 s0) (hJ: ∀ex s,J ex s-> ∃u,qJ ex=some (some u)/\xY u=some ex/\ex.code=u)
  (hb: ∀j x s,xs[j]?=some x->I j s->x.length=p.length/\ ∀W,V.P s W->W0.length+2<=W.length->
    wp X f true as ⟨ij e p x,[]⟩ ⟨W,none⟩ (λex fr IQ=>ex= .normal/\ ∃R1,IQ=⟨W++R1,none⟩/\
     ∀K,K.length=W.length->V.P s K->wp X f true t fr ⟨K++R1,none⟩ (PD V (W0.length+2) s K (I (j+1)) J)))
  (h1: ∀n k ak,I xs.length n->V.P n k->W0.length+2<=k.length->k[W0.length]?=some .fx->(∀i,i<W0.length-> ¬V.cH i-> ¬(a<=i/\i<a+G.length)->k[i]?=W0[i]?)->k7 V.c (W0.length+2) none ak none (V.row n)->Q .normal ⟨e,[W0.length]⟩ ⟨k,ak⟩)
  (h2: ∀ex n k ak,J ex n->V.P n k->W0.length+2<=k.length->k[W0.length]?=some .fx->(∀i,i<W0.length-> ¬V.cH i-> ¬(a<=i/\i<a+G.length)->k[i]?=W0[i]?)->k7 V.c (W0.length+2) none ak none (V.row n)->Q ex ⟨e,[W0.length]⟩ ⟨k,ak⟩):
  wp X f false (.ie g p as t) ⟨e,[]⟩ ⟨W0,none⟩ Q:=by
 obtain⟨m,hm⟩: ∃m,m=W0.length:=⟨_,rfl⟩;rw[<-hm]at hit
 let B:=yV V m f e p as t
 have hV':B.Ok:=IP P
 let I':Nat->S×Option Ex->Prop:=λj s=>s.2=none/\I j s.1
 let J':S×Option Ex->Prop:=λs=> ∃ex,s.2=some ex/\J ex s.1
 have uN: ∀s W r,V.P s W->V.row s=some r->r<W.length:=λs W r h1 h2=>by
  obtain⟨_,_,_,_,h⟩:=P.lt s W r h1 h2;exact(adN.1 h).1
 have arc: ∀j x s,xs[j]?=some x->I' j s->IN X B (m+2) (.fn (.yield (m+1)) [] []) x s (λc n=>if c=true then I' (j+1) n else J' n):=by
  rintro j x ⟨s,so⟩ hx ⟨z,hI⟩ W ⟨M,hd,hl⟩ hW lo;simp only at z hI M hl;subst z;simp only at hl;obtain⟨na,hw⟩:=hb j x s hx hI;obtain⟨ex,fr,IQ,PG,rfl,R1,rfl,hbd⟩:=hw W M (by omega);have hnp: ∀i,V.cH i\/V.row s=some i->i≠m/\i≠m+1:=by
   rintro i (d|d)
   ·have:=(q i d).1;omega
   ·obtain⟨_,_,_,_,h⟩:=P.lt s W i M d;refine⟨?_,?_⟩
    ·rintro rfl;rw[hd]at h;cases h
    ·rintro rfl;rw[hl]at h;cases h
  obtain⟨K,F⟩: ∃K,K=W.set (m+1) (.loop .busy none f e p as t):=⟨_,rfl⟩;have A0:K.length=W.length:=by rw[F,agq]
  have PH:V.P s K:=P.st _ _ _ M λi d=>by rw[F,qV (hnp i d).2]
  obtain⟨IS,fr2,l,hr2,n,H,R,O,hex⟩:=hbd K A0 PH;have Bd: (W++R1)[m+1]?=some (.loop .ready none f e p as t):=by rw[acK (by omega)];exact hl
  have arh:AS.set ⟨W++R1,none⟩ (m+1) (.loop .busy none f e p as t) 0=⟨K++R1,none⟩:=by
   simp only[AS.set,ae4,ahJ,F];rw[ard _ _ (by omega)]
  have ari:K[m+1]?=some (.loop .busy none f e p as t):=by rw[F];exact aex (by omega)
  have N: ∀i,i=m\/i=m+1-> ¬V.cH i/\V.row s≠some i:=λi d=>⟨λh=>by have:=(q i h).1;omega,λh=>by have:=hnp i (.inr h);omega⟩
  have L:l.heap[m+1]?=some (.loop .busy none f e p as t):=by
   rw[R.2 (m+1) (by omega) (N _ (.inr rfl)).1 (N _ (.inr rfl)).2];exact ari
  have T:l.heap[m]?=some .fx:=by
   rw[R.2 m (by omega) (N _ (.inl rfl)).1 (N _ (.inl rfl)).2,F,qV (by omega)];exact hd
  have Z: ∀i,V.cH i\/V.row n=some i->i≠m/\i≠m+1:=by
   rintro i (d|d)
   ·have:=(q i d).1;omega
   ·obtain⟨_,_,_,_,h⟩:=P.lt n _ i H d;refine⟨?_,?_⟩
    ·rintro rfl;rw[T]at h;cases h
    ·rintro rfl;rw[L]at h;cases h
  have aCg:W.length<=l.heap.length:=by have:=R.1;omega
  have DK: ∀ (u:Option PC),qJ IS=some u->lW X (D X) Lw (m+1) x ⟨W,lo⟩=some (.ret (.bool u.isNone)
    (finish W.length lo (.bool u.isNone) ⟨l.heap.set (m+1) (.loop (if u.isNone then .ready else .done) u f e p as t),l.lo⟩).2):=by
   intro u PI;unfold lW;simp only[hl];rw[aez na,PG];simp only[Bd,arh,hr2];simp only[endRound,PI,L,AS.set,ae4,ahJ]
  have key: ∀ (u:Option PC) (w:Option Ex),qJ IS=some u->(match w with|none=>ae.loop .ready none f e p as t|some ex=>.loop .done (some ex.code) f e p as t)= .loop (if u.isNone then .ready else .done) u f e p as t->
    ∃k ak,D X (.fn (.yield (m+1)) [] []) x ⟨W,lo⟩=some (.ret (.bool u.isNone) ⟨k,ak⟩)/\B.P (n,w) k/\B.Fr (s,none) W k/\ (B.row (n,w)=B.row (s,none)\/ ∃r,B.row (n,w)=some r/\W.length<=r)/\k7 B.c (m+2) lo ak (B.row (s,none)) (B.row (n,w)):=by
   intro u w PI Y;obtain⟨o,ho⟩: ∃o,o=ae.loop (if u.isNone then .ready else .done) u f e p as t:=⟨_,rfl⟩;rw[<-ho]at Y;have hD:=arb (DK u PI);rw[<-ho]at hD;have aeB: ∀k,(∀i,i<W.length->k[i]?=(l.heap.set (m+1) o)[i]?)->(∀i,V.row n=some i->k[i]?=(l.heap.set (m+1) o)[i]?)->W.length<=k.length->B.P (n,w) k/\B.Fr (s,none) W k:=by
    intro k A hrw y;refine⟨⟨P.st _ _ _ H λi d=>?_,?_,?_⟩,y,λi d hp C=>?_⟩
    ·rcases d with d|d
     ·rw[A i (by have:=(q i d).1;omega),qV (Z i (.inl d)).2]
     ·rw[hrw i d,qV (Z i (.inr d)).2]
    ·rw[A m (by omega),qV (by omega)];exact T
    ·rw[A (m+1) (by omega),aex (by omega)];exact ahX some Y.symm
    ·have hp1: ¬V.cH i:=λh=>hp (.inl h)
     have yI:i≠m/\i≠m+1:=⟨λh=>hp (.inr (.inl h)),λh=>hp (.inr (.inr h))⟩;rw[A i d,qV yI.2,R.2 i (by omega) hp1 C,F,qV yI.2]
   rcases O with⟨hn,C⟩| ⟨jj,hc,hj,hn,C⟩
   ·have e1: (finish W.length lo (.bool u.isNone) ⟨l.heap.set (m+1) o,l.lo⟩).2=⟨(l.heap.set (m+1) o).take W.length,lo⟩:=by rw[PE rfl,hn]
    rw[e1]at hD;refine⟨_,_,hD,?_⟩;obtain⟨g1,g2⟩:=aeB ((l.heap.set (m+1) o).take W.length) (λi d=>by rw[agz d])
     (λi d=>by rw[agz (uN s W i M (by rw[<-C];exact d))]) (by rw[agw,agq];omega)
    exact⟨g1,g2,.inl C,.inl ⟨rfl,C⟩⟩
   ·have e1: (finish W.length lo (.bool u.isNone) ⟨l.heap.set (m+1) o,l.lo⟩).2=⟨l.heap.set (m+1) o,cM lo jj⟩:=by
      rw[PE rfl,hn];simp only;rw[aeu (by omega)]
    rw[e1]at hD;refine⟨_,_,hD,?_⟩;obtain⟨g1,g2⟩:=aeB (l.heap.set (m+1) o) (λi _=>rfl) (λi _=>rfl) (by rw[agq];omega);refine⟨g1,g2,?_,.inr ⟨jj,hc,by omega,rfl⟩⟩;rcases C with C| ⟨r,C,aCh⟩
    ·exact .inl C
    ·exact .inr ⟨r,C,by omega⟩
  cases IS with
  |normal=>
   obtain⟨k,ak,g1,g2,g3,g4,g5⟩:=key none none rfl rfl;exact⟨true,(n,none),k,ak,g1,g2,g3,g4,g5,by simp only[ahJ];exact⟨rfl,hex⟩⟩
  |panic v=>exact hex.elim
  |ret=>
   obtain⟨k,ak,g1,g2,g3,g4,g5⟩:=key (some .ret) (some .ret) rfl rfl;exact⟨false,(n,some .ret),k,ak,g1,g2,g3,g4,g5,by simp only[agm,ajc];exact⟨.ret,rfl,hex⟩⟩
  |exit id=>
   obtain⟨k,ak,g1,g2,g3,g4,g5⟩:=key (some (.exit id)) (some (.exit id)) rfl rfl;exact⟨false,(n,some (.exit id)),k,ak,g1,g2,g3,g4,g5,by simp only[agm,ajc];exact⟨.exit id,rfl,hex⟩⟩
 have arl: ∀i,B.cH i->i<m+2/\ ¬(a<=i/\i<a+G.length):=by
  rintro i (d|rfl|rfl)
  ·have:=q i d;exact⟨by omega,this.2⟩
  ·exact⟨by omega,by omega⟩
  ·exact⟨by omega,by omega⟩
 have arn: ∀i,V.cH i\/V.row s0=some i->i<W0.length:=by
  rintro i (d|d)
  ·exact(q i d).1
  ·rw[U]at d;cases d
 have D9:B.P (s0,none) (W0++[.fx,.loop .ready none f e p as t]):=by
  refine⟨P.st _ _ _ hP λi d=>by rw[acK (arn i d)],?_,?_⟩
  ·rw[hm,dq rfl];rfl
  ·rw[hm,bA rfl];rfl
 obtain⟨⟨n,w⟩,k,ak,hD,⟨H,AW,E⟩,hor,y,om,O⟩:=hit (m+1) I' J' arl arc (W0++[.fx,.loop .ready none f e p as t]) (s0,none) D9 ⟨rfl,h0⟩ (by simp[hm]) U
  (λi d=>by rw[acK (by omega)];exact hG i d) none
 simp only at H E;have aro: ∀i,V.cH i\/V.row n=some i->i≠m/\i≠m+1:=by
  rintro i (d|d)
  ·have:=(q i d).1;omega
  ·obtain⟨_,_,_,_,h⟩:=P.lt n _ i H d;refine⟨?_,?_⟩
   ·rintro rfl;rw[AW]at h;cases h
   ·rintro rfl;rw[E]at h;cases w<;>cases h
 have Ea: ∀o,V.P n (k.set (m+1) o)/\m+2<=(k.set (m+1) o).length/\ (k.set (m+1) o)[m]?=some .fx/\ (∀i,i<m-> ¬V.cH i-> ¬(a<=i/\i<a+G.length)->(k.set (m+1) o)[i]?=W0[i]?):=by
  intro o;refine⟨P.st _ _ _ H λi d=>by rw[qV (aro i d).2],by rw[agq];exact y,by rw[qV (by omega)];exact AW,λi d hp hg'=>?_⟩;rw[qV (by omega),om i (by omega) (λh=>by rcases h with h|h|h;exact hp h;omega;omega) hg',acK (by omega)]
 have arq: ((AS.push ⟨W0,none⟩ .fx).push (.loop .ready none f e p as t))=(⟨W0++[.fx,.loop .ready none f e p as t],none⟩:AS):=by simp[AS.push]
 have hrc: ∀r,endLoop (m+1) ⟨e,[m]⟩ ⟨k,ak⟩=some r->bm X (D X) Lw f false (.ie g p as t) ⟨e,[]⟩ ⟨W0,none⟩=some r:=by
  intro r C;simp only[bm,agm,ajc];rw[aez hg,<-hm,arq,hD];exact C
 rcases hor with⟨z,hI⟩| ⟨ex,z,hJx⟩
 ·simp only at z;subst z;simp only at E;obtain⟨q1,q2,q3,q4⟩:=Ea (.loop .exhausted none f e p as t);refine⟨.normal,⟨e,[m]⟩,⟨k.set (m+1) (.loop .exhausted none f e p as t),ak⟩,hrc _ ?_,?_⟩
  ·unfold endLoop;simp only[E,AS.set,ae4,ahJ];rfl
  ·rw[hm]at q2 q3 q4⊢;exact h1 n _ ak hI (hm ▸ q1) q2 q3 q4 (hm ▸ O)
 ·simp only at z;subst z;simp only at E;obtain⟨u,j1,j2,j3⟩:=hJ ex n hJx;obtain⟨q1,q2,q3,q4⟩:=Ea (.loop .exhausted (some ex.code) f e p as t);refine⟨ex,⟨e,[m]⟩,⟨k.set (m+1) (.loop .exhausted (some ex.code) f e p as t),ak⟩,hrc _ ?_,?_⟩
  ·unfold endLoop;simp only[E,j3,j2,AS.set,ae4,ahJ];rfl
  ·rw[hm]at q2 q3 q4⊢;exact h2 ex n _ ak hJx (hm ▸ q1) q2 q3 q4 (hm ▸ O)
structure ko{S:Type}(V:YV S)(b:Nat)(W0:List ae)(own:Nat->Prop)(s:S)(W:List ae)(lo:oN):Prop where
 P:V.P s W
 len:b<=W.length
 fr: ∀i,i<b-> ¬V.cH i-> ¬own i->W[i]?=W0[i]?
 lo: (lo=none/\V.row s=none)\/ ∃j,V.c<=j/\j<b/\lo=some j
 row: ∀r,V.row s=some r->b<=r
def PJ{S:Type}(V:YV S)(t:V.Ok){g:ao}{o:lN}{as u:PC}{Q:bZ}(xs:List lA)(a:Nat)(G W0:List ae)(l:S)
  (z:qH X (g.get e)=true) (q:uM X (g.get e) a G xs) (D: ∀i,i<G.length->W0[a+i]?=G[i]?) (r:a+G.length<=W0.length)
  (k: ∀i,V.cH i->i<W0.length/\ ¬(a<=i/\i<a+G.length)) (B:V.P l W0) (h:V.row l=none)
  (I:Nat->S->Prop) (J:Ex->S->Prop) (H:I 0 l) (C: ∀ex s,J ex s-> ∃p,qJ ex=some (some p)/\xY p=some ex/\ex.code=p)
  (A: ∀j x s,xs[j]?=some x->I j s->x.length=o.length/\ ∀W,V.P s W->W0.length+2<=W.length->
    wp X f true as ⟨ij e o x,[]⟩ ⟨W,none⟩ (λex fr n=>ex= .normal/\ ∃R1,n=⟨W++R1,none⟩/\
     ∀m,m.length=W.length->V.P s m->wp X f true u fr ⟨m++R1,none⟩ (PD V (W0.length+2) s m (I (j+1)) J)))
  (F: ∀d c ak,I xs.length d->V.P d c->W0.length+2<=c.length->c[W0.length]?=some .fx->(∀i,i<W0.length-> ¬V.cH i-> ¬(a<=i/\i<a+G.length)->c[i]?=W0[i]?)->k7 V.c (W0.length+2) none ak none (V.row d)->Q .normal ⟨e,[W0.length]⟩ ⟨c,ak⟩)
  (E: ∀ex d c ak,J ex d->V.P d c->W0.length+2<=c.length->c[W0.length]?=some .fx->(∀i,i<W0.length-> ¬V.cH i-> ¬(a<=i/\i<a+G.length)->c[i]?=W0[i]?)->k7 V.c (W0.length+2) none ak none (V.row d)->Q ex ⟨e,[W0.length]⟩ ⟨c,ak⟩):
  wp X f false (.ie g o as u) ⟨e,[]⟩ ⟨W0,none⟩ Q:=
 aey V t xs a G W0 l z (λy I J w v=>q _ _ _ I J _ (IP t) w v) D r k B h I J H C A F E
section
variable{S:Type}{V:YV S}{b:Nat}{W0 W:List ae}{own:Nat->Prop}{s:S}{lo:oN}
def YV.Ok.IT(a:V.Ok)(d:V.P s W)(c:V.row s=some r):r<W.length:=by
 obtain⟨_,_,_,_,h⟩:=a.lt s W r d c
 grind
def ko.push(c:V.Ok)(d: ∀i,V.cH i->i<b)(h:ko V b W0 own s W lo)(L:List ae):ko V b W0 own s (W++L) lo where
 P:=c.st _ _ _ h.P λi a=>by
  have:i<W.length:=by
   rcases a with a|a
   ·have:=d i a;have:=h.len;omega
   ·exact c.IT h.P a
  grind
 len:=by have:=h.len;grind
 fr:=λi a f e=>by rw[acK (by have:=h.len;omega)];exact h.fr i a f e
 lo:=h.lo
 row:=h.row
theorem ko.set(c:V.Ok)(h:ko V b W0 own s W lo){o:ae}(g: ¬V.cH k)(f:V.row s≠some k)(ho:own k\/b<=k):ko V b W0 own s (W.set k o) lo where
 P:=c.st _ _ _ h.P λi a=>by grind
 len:=by rw[agq];exact h.len
 fr:=λi a e d=>by
  rw[qV]
  ·exact h.fr i a e d
  grind
 lo:=h.lo
 row:=h.row
def ko.step(h:ko V b W0 own s W lo){a:S}{d:List ae}(u:V.P a d)(k:V.Fr s W d)(t:V.row a=V.row s\/ ∃r,V.row a=some r/\W.length<=r)(p:k7 V.c b lo ak (V.row s) (V.row a)):ko V b W0 own a d ak where
 P:=u
 len:=agD h.len k.1
 fr:=λi g c f=>by
  have x:=h.len;rw[k.2 i (by omega) c (λe=>by have:=h.row i e;omega)];exact h.fr i g c f
 lo:=by
  rcases p with⟨rfl,e⟩| ⟨j,o,m,rfl⟩
  ·rcases h.lo with⟨c,f⟩|q
   ·grind
   grind
  ·rcases h.lo with⟨rfl,_⟩| ⟨i,n,g,rfl⟩
   ·exact .inr ⟨j,o,m,rfl⟩
   ·obtain⟨q,e,w⟩:=aew (i:=i) (j:=j)
    grind
 row:=λr e=>by
  rcases t with q| ⟨v,q,l⟩
  ·exact h.row r (by grind)
  ·rw[q]at e;cases e;exact agD h.len l
def ko.fin(m:V.Ok)(p: ∀i,V.cH i->i<b)(h:ko V b W0 own s W lo){dM:oN}: ∃a ak,(finish b dM (.ax []) ⟨W,lo⟩)=(.ax [],⟨a,ak⟩)/\V.P s a/\b<=a.length/\
  (∀i,i<b-> ¬V.cH i-> ¬own i->a[i]?=W0[i]?)/\k7 V.c b dM ak none (V.row s):=by
 have e: (finish b dM (.ax []) ⟨W,lo⟩).1= .ax []:=by
  have r:freeze ⟨W,lo⟩ b 12 (.ax [])=some (.ax []):=yF (ae4 _);have key: ∀c:Bool,(if c=true then(match freeze ⟨W,lo⟩ b 12 (.ax [])with|some v'=>(v',(⟨W.take b,dM⟩:AS))|none=>(.ax [],⟨W,gu dM lo⟩))else(.ax [],⟨W,gu dM lo⟩)).1= .ax []:=by grind
  cases lo with
  |none=>exact key true
  |some j=>exact key (decide (b<=j))
 have o:=PE (n:=b) (lo:=dM) (ak:=lo) (v:=.ax []) (H:=W) rfl;rcases h.lo with⟨rfl,q⟩| ⟨j,l,k,rfl⟩
 ·refine⟨W.take b,dM,Prod.ext e o,?_,?_,?_,.inl ⟨rfl,q⟩⟩
  ·refine m.st _ _ _ h.P λi d=>?_
   grind
  ·rw[agw];have:=h.len;omega
  ·intro i d g f;rw[agz d];exact h.fr i d g f
 ·refine⟨W,cM dM j,Prod.ext e ?_,h.P,h.len,h.fr,.inr ⟨j,l,k,rfl⟩⟩
  grind
end
def SV(p sz:Nat)(ty:TypeId)(W:List ae)(r:oN)(af:List lA):Prop:=
 (r=none/\af=[]/\W[p]?=some (.box [.aq] none))\/ ∃id aj,r=some id/\af≠[]/\p<id/\W[p]?=some (.box [.ref id aj sz 0 af.length false] none)/\W[id]?=some (.row aj sz ty af)
def SV.st{ty:TypeId}{W f:List ae}{r:oN}(h:SV p sz ty W r af)(j:f[p]?=W[p]?)(g: ∀i,r=some i->f[i]?=W[i]?):SV p sz ty f r af:=by
 rcases h with⟨a,b,c⟩| ⟨id,aj,a,e,b,c,d⟩
 ·exact .inl ⟨a,b,by grind⟩
 ·exact .inr ⟨id,aj,a,e,b,by grind,by grind⟩
theorem SV.row{ty:TypeId}{W:List ae}{r:oN}(h:SV p sz ty W r af)(e:r=some i): ∃v z t es,W[i]?=some (.row v z t es):=by
 rcases h with⟨a,b,c⟩| ⟨id,aj,a,f,b,c,d⟩
 ·grind
 grind
def aeF{H:List ae}{v0:AV}(h:H[p]?=some (.box [v0] tg))(c:v.cq=false)(a:v.cells=[v])(d:p+1<v.refs):kf ⟨H,lo⟩ 1 (.ptr p 0) v=some ⟨H.set p (.box [v] tg),cM lo p⟩:=by
 unfold kf;simp only[h,a];rw[aez ⟨c,rfl,ae0 _⟩];simp only[AS.set];rw[aeu (by omega)];rfl
def SV.append{bytes:Nat}{ty:TypeId}{W:List ae}{r:oN}{el:lA}(h:SV p sz ty W r af)(l:p<W.length)(t:0<sz)(w:el.length=sz)(u:aI el=0)(n: (af.length+1)*bytes<=room)(lo:oN):
  ∃v v' o a f,W[p]?=some (.box [v] none)/\dv ⟨W,lo⟩ ty sz bytes v [el]=some (v',⟨o,lo⟩)/\kf ⟨o,lo⟩ 1 (.ptr p 0) v'=some ⟨a,cM lo p⟩/\SV p sz ty a f (af++[el])/\
   W.length<=a.length/\ (∀i,i<W.length->i≠p->r≠some i->a[i]?=W[i]?)/\ (f=r\/ ∃q,f=some q/\W.length<=q):=by
 have m:0<sz/\ [el].all (λx=>x.length==sz)=true:=⟨t,by grind⟩;rcases h with⟨rfl,rfl,c⟩| ⟨id,aj,rfl,_,g,c,d⟩
 ·have e1:dv ⟨W,lo⟩ ty sz bytes .aq [el]=some (.ref W.length 0 sz 0 1 false,⟨W++[.row 0 sz ty [el]],lo⟩):=by
    unfold dv;rw[aez m];simp only[agt,am9,alV,Nat.one_ne_zero,ajc];rw[aez (by simpa using n)];rfl
  have k: (W++[ae.row 0 sz ty [el]])[p]?=some (.box [.aq] none):=by rw[acK l];exact c
  refine⟨.aq,_,_,(W++[ae.row 0 sz ty [el]]).set p (.box [.ref W.length 0 sz 0 1 false] none),some W.length,c,e1,?_,.inr ⟨W.length,0,rfl,by simp,l,?_,?_⟩,?_,?_,.inr ⟨_,rfl,ae0 _⟩⟩
  ·exact aeF k rfl rfl (by simp only[AV.refs];omega)
  ·exact ae1 (by rw[aeZ];omega)
  ·rw[acG (by omega)];simp
  ·simp
  grind
 ·have j:=(adN.1 d).1;have e1:dv ⟨W,lo⟩ ty sz bytes (.ref id aj sz 0 af.length false) [el]=some (.ref id (aj+1) sz 0 (af.length+1) false,⟨W.set id (.row (aj+1) sz ty (af++[el])),lo⟩):=by
   unfold dv;rw[aez m];simp only[d];rw[aez ⟨trivial,trivial,trivial,trivial,by omega,by simpa using n⟩];simp[AS.set,cb,u]
  have k: (W.set id (ae.row (aj+1) sz ty (af++[el])))[p]?=some (.box [.ref id aj sz 0 af.length false] none):=by rw[acG (by omega)];exact c
  refine⟨_,_,_,(W.set id (.row (aj+1) sz ty (af++[el]))).set p (.box [.ref id (aj+1) sz 0 (af.length+1) false] none),some id,c,e1,?_,.inr ⟨id,aj+1,rfl,by simp,g,?_,?_⟩,?_,?_,.inl rfl⟩
  ·exact aeF k rfl rfl (by simp only[AV.refs];omega)
  ·rw[ae1 (by rw[agq];omega)];simp
  ·rw[acG (by omega),ae1 j]
  ·simp
  ·intro i A z y;rw[acG (λe=>z e.symm),acG (λe=>y (by rw[e]))]
end
section
variable{X:Ctx}{f:FuncId}{rd:Bool}{E:AS}{Q:bZ}{e:Env}{ms:lN}{bL:List FP}{js:lN}{os:List (aT×lN)}{i:I}{d:oN}{dd t:Nat}{v:AV}
def Be(bL:List FP)(o:aT)(js:lN)(os:List (aT×lN))(e:Env)(ms:lN)(Q:bZ):AV->AS->Prop:=λv E=>Dh bL (o,js) os=true/\Q (.panic v) ⟨e,ms⟩ E
def gD(X:Ctx)(t:Nat)(b:Bool)(d:oN)(i:I)(js:lN)(os:List (aT×lN))(bL:List FP)(e:Env)(ms:lN)(E:AS)(Q:bZ)(c:AV):Prop:=match c with
 |.bool x=>if x=b then aU X i e E (kD X i E bL js os d e ms Q) (Be bL ⟨some (t,b),d,i⟩ js os e ms Q)else gR X (bL++[.no]) os (Fr.put ⟨e,ms⟩ d .undef) E Q
 |_=>gR X (bL++[.no]) os (Fr.put ⟨e,ms⟩ d .undef) E Q
def aeG{b:Bool}:gR X bL ((⟨some (t,b),d,i⟩,js)::os) ⟨e,ms⟩ E Q=gD X t b d i js os bL e ms E Q (e t):=by
 unfold gD;split
 ·rename_i x a;by_cases h:x=b
  ·subst h;apply propext;simp only[gR,aU,gy,gd,a,beq_self_eq_true,ahJ];cases a:exec X (D X) i e E with
   |none=>simp[qS]
   |some o=>
    cases o with
    |ok v E'=>
     simp only[qS,Pc];by_cases c:qT bL (aZ i e E E') js=true
     ·rw[aez c];exact⟨λh=>⟨c,h⟩,λh=>h.2⟩
     ·simp[kD,c]
    |panic v E'=>
     simp only[qS,Be]
     grind
  ·rw[aeu h];have: (x==b)=false:=by grind
   simp only[gR,gy,gd,a,this,agm,ajc]
 ·have:gd e (some (t,b))=false:=by
    unfold gd;simp only
  simp only[gR,gy,this,agm,ajc]
def aeH:gR X bL ((gt t d i,js)::os) ⟨e,ms⟩ E Q=gD X t true d i js os bL e ms E Q (e t):=aeG
def aeI:gR X bL ((gf t d i,js)::os) ⟨e,ms⟩ E Q=gD X t false d i js os bL e ms E Q (e t):=aeG
theorem aeJ:gD X t true (some dd) i js os bL e ms E Q (.bool true)=aU X i e E (kD X i E bL js os (some dd) e ms Q) (Be bL ⟨some (t,true),(some dd),i⟩ js os e ms Q):=rfl
theorem aeK:gD X t true none i js os bL e ms E Q (.bool true)=aU X i e E (kD X i E bL js os none e ms Q) (Be bL ⟨some (t,true),none,i⟩ js os e ms Q):=rfl
theorem aeL:gD X t false (some dd) i js os bL e ms E Q (.bool false)=aU X i e E (kD X i E bL js os (some dd) e ms Q) (Be bL ⟨some (t,false),(some dd),i⟩ js os e ms Q):=rfl
theorem aeM:gD X t false none i js os bL e ms E Q (.bool false)=aU X i e E (kD X i E bL js os none e ms Q) (Be bL ⟨some (t,false),none,i⟩ js os e ms Q):=rfl
theorem aeN:gD X t true (some dd) i js os bL e ms E Q (.bool false)=gR X (bL++[.no]) os ⟨e.set dd .undef,ms⟩ E Q:=rfl
theorem aeO:gD X t true none i js os bL e ms E Q (.bool false)=gR X (bL++[.no]) os ⟨e,ms⟩ E Q:=rfl
theorem aeP:gD X t false (some dd) i js os bL e ms E Q (.bool true)=gR X (bL++[.no]) os ⟨e.set dd .undef,ms⟩ E Q:=rfl
theorem aeQ:gD X t false none i js os bL e ms E Q (.bool true)=gR X (bL++[.no]) os ⟨e,ms⟩ E Q:=rfl
theorem aeR{b:Bool}{c:lA}:gD X t b (some dd) i js os bL e ms E Q (.ax c)=gR X (bL++[.no]) os ⟨e.set dd .undef,ms⟩ E Q:=rfl
theorem aeS{b:Bool}{c:lA}:gD X t b none i js os bL e ms E Q (.ax c)=gR X (bL++[.no]) os ⟨e,ms⟩ E Q:=rfl
def G1:=gG @aeH<|gG @aeI<|gG @aeJ<|gG @aeK<|gG @aeL<|gG @aeM<|gG @aeN<|gG @aeO<|gG @aeP<|gG @aeQ<|gG @aeR @aeS
end
def Fz(E:AS)(N d:Nat)(v v':AV):Prop:= ∀k,freeze E N (k+d) v=some v'
def il(E:AS)(N d:Nat)(cs sk:lA):Prop:= ∀k,iN E N (k+d) cs=some sk
section
variable{E:AS}{N d:Nat}{a a' v v':AV}{cs sk:lA}
def Fz.low(h:v.refs<=N):Fz E N (d+1) v v:=λk=>yF h
def il.nil:il E N d [] []:=λk=>by cases h:k+d<;>rw[iN]
def il.cons(h:Fz E N d a a')(b:il E N (d+1) cs sk):il E N (d+1) (a::cs) (a'::sk):=λk=>by
 have e1:=h k;have c:=b k;rw[<-ajK]at c⊢;rw[iN,e1]
 grind
def il.eq(h:il E N d cs sk)(b:aI cs<=N):sk=cs:=by
 have e1:=h 2;rw[Nat.add_comm 2 d,Pt cs b]at e1
 grind
theorem Fz.agg(h:il E N d cs sk):Fz E N (d+1) (.agg cs) (.agg sk):=λk=>by
 have e1:=h k;rw[<-ajK,freeze];split
 ·rename_i b;rw[h.eq b]
 grind
theorem Fz.ax(h:il E N d cs sk):Fz E N (d+1) (.ax cs) (.ax sk):=λk=>by
 have e1:=h k;rw[<-ajK,freeze];split
 ·rename_i b;rw[h.eq b]
 grind
def Fz.own{H:List ae}{ty:TypeId}(h:aP N H v sz ty af)(b:cb af<=N):Fz ⟨H,lo⟩ N (d+4) v (bD v af):=λk=>by
 exact h.freeze b
def Fz.mono(h:Fz E N d v v')(b:d<=m):Fz E N m v v':=λk=>by
 have:=h (k+(m-d))
 grind
def uO{H:List ae}(b:ak=none\/ ∃j,N<=j/\ak=some j)(h:Fz ⟨H,ak⟩ N 12 v v'):finish N lo v ⟨H,ak⟩=(v',⟨H.take N,lo⟩):=by
 refine Ij ?_ (by simpa using h 0)
 grind
def SV.own{ty:TypeId}{W:List ae}{r:oN}(h:SV p sz ty W r af)(f:N<=p)(b: ∀el∈af,el.length=sz): ∃v,W[p]?=some (.box [v] none)/\aP N W v sz ty af/\v.cq=false/\v.cells=[v]/\ (v= .aq\/p+1<v.refs):=by
 rcases h with⟨_,rfl,c⟩| ⟨id,aj,_,_,q,c,e⟩
 ·exact⟨.aq,c,aP.aq,rfl,rfl,.inl rfl⟩
 ·exact⟨_,c,⟨b,.inr ⟨id,aj,by omega,rfl,e⟩⟩,rfl,rfl,.inr (by simp only[AV.refs];omega)⟩
end
def eA(N:Nat)(lo:oN):Prop:=lo=none\/ ∃j,N<=j/\lo=some j
def eA.min{N:Nat}(h:eA N lo)(b:N<=p)(c:ak=lo\/ak=cM lo p):eA N ak:=by
 rcases c with rfl|rfl
 ·exact h
 ·rcases h with rfl| ⟨j,g,rfl⟩
  ·exact .inr ⟨p,b,rfl⟩
  ·obtain⟨q,e,f⟩:=aew (i:=j) (j:=p);exact .inr ⟨q,by omega,e⟩
section
variable{P:Program}{X:Ctx}{B:Nat}{ay:World}
noncomputable def Bf(X:Ctx)(dM:oN)(pf:PF):jy->Option aX
 |some (.normal,fr,E)=>(dN E fr.marks).bind λa=>(fL X a fr.env pf.results).map λv=>.ret v {heap:=a.heap,lo:=gu dM a.lo}
 |some (.ret,fr,E)=>(dN E fr.marks).bind λa=>(fL X a fr.env pf.results).map λv=>.ret v {heap:=a.heap,lo:=gu dM a.lo}
 |_=>none
noncomputable def oo(X:Ctx)(C:bE)(L:eH)(f:FuncId)(pf:PF)(args:lA)(E:AS):Option aX:=
 if args.length<=pf.ntmps then Bf X E.lo pf (bm X C L f false pf.body {env:=dj args,marks:=[]} {heap:=E.heap,lo:=none})else none
def ars{cu:AS}{G:Gh}{E:AS}(c:gg.le G)(d:ba P B ay G E w)(b:AS.Ext {heap:=cu.heap,lo:=none} E){v:AV}{v':Value}(f:an G v v'):
  ∃a,gg.le a/\ba P B ay a {heap:=E.heap,lo:=gu cu.lo E.lo} w/\an a v v'/\cu.Ext {heap:=E.heap,lo:=gu cu.lo E.lo}:=by
 refine⟨G,c,d.lo _,f,b.len,λj h=>?_,λj o h=>?_⟩
 ·cases E.lo with
  |none=>exact h
  |some l=>exact AG (.inl h)
 ·obtain⟨o',k,i⟩:=b.obj j o h;refine⟨o',k,i.imp id λ ⟨l,e,g⟩=>?_⟩;simp only[gu,e];exact AG (.inr g)
section
variable{C:bE}(hC:fY P B ay C)(hg:fC X B ay)(hX:py P X)(gQ:AQ P X B ay){L:eH}(hL:yk L)
include hC hg hX gQ hL
theorem art(U:k5 P f pf):gB P B ay f (oo X C L f pf):=by
 intro args E t h G w b hw T;unfold oo at h;split at h
 ·rename_i V;obtain⟨rows,fn,o,n⟩:=U;obtain⟨c,y,l,m,S,q⟩:=HG n;have k: (callFunc f b).run P w= .ok (.enter f b) w:=by
   have s: ¬fn.name= "runtime.NumGoroutine" :=by grind
   simp[callFunc,aq6,o,s,y]
  rw[k];show CallsIn (W none) 0 P f b w (Ends P B ay G E t);cases g:bm X C L f false pf.body {env:=dj args,marks:=[]} {heap:=E.heap,lo:=none}with
  |none=>rw[g]at h;simp[Bf]at h
  |some res=>
   rw[g]at h;have he:cN G fn.ntmps (dj args) (b++Array.replicate (fn.ntmps-b.size) undef):=HK T (by omega);refine ax3 o y trivial (wj hC hg hX gQ hL (r:=none) rfl c pf.body l G {heap:=E.heap,lo:=none} w {env:=dj args,marks:=[]} _ res _ (hw.lo none) he rfl g (λe a w' R=>?_)) rfl;obtain⟨Y,J,I,H,F,D,u⟩:=R;obtain⟨ex,fr,E'⟩:=res;have j: ((dN E' fr.marks).bind λd=>(fL X d fr.env pf.results).map λv=>aX.ret v {heap:=d.heap,lo:=gu E.lo d.lo})=some t->LeavesInM (W none) 0 P fn a.tmps (Ends P B ay G E t) a.defers .returning w':=by
    intro h;rw[anf]at h;obtain⟨d,x,h⟩:=h;rw[agj]at h;obtain⟨v,Q,rfl⟩:=h;refine ym (by simp) fr.marks a.defers E' d w' F I x (λz i=>?_);obtain⟨v',e1,A⟩:=DB hg i H m Q;refine⟨v',e1,?_⟩;obtain⟨p,O,N,M,K⟩:=ars J i (D.trans (yl _ _ _ x)) A;exact⟨p,O,N,M,K⟩
   cases ex with
   |normal=>cases e<;>simp[fZ]at u;exact j h
   |ret=>cases e<;>simp[fZ]at u;exact j h
   |exit id=>simp[Bf]at h
   |panic v=>simp[Bf]at h
 grind
end
def wE(hg:fC X B ay)(hX:py P X)(b: ∀f p,X.cg f=some p->gB P B ay f p)(a:k5 P f pf):gB P B ay f (oo X (D X) Lw f pf):=
 art (OO hg hX b) hg hX (Ox hg) adR a
def Bg(X:Ctx)(lo:oN)(b:List RV)(R:aX->Prop):bZ
 |.normal,fr,E=> ∃a v,dN E fr.marks=some a/\fL X a fr.env b=some v/\R (.ret v {heap:=a.heap,lo:=gu lo a.lo})
 |.ret,fr,E=> ∃a v,dN E fr.marks=some a/\fL X a fr.env b=some v/\R (.ret v {heap:=a.heap,lo:=gu lo a.lo})
 |_,_,_=>False
def wF(pf:PF){args:lA}{H:List ae}{R:aX->Prop}(j:Nat.ble args.length pf.ntmps=true)
  (h: ∀n,H.length=n->wp X f false pf.body ⟨dj args,[]⟩ ⟨H,none⟩ (Bg X lo pf.results R)): ∃g,oo X (D X) Lw f pf args ⟨H,lo⟩=some g/\R g:=by
 obtain⟨ex,fr,E,i,e⟩:=h _ rfl;unfold oo;rw[aez (aoM j),i];cases ex with
 |normal=>
  obtain⟨a,v,d,c,b⟩:=e;exact⟨_,by simp only[Bf,d,ao2,c,agl],b⟩
 |ret=>
  obtain⟨a,v,d,c,b⟩:=e;exact⟨_,by simp only[Bf,d,ao2,c,agl],b⟩
 |exit _=>trivial
 |panic _=>trivial
def sq{R:aX->Prop}{E:AS}:Bg X lo [.t a] R .ret ⟨e,[]⟩ E=R (.ret (e a) {heap:=E.heap,lo:=gu lo E.lo}):=by
 simp only[Bg,yG,Yt]
 grind
end
def im(W:List ae)(N:Nat):Nat->List ae->Prop
 |_,[]=>True
 |k,b::bs=>W[N+k]?=some b/\im W N (k+1) bs
theorem eJ{W:List ae}{N:Nat}:im W N k []=True:=rfl
theorem eK{W:List ae}{N:Nat}{b:ae}{bs:List ae}:im W N k (b::bs)=(W[N+k]?=some b/\im W N (k+1) bs):=rfl
theorem aeT{W:List ae}{N:Nat}: ∀ {k:Nat} {bs:List ae},im W N k bs-> ∀i,i<bs.length->W[N+k+i]?=bs[i]?
 |_,[],_,i,h=>by grind
 |k,b::bs,⟨c,a⟩,i,h=>by
  cases i with
  |zero=>grind
  |succ i=>
   have:=aeT a i (by grind)
   grind
theorem PK{W:List ae}{N:Nat}: ∀ {k:Nat} {bs:List ae},(∀i,i<bs.length->W[N+k+i]?=bs[i]?)->im W N k bs
 |_,[],_=>trivial
 |k,b::bs,h=>by
  refine⟨by have:=h 0 (by simp);grind,PK λi a=>?_⟩;have:=h (i+1) (by grind)
  grind
def iR(N:Nat)(H W:List ae):Prop:= ∀i,i<N->W[i]?=H[i]?
theorem iR.take{N:Nat}{H W:List ae}(h:iR N H W)(b:H.length=N):W.take N=H:=by
 apply ang;intro i;by_cases a:i<N
 ·rw[agz a];exact h i a
 grind
theorem iR.set{N:Nat}{H W:List ae}{o:ae}(h:iR N H W)(b:N<=p):iR N H (W.set p o):=λi a=>by
 rw[acG (by omega)];exact h i a
def iR.app{N:Nat}{H L:List ae}(b:H.length=N):iR N H (H++L):=λi a=>acK (by omega)
def bV{S:Type}(N nB c:Nat)(H:List ae)(B:S->List ae):YV S:=⟨λs W=>iR N H W/\im W N 0 (B s),λ_=>none,λi=>i<N+nB,c⟩
def PM{S:Type}{N c:Nat}{H:List ae}{B:S->List ae}(g: ∀s,(B s).length=nB): (bV N nB c H B).Ok where
 st:=λs W j ⟨f,e⟩ h=>by
  refine⟨λi a=>?_,PK λi a=>?_⟩
  ·have:i<N+nB:=by omega
   rw[h i (.inl this)];exact f i a
  ·have d:N+0+i<N+nB:=by grind
   rw[h _ (.inl d)];exact aeT e i a
 lt:=λs W r _ b=>by cases b
def Bh{S:Type}(N nB:Nat)(B:S->List ae)(W:List ae)(I:S->Prop)(J:Ex->S->Prop):bZ:=λex _ E=>
 E.lo=none/\ ∃a,im E.heap N 0 (B a)/\W.length<=E.heap.length/\ (∀i,i<W.length-> ¬(N<=i/\i<N+nB)->E.heap[i]?=W[i]?)/\ (match ex with|.normal=>I a|.panic _=>False|ex=>J ex a)
section
variable{S:Type}{N nB:Nat}{B:S->List ae}{W H:List ae}{I:S->Prop}{J:Ex->S->Prop}{fr:Fr}{i:Nat}
def oq:Bh N nB B W I J .normal fr ⟨H,none⟩= ∃a,im H N 0 (B a)/\W.length<=H.length/\ (∀i,i<W.length-> ¬(N<=i/\i<N+nB)->H[i]?=W[i]?)/\I a:=by simp[Bh]
def IU:Bh N nB B W I J .ret fr ⟨H,none⟩= ∃a,im H N 0 (B a)/\W.length<=H.length/\ (∀i,i<W.length-> ¬(N<=i/\i<N+nB)->H[i]?=W[i]?)/\J .ret a:=by simp[Bh]
end
def aeU{X:Ctx}{S:Type}{g:ao}{u:lN}{as P:PC}{Q:bZ}(K:Env->Prop)(F:K e)(xs:List lA){N:Nat}{H W0:List ae}(E:H.length=N)(G:List ae)(B:S->List ae)(O: ∀s,(B s).length=nB)
  (v:S) (I:Nat->S->Prop) (J:Ex->S->Prop) (hg:qH X (g.get e)=true) (y:PB X (yV (bV N nB (W0.length+2) H B) W0.length f e u as P) (W0.length+2) (g.get e) (N+nB) G xs) (l:W0=H++(B v++G)) (h0:I 0 v) (hJ: ∀ex s,J ex s-> ∃w,qJ ex=some (some w)/\xY w=some ex/\ex.code=w)
  (hb: ∀e,K e-> ∀j x s,xs[j]?=some x->I j s->x.length=u.length/\ ∀W n,W.length=n->N+nB+G.length+2<=n->im W N 0 (B s)->
    wp X f true as ⟨ij e u x,[]⟩ ⟨W,none⟩ (λex fr q=>ex= .normal/\ ∃R1,q=⟨W++R1,none⟩/\
     ∀o,o.length=n->im o N 0 (B s)->wp X f true P fr ⟨o++R1,none⟩ (Bh N nB B o (I (j+1)) J)))
  (h1: ∀e,K e-> ∀c a p,N+nB<=p->I xs.length c->iR N H a->im a N 0 (B c)->a[p]?=some .fx->Q .normal ⟨e,[p]⟩ ⟨a,none⟩)
  (h2: ∀e,K e-> ∀ex c a p,N+nB<=p->J ex c->iR N H a->im a N 0 (B c)->a[p]?=some .fx->Q ex ⟨e,[p]⟩ ⟨a,none⟩):
  wp X f false (.ie g u as P) ⟨e,[]⟩ ⟨W0,none⟩ Q:=by
 have uP:W0.length=N+nB+G.length:=by grind
 have r: ∀ {ak} {b:Nat},b=W0.length+2->k7 (W0.length+2) b none ak none none->ak=none:=by
  rintro ak b rfl (⟨h,_⟩| ⟨j,T,R,_⟩)
  ·exact h
  ·omega
 refine aey (bV N nB (W0.length+2) H B) (PM O) xs (N+nB) G W0 v hg y (λi d=>?_) (by omega) (λi d=>?_) ⟨?_,?_⟩ rfl I J h0 hJ ?_ ?_ ?_
 ·rw[l,<-aev,ags (by simp only[aeZ,E,O];omega)]
  congr 1;simp only[aeZ,E,O];omega
 ·have:i<N+nB:=d;exact⟨by omega,by omega⟩
 ·rw[l];exact iR.app E
 ·refine PK λi d=>?_
  rw[l,ags (by omega),show N+0+i-H.length=i by omega,acK d]
 ·intro j x s Z M;obtain⟨T,R⟩:=hb e F j x s Z M;refine⟨T,λW m U=>?_⟩;refine wp_mono (R W _ rfl (by omega) m.2) ?_;rintro ex fr q ⟨rfl,R1,rfl,C⟩;refine⟨rfl,R1,rfl,λo D t=>?_⟩;refine wp_mono (C o D t.2) ?_;rintro IS fr2 ⟨H2,Y⟩ ⟨rfl,c,c1,c2,V,c4⟩;refine⟨c,⟨λi d=>?_,c1⟩,⟨c2,λi d hp _=>?_⟩,.inl ⟨rfl,rfl⟩,c4⟩
  ·rw[V i (by omega) (by omega)];exact t.1 i d
  ·have nZ: ¬i<N+nB:=hp;exact V i d (by omega)
 ·intro c a ak M m hl A z k;obtain rfl:=r rfl k;exact h1 e F c a _ (by omega) M m.1 m.2 A
 ·intro ex c a ak L m hl A z k;obtain rfl:=r rfl k;exact h2 e F ex c a _ (by omega) L m.1 m.2 A
def wG{X:Ctx}{S:Type}{g:ao}{k:lN}{as r:PC}{Q:bZ}(K:Env->Prop)(A:K e)(xs:List lA){N:Nat}{H W0:List ae}(z:H.length=N)(G:List ae)(B:S->List ae)(q: ∀s,(B s).length=nB)
  (h:S) (I:Nat->S->Prop) (J:Ex->S->Prop) (v:qH X (g.get e)=true) (m:uM X (g.get e) (N+nB) G xs) (o:W0=H++(B h++G)) (F:I 0 h) (C: ∀ex s,J ex s-> ∃l,qJ ex=some (some l)/\xY l=some ex/\ex.code=l)
  (w: ∀e,K e-> ∀j x s,xs[j]?=some x->I j s->x.length=k.length/\ ∀W n,W.length=n->N+nB+G.length+2<=n->im W N 0 (B s)->
    wp X f true as ⟨ij e k x,[]⟩ ⟨W,none⟩ (λex fr d=>ex= .normal/\ ∃R1,d=⟨W++R1,none⟩/\
     ∀c,c.length=n->im c N 0 (B s)->wp X f true r fr ⟨c++R1,none⟩ (Bh N nB B c (I (j+1)) J)))
  (E: ∀e,K e-> ∀b a p,N+nB<=p->I xs.length b->iR N H a->im a N 0 (B b)->a[p]?=some .fx->Q .normal ⟨e,[p]⟩ ⟨a,none⟩)
  (D: ∀e,K e-> ∀ex b a p,N+nB<=p->J ex b->iR N H a->im a N 0 (B b)->a[p]?=some .fx->Q ex ⟨e,[p]⟩ ⟨a,none⟩):
  wp X f false (.ie g k as r) ⟨e,[]⟩ ⟨W0,none⟩ Q:=
 aeU K A xs z G B q h I J v (λy I J u t=>m _ _ _ I J _ (IP (PM q)) u t) o F C w E D
section
variable{H:Type}{enc:TypeId×Value->H}{P:Program}{w:World}{sp:Nat->Bool}{held:Bool}
def Bi(P:Program):Nat->TypeId->Bool
 |0,_=>false
 |f+1,t=>match P.underlying t with
  |some .bool=>true
  |some (.int _)=>true
  |some .string=>true
  |some (.slice e)=>A3 P false f e
  |some (.struct fs)=>A2 P (Bi P f) fs.toList 0 (P.cellsOf t)
  |some (.array n e)=>Bi P f e&&P.cellsOf t==n*P.cellsOf e
  |_=>false
theorem PN: ∀ (f:Nat) (t:TypeId) (n:Nat) (cs:List Value) (d:DataW H) (ps:List MemPlace),Bi P f t=true->(∀v∈cs,Ia v)->
  DataW.trod enc P w 0 sp held n t cs=some (d,ps)-> ∃xs,ik P f t d xs/\aG (Gh.start w) xs cs/\Leaves cs/\xs.length=cs.length
 |0,_,_,_,_,_,r,_,_=>by simp[Bi]at r
 |f+1,t,n,cs,d,ps,r,B,h=>by
  unfold Bi at r;unfold ik;cases u:P.underlying t with
  |none=>rw[u]at r;cases r
  |some td=>
   rw[u]at r;cases td with
   |bool=>
    obtain⟨b,rfl,l⟩:=DataW.trod_bool u h;cases l;exact⟨[.bool b],⟨b,rfl,rfl⟩,aG.single.2 rfl,λv g=>by simp at g;subst g;rfl,rfl⟩
   |int k=>
    obtain⟨b,rfl,l,O⟩:=DataW.trod_int u h;cases l;exact⟨[.int k b],⟨b,rfl,rfl,O⟩,aG.single.2 rfl,λv g=>by simp at g;subst g;rfl,rfl⟩
   |string=>
    obtain⟨s,rfl,l,E⟩:=DataW.trod_string u h;cases l;exact⟨[.str s],⟨s,rfl,rfl,E⟩,aG.single.2 rfl,λv g=>by simp at g;subst g;rfl,rfl⟩
   |slice e=>
    rcases DataW.trod_slice u h with⟨rfl,l⟩| ⟨a,len,cap,es,rest,m,rfl,rfl,l,_,hlc,WY,T,S,_,_⟩
    ·cases l;exact⟨[.aq],.inl ⟨rfl,rfl⟩,aG.single.2 rfl,λv g=>by simp at g;subst g;rfl,rfl⟩
    ·cases l;have E:a.spot=none:=B _ (List.mem_singleton_self _);obtain⟨af,vs,M,L,K,J,Y,h6⟩:=XV (R:=ik P f e) E (λc G p C q=>Ib (nest:=false) (λe=>by cases e) f e m c G p r (λe=>by cases e) q) len (by omega) S;refine⟨[.sl af false],.inr ⟨es.map (·.1),rest.map (·.1),af,rfl,rfl,by simp[T,M],by omega,λi x b l V=>?_⟩,aG.single.2 ?_,λv g=>by simp at g;subst g;rfl,rfl⟩
     ·rw[agA,agj]at l;obtain⟨y,N,rfl⟩:=l;exact L i y b N V
     ·refine⟨a.block,a.off,cap,P.cellsOf e,vs,?_,by omega,(λC=>absurd C (by decide)),λel F=>?_,h6,J,bw.iff.2 K⟩
      ·rw[M];obtain⟨b,o,s⟩:=a;simp at E;subst E;rfl
      ·obtain⟨j,W⟩:=asR.1 F;have hjl:=(adN.1 W).1;exact(L j es[j] el (adQ (by omega)) W).1
   |struct fs=>
    obtain⟨ys,m,rfl,l,I,A,z⟩:=DataW.trod_struct u h;cases l;obtain⟨xs,x1,x2,x3,Z⟩:=OQ (R:=ik P f) (cs:=cs) (λt' c G p hg C q=>PN f t' m c G p hg (λv g=>B v (C v g)) q) _ I fs.toList ys 0 r (by simpa using A) (λi fl hi=>z i fl (by simpa using hi));exact⟨xs,⟨_,rfl,x1⟩,by simpa using x2,by simpa using x3,by simpa using Z⟩
   |array k e=>
    simp only[ahV,atT]at r;obtain⟨Q,C⟩:=r;obtain⟨ys,m,rfl,l,I,A,z⟩:=DataW.trod_array u h;cases l;obtain⟨af,M,L,K,J,Y⟩:=XW (R:=ik P f e) (cs:=cs) (λc G p U q=>PN f e m c G p Q (λv g=>B v (U v g)) q) k (by rw[I,C];exact ae0 _) (by omega) z;have D:k*P.cellsOf e=cs.length:=by rw[I,C]
    rw[D,agk]at K J;exact⟨af.flatten,⟨_,af,rfl,rfl,by simpa using A,M,λi a b X V=>by
     rw[agA,agj]at X;obtain⟨y,N,rfl⟩:=X;exact L i y b N V⟩,K,J,by rw[Y,D]⟩
   |_=>cases r
def aru{b:Nat}{u:TypeId}{v:Value}(h:Cell.okWide P w .any b u v):Ia v:=by
 cases v with
 |slice a len cap=>
  cases a with
  |none=>trivial
  |some a=>
   unfold Cell.okWide at h;cases hu:P.underlying u with
   |none=>simp[hu,Cell.ok]at h
   |some td=>cases td<;>simp[hu,Cell.ok]at h<;>exact h.2.2.2.1
 |_=>trivial
def arv{t:TypeId}{f:Nat}{v:Value}{d:DataW H}{g:List MemPlace}{b:Nat}{fs:Array Field}(k:P.underlying t=some (.struct fs))(l:Bi P f t=true)(a:Value.okWide P w .any b t v)
  (h:DataW.Trod enc P w 0 sp held t v d g): ∃xs,an (Gh.start w) (.agg xs) v/\ik P f t d xs/\xs.length=P.cellsOf t:=by
 unfold Value.okWide at a;rw[k]at a;obtain⟨cs,rfl,e,ts,_,_,c⟩:=a;obtain⟨n,h⟩:=h;obtain⟨xs,r,q,p,o⟩:=PN f t n cs.toList d g l (λv j=>by
  obtain⟨i,m⟩:=asR.1 j;obtain⟨u,_,hu⟩:=c i v (by simpa using m);exact aru hu) h
 exact⟨xs,⟨cs,rfl,q,p⟩,r,by rw[o];simpa using e⟩
end
end Go.Den
