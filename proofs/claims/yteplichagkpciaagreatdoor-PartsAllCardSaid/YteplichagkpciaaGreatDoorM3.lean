/- What functions do; conditions as stated. -/
import Derived.Test.YteplichagkpciaaGreatDoorM2
set_option linter.all false
set_option maxRecDepth 10000
set_option maxHeartbeats 1000000
namespace Go.Proofs.YteplichagkpciaaGreatDoor
open Go Go.Den
variable{aa k i sz p q m M:Nat}{c:cn}{a v qv rv ev:AV}{b lo:oN}{af:List lA}{l:List aD}{tg:Option TypeId}{H0:List ae}{Q:Prop}{x:Core}{r:bt}{aE aP:Nat->AV}
def apZ:=@List.take_set_of_le
def axu:=@List.all_eq_not_any_not
def LW(m:Marks)(a aa:Nat):Marks:=if jC a aa then ao m a (B3 (m a) aa)else m
def avH(m:Marks)(r: ∀i,iU (m i))(a aa:Nat)(s:aa<4294967296)(H:List ae)(lo:oN):
  D X0 (.fn (.func 146) [] []) [.agg (c9 m),.int .i64 a,.int .i64 aa] ⟨H,lo⟩=some (.ret (.agg (c9 (LW m a aa))) ⟨H,lo⟩):=by
 refine aH EX λN l=>?_
 have g:o7.length=320:=by rfl
 have d:List.drop 320 o7=[]:=ag5 (by omega);have q: ∀m:Marks,List.take 320 (c9 m)=c9 m:=λm=>adP (by rw[eA];omega)
 have b:=λH lo=>TU a aa H lo
 unfold LW;cases c:jC a aa with
 |false=>
  rw[c]at b;simp only[F1,go_sem,simprocAttr,EX,l,b,↓rQ,eA,kh,g,d]
  try rfl
 |true=>
  rw[c]at b;obtain⟨j,t⟩:a<32/\aa<8:=by unfold jC at c;simpa using c
  have f: (0:Int)<=a/\ (a:Int)<32:=by omega
  have k:a*10<=319:=by omega
  have n:=(r a).has;simp only[afK];unfold B3;by_cases p: (m a).has=aa+1
  ·have e: (((m a).has:Nat):Int)=(aa:Int)+1:=by omega
   have h:aO (c9 m) (a*10) [.int .u8 0]=c9 (ao m a {m a with has:=0}):=Cs (o:=0) j (by simp) rfl;rw[adG p];simp only[F1,go_sem,simprocAttr,EX,l,b,f,↓vV j,e,h,k,↓rQ,eA,kh,g,d]
  ·have e: ¬(((m a).has:Nat):Int)=(aa:Int)+1:=by omega
   rw[adE p,mC];simp(disch:=omega) only[F1,go_sem,simprocAttr,EX,l,b,f,↓vV j,e,↓rQ,eA,kh,g,d]
def qj(m:Marks)(aa k:Nat):Marks:=λi=>if i<k then rE m aa i else m i
def avI(m:Marks)(a:aa<8)(b:k<32):qj m aa (k+1)=ao (qj m aa k) k (xv (B3 (m k) aa) aa):=by
 funext i
 unfold qj ao;by_cases e:i=k
 ·subst e;rw[adG (by omega),adG rfl];unfold rE;rw[adG (by unfold jC;grind)]
 grind
def avJ(m:Marks)(aa:Nat):qj m aa 32=rE m aa:=by
 funext i
 unfold qj;by_cases h:i<32
 ·grind
 ·rw[adE h];unfold rE;rw[adE (by unfold jC;grind)]
def avK(m:Marks)(k:Nat)(a: ¬aa<8):qj m aa k=m:=by
 funext i
 unfold qj rE;split
 ·rw[adE (by unfold jC;grind)]
 ·rfl
def ajk{l:fN}(h:iU l)(aa:Nat):iU (B3 l aa):=by
 unfold B3;split
 ·exact⟨by simp,h.n,h.lt,h.inj⟩
 omega
def avL{l:fN}(h:iU l)(n:i<l.n):iU (SA l i):=by
 have m:=h.n;have f:=h.lt;unfold SA;refine⟨h.has,by grind,λj=>?_,λa b k g c=>?_⟩
 ·show(if j=l.n-1 then 0 else if i<=j/\j<7 then l.wait (j+1)else l.wait j)<8
  grind
 ·have e:a<l.n-1:=k;have d:b<l.n-1:=g;simp only[ao,adE (show a≠l.n-1 by omega),adE (show b≠l.n-1 by omega)]at c;have key: ∀j,j<l.n-1->(if i<=j/\j<7 then l.wait (j+1)else l.wait j)=l.wait (if i<=j then j+1 else j):=by grind
  rw[key a e,key b d]at c;have:=h.inj _ _ (by grind) (by grind) c
  grind
def ajl{l:fN}(h:iU l)(aa:Nat):iU (xv l aa):=by
 unfold xv;split
 ·exact h
 ·rename_i i a;exact avL h (aje a).1
def TV{m:Marks}(a: ∀i,iU (m i))(aa:Nat): ∀i,iU (rE m aa i):=by
 intro i;unfold rE;split
 ·exact ajl (ajk (a i) aa) aa
 grind
def avM{m:Marks}(a: ∀i,iU (m i))(aa k:Nat): ∀i,iU (qj m aa k i):=by
 intro i;unfold qj;split
 ·exact TV a aa i
 grind
def avN{m:Marks}(g: ∀i,iU (m i))(c:Nat): ∀i,iU ((jk m c aa).1 i):=by
 unfold jk;split
 ·omega
 rename_i h;obtain⟨v,p⟩:c<32/\aa<8:=by unfold jC at h;grind
 split
 ·omega
 split
 ·intro i;show iU (ao _ _ _ _);unfold ao;split
  ·have:=ajl (g c) aa;exact⟨by show aa+1<=8;omega,this.n,this.lt,this.inj⟩
  grind
 split
 ·rename_i f;intro i;show iU (ao _ _ _ _);unfold ao;split
  ·have w:=ajj (g c) p f;have k:=g c;have e: ∀j,j< (m c).n->(m c).wait j≠aa:=by
    intro j q he;unfold rD at f;rw[awO]at f;have:=f j (aiF.2 q);simp at this;omega
   refine⟨k.has,by show(m c).n+1<=8;omega,λj=>?_,λa b u s l=>?_⟩
   ·show(if j=(m c).n then aa else(m c).wait j)<8;split
    ·exact p
    ·exact k.lt j
   ·have t:a< (m c).n+1:=u;have r:b< (m c).n+1:=s;have d: (if a=(m c).n then aa else(m c).wait a)=(if b=(m c).n then aa else(m c).wait b):=l;by_cases o:a=(m c).n<;>by_cases n:b=(m c).n
    ·omega
    ·rw[adG o,adE n]at d;exact absurd d.symm (e b (by omega))
    ·rw[adE o,adG n]at d;exact absurd d (e a (by omega))
    ·rw[adE o,adE n]at d;exact k.inj a b (by omega) (by omega) d
  ·exact g i
 omega
def avO(m:Marks)(z: ∀i,iU (m i))(aa:Nat)(y:aa<4294967296)(H:List ae)(lo:oN):
  D X0 (.fn (.func 133) [] []) [.agg (c9 m),.int .i64 aa] ⟨H,lo⟩=some (.ret (.agg (c9 (rE m aa))) ⟨H,lo⟩):=by
 refine aH Qk λN E=>?_
 have x:o7.length=320:=by rfl
 have j:List.drop 320 o7=[]:=ag5 (by rw[x];omega);have f: ∀m:Marks,List.take 320 (c9 m)=c9 m:=λm=>adP (by rw[eA];omega)
 have g: ∀m:Marks,List.drop 320 (c9 m)=[]:=λm=>ag5 (by rw[eA];omega)
 simp only[go_sem,simprocAttr,Qk,E];refine eN 32 (λk e H'=>H'=H++[.box (c9 (qj m aa k)) none,.box o7 none]/\e 1= .int .i64 aa/\e 2= .ptr N 0/\e 4= .ptr (N+1) 0/\e 6= .int .i64 k) 0 (by omega) ?_ ?_
 ·simp only[go_sem,simprocAttr];rfl
 rintro k G e H' ⟨rfl,w,v,u,t⟩ n F;simp(disch:=omega) only[cb,go_sem,simprocAttr,aeH,w,v,u,t];refine⟨λC=>?_,λC=>?_⟩
 ·have d:k<32:=by omega
  have h: (0:Int)<=k/\ (k:Int)<32:=by omega
  have r:k*10+10<=320:=by omega
  have a:=λH lo=>avH _ (avM z aa k) k aa y H lo
  have b:=λH lo=>TU k aa H lo
  have s:qj m aa k k=m k:=by unfold qj;rw[adE (by omega)]
  by_cases A:aa<8
  ·have c:jC k aa=true:=by unfold jC;simp;omega
   have B:=avI m A d;unfold LW at a;rw[c,s,adG rfl]at a;rw[c]at b;have p:=λH lo=>aji _ (ajk (z k) aa) aa y H lo
   have q: ∀ (m:Marks) (l:fN),aO (c9 m) (k*10) (fP l)=c9 (ao m k l):=λm l=>Cs (o:=0) d (by rw[z8];omega) rfl
   simp(disch:=omega) only[go_sem,simprocAttr,w,v,u,t,b,a,h,r,↓xO d,p,q,bS,rp,eA,kh,z8,F4,f,g,agT];rw[B];exact⟨d,rfl⟩
  ·have c:jC k aa=false:=by unfold jC;simp;omega
   unfold LW at a;rw[c,adE (by simp)]at a;rw[c]at b;simp only[avK m _ A]at a⊢;simp(disch:=omega) only[go_sem,simprocAttr,w,v,u,t,b,a,h,eA,kh,f,g,agT];exact d
 ·obtain rfl:k=32:=by omega
  rw[avJ];simp(disch:=omega) only[F1,go_sem,simprocAttr,eA,kh,x,j,f]
noncomputable def F6:lA->AS->Option aV:=nY XB (D XB) Lw 166 J4
def Ct(args:lA)(E:AS):Option aV:=match args with
 | [.av,.int .i64 n]=>if n=0 then some (.ret .av E)else if 0<n/\n<=1024 then some (.ret (.ref E.heap.length 0 2 0 0 false) (E.push (.row 0 2 fb [])))else none
 |_=>none
noncomputable def XC:Ctx:={XB with bW:=λf=>if f=166 then some F6 else if f=192 then some Ct else XB.bW f}
theorem TW:Ext XB XC where
 dR:=rfl
 gl:=rfl
 code:=rfl
 bW:=λf=>by
  by_cases b:f=166
  ·subst b;exact .inr ⟨rfl,rfl⟩
  ·by_cases a:f=192
   ·subst a;exact .inr ⟨rfl,rfl⟩
   ·left;show(if f=166 then some F6 else if f=192 then some Ct else XB.bW f)=XB.bW f
    grind
section
variable{v:AV}{args:lA}{E:AS}{r:aV}
def cB(h:D XB v args E=some r):D XC v args E=some r:=vJ TW h
def cX(h:D X v args E=some r):D XC v args E=some r:=vJ TW (lX h)
def c0(h:D X0 v args E=some r):D XC v args E=some r:=vJ TW (lz h)
end
def avP{X:Ctx}{f:FuncId}{p:lA->AS->Option aV}{args a:lA}{E:AS}{b:aV}(c:X.bW f=some p)(h:p (args++a) E=some b):D X (.fn (.func f) [] a) args E=some b:=by
 refine Ht ?_;simp only[Go.Den.step,c,ag8];exact h
def TX{s:bm}(f:aW s)(l:gE c){a b:Nat}{H:List ae}(n:H[a]?=some (.box (bz s) none))(m:H[b]?=some (.box (bn c) none))(N:Nat)(o:H.length=N)(lo:oN):
  ∃v J ak,D XC (.fn (.func 166) [] [.ptr a 0,.ptr b 0]) [] ⟨H,lo⟩=some (.ret v ⟨H++J,ak⟩)/\aT N (H++J) v 1 bZ ((under s.T c.r).map hC)/\ (ak=lo\/ ∃j,N<=j/\ak=cJ lo j):=by
 suffices i: ∃d,F6 [.ptr a 0,.ptr b 0] ⟨H,lo⟩=some d/\ (λd=> ∃v J ak,d=aV.ret v ⟨H++J,ak⟩/\aT N (H++J) v 1 bZ ((under s.T c.r).map hC)/\ (ak=lo\/ ∃j,N<=j/\ak=cJ lo j)) d by
  obtain⟨d,t,v,J,ak,rfl,q⟩:=i;exact⟨v,J,ak,avP (p:=F6) rfl t,q⟩
 refine wH (X:=XB) J4 rfl λM u=>?_
 obtain⟨v,J,ak,e,h,g⟩:=Lc s.T f.T f.tr c.r l.r N H o none;have e:=lX e;simp only[go_sem,simprocAttr,J4,n,m,↓SL,gF,e,sx];refine⟨_,_,_,rfl,h,?_⟩;rcases g with rfl| ⟨j,k,rfl⟩
 ·exact .inl rfl
 ·exact .inr ⟨j,k,rfl⟩
def avQ(n:Nat)(c:n<=1024)(H:List ae)(lo:oN):
  D XC (.fn (.func 192) [] []) [.av,.int .i64 n] ⟨H,lo⟩=some (.ret (if n=0 then .av else .ref H.length 0 2 0 0 false) ⟨H++(if n=0 then[]else[.row 0 2 fb []]),lo⟩):=by
 refine DD (p:=Ct) rfl ?_;unfold Ct;by_cases h:n=0
 ·grind
 ·have b: ¬((n:Nat):Int)=0:=by omega
  have a: (0:Int)<n/\ (n:Int)<=1024:=by omega
  simp only[adE h,adE b,adG a];rfl
abbrev VR:=AV×List aD
def fX(l:List VR):List aD:=l.flatMap (·.2)
def Aa(x:VR):lA:=[x.1]
def LX{l:List VR}(h:k<l.length):fX (l.take (k+1))=fX (l.take k)++(l.getD k default).2:=by
 unfold fX;rw[agR,alZ,afA,adM h];simp
def avR{N:Nat}{H:List ae}{bytes:Nat}{ty:TypeId}(h:aT N H v sz ty af)(a:0<sz)(d:af.length*bytes<=room):dL ⟨H,lo⟩ ty sz bytes v []=some (v,⟨H,lo⟩):=by
 unfold dL;rw[adG ⟨a,rfl⟩];rcases h.2 with⟨rfl,_⟩| ⟨id,aj,c,rfl,b⟩
 ·rfl
 grind
def avS(l:List VR)(hl:l.length<=3)(P: ∀x∈l,x.2.length<=64)(H:List ae)(R: ∀x∈l,Rd ⟨H,none⟩ x.1 2 (x.2.map aA))(lo:oN):
  D XC (.fn (.func 186) [] []) [.sl (l.map Aa) true] ⟨H,lo⟩=some (.ret (eu (fX l)) ⟨H,lo⟩):=by
 refine aH QL λN X=>?_
 have s:Rv (.sl (l.map Aa) true) 1 (l.map Aa):=.sl (by intro el d;obtain⟨x,_,rfl⟩:=afq.1 d;rfl);have y: ∀k,(fX (l.take k)).length<=64*k:=by
  intro k
  induction k with
  |zero=>simp[fX]
  |succ k ih=>
   by_cases h:k<l.length
   ·rw[LX h,aeb];have:=P _ (fO h);omega
   ·rw[adP (by omega)];rw[adP (by omega)]at ih;omega
 generalize(AV.sl (l.map Aa) true)=V at*;simp only[go_sem,simprocAttr,QL,s.bY];refine eN l.length (λk e H'=>H'=H/\e 0=V/\e 3= .int .i64 (fX (l.take k)).length/\e 9=V/\e 10= .int .i64 l.length/\e 11= .int .i64 k) 0 (by omega) ?_ ?_
 ·simp only[go_sem,simprocAttr];rfl
 rintro k hk e H' ⟨rfl,h0,O,Y,B,A⟩ n hn;simp only[cb,go_sem,simprocAttr,aeS,O,Y,B,A];refine⟨λK=>?_,λK=>?_⟩
 ·have a:k<l.length:=by omega
  have j:=(R _ (fO a)).bY;have w:=y (k+1);have U:=y k;rw[LX a,aeb]at w;have u: ((fX (l.take k)).length:Int)+(l.getD k default).2.length=((fX (l.take (k+1))).length:Nat):=by rw[LX a,aeb];omega
  have I: ¬(((fX (l.take (k+1))).length:Nat):Int)<0:=by omega
  have g: (Aa (l.getD k default))[0]?=some (l.getD k default).1:=rfl;have T:=y (k+1);simp(disch:=omega) only[go_sem,simprocAttr,h0,O,Y,B,A,s.cD,s.di,g,j,u,I];exact⟨by omega,a⟩
 ·obtain rfl:k=l.length:=by omega
  have c:fX (l.take l.length)=fX l:=by rw[aft]
  rw[c]at O;have M:=avQ (fX l).length (by have:=y l.length;rw[c]at this;omega);simp only[go_sem,simprocAttr,c,h0,M,s.bY];obtain⟨v0,t⟩: ∃v0,v0=(if(fX l).length=0 then .av else AV.ref H'.length 0 2 0 0 false):=⟨_,rfl⟩;obtain⟨W0,z⟩: ∃W0,W0=H'++(if(fX l).length=0 then[]else[ae.row 0 2 fb []]):=⟨_,rfl⟩;rw[<-t,<-z];have F:aT N W0 v0 2 fb ([].map aA)/\ ((fX l).length=0->v0= .av)/\H'<+:W0:=by
   rw[t,z];by_cases h: (fX l).length=0
   ·rw[adG h,adG h];exact⟨aT.av,λ_=>rfl,by simp⟩
   ·rw[adE h,adE h];exact⟨⟨by simp,.inr ⟨H'.length,0,by omega,rfl,by simp⟩⟩,λq=>absurd q h,aqc _ _⟩
  refine eN l.length (λk e W=>(∃v,e 6=v/\aT N W v 2 fb ((fX (l.take k)).map aA)/\ ((fX l).length=0->v= .av))/\H'<+:W/\e 25=V/\e 26= .int .i64 l.length/\e 27= .int .i64 k) 0 (by omega) ?_ ?_
  ·simp only[go_sem,simprocAttr];exact⟨⟨_,rfl,F.1,F.2.1⟩,F.2.2⟩
  rintro k hk e W ⟨⟨v,Z,r,f⟩,b,p,o,m⟩ n hn;simp only[cb,F1,go_sem,simprocAttr,aeR,Z,p,o,m];refine⟨λK=>?_,λK=>?_⟩
  ·have a:k<l.length:=by omega
   have j:=Rd.mono (ak:=none) (R _ (fO a)) b;have g: (Aa (l.getD k default))[0]?=some (l.getD k default).1:=rfl;have d:=j.eq;have w:=y k;have hzk:=P _ (fO a);have C:=LX a;simp(disch:=omega) only[go_sem,simprocAttr,Z,s.cD,s.di,g,d];generalize A1: (l.getD k default).2=rr at*;by_cases Q:rr=[]
   ·subst Q;rw[agT]at C;rw[aqr,avR r (by omega) (by rw[afm];unfold room;omega)];simp(disch:=omega) only[go_sem,simprocAttr,p,o,m];rw[C];exact⟨by omega,a,⟨v,rfl,r,f⟩,b⟩
   ·have J: ¬(fX l).length=0:=by
      intro q;have q2:fX l=[]:=aiR.1 q;have:fX l=fX (l.take (k+1))++fX (l.drop (k+1)):=by
       unfold fX;rw[<-alZ,akP]
      rw[C]at this;rw[q2]at this;simp[Q]at this
    refine⟨by omega,?_⟩;refine qQ (bytes:=16) (ys:=rr.map aA) r b X (by omega) (by intro el d;obtain⟨x,_,rfl⟩:=afq.1 d;rfl) (bH (λ_=>rfl) _) (by rw[afm,afm];unfold room;omega) λv' W2 E G=>?_
    simp(disch:=omega) only[go_sem,simprocAttr,p,o,m];rw[C,afr];exact⟨a,⟨v',rfl,E,λq=>absurd q J⟩,G⟩
  ·obtain rfl:k=l.length:=by omega
   rw[c]at r;have S:=r.OI (lo:=lo) (by rw[bH (λ_=>rfl)];omega);rw[DA]at S;rw[S];refine dx ?_ (lJ X λi hi=>?_)
   ·unfold eu;by_cases h: (fX l).length=0
    ·rw[f h,aiR.1 h];rfl
    ·have h1: (fX l).isEmpty=false:=by
       cases hq:fX l with
       |nil=>rw[hq]at h;exact absurd rfl h
       |cons=>rfl
     rw[h1];rcases r.2 with⟨_,q⟩| ⟨id,aj,_,rfl,_⟩
     ·rw[ap3]at q;rw[q]at h;exact absurd rfl h
     ·rfl
   ·obtain⟨L,rfl⟩:=b;rw[acV (by omega)]
def avT(x y:aD)(c:x.1+x.2<4294967296)(b:y.1+y.2<4294967296)(p:Nat)(H:List ae)(lo:oN)(d:H[p]?=some (.box (aA x) none)):
  D X0 (.fn (.func 185) [] [.ptr p 0]) [.agg (aA y)] ⟨H,lo⟩=some (.ret (.bool (holds y x)) ⟨H,lo⟩):=by
 refine fJ QK λN e=>?_
 have a: ∀L,(H++L)[p]?=some (.box (aA x) none):=λL=>bf d
 simp only[F1,go_sem,simprocAttr,QK,e,a,agJ y x b c]
def avU(b:Rv v 2 (l.map aA))(d:l≠[]): ∃c,v= .sl (l.map aA) c:=by
 obtain⟨e,a,f⟩:=b ⟨[],none⟩;cases v<;>simp only[]at e
 ·simp only[Den.elems]at a;simp_all
 ·simp only[Den.elems]at a
  grind
 ·trivial
def avV(b: ∀el∈af,el.length=sz){c:Bool}(f:i<=af.length): ∃w,gJ sz (.sl af c) none (some (.int .i64 i)) none=some w/\Rv w sz (af.take i):=by
 refine⟨.sl (af.take i) (c&&i==af.length),?_,.sl λel a=>b el (ag9 a)⟩;have d:gI af.length none (some (.int .i64 i))=some (0,i):=by
  have e: (i:Int)<=af.length:=by omega
  simp[gI,lQ,e]
 simp only[gJ,d,lR]
 grind
def ajm(b: ∀el∈af,el.length=sz){c:Bool}(g:i<=af.length): ∃w,gJ sz (.sl af c) (some (.int .i64 i)) none none=some w/\Rv w sz (af.drop i):=by
 refine⟨.sl (af.drop i) (c&&af.length==af.length),?_,.sl λel a=>b el (an4 a)⟩;have d:gI af.length (some (.int .i64 i)) none=some (i,af.length):=by
  have f: (i:Int)<=af.length:=by omega
  simp[gI,lQ,f]
 have e:af.all (λel=>el.length==sz)=true:=by grind
 simp only[gJ,d,lR];rw[adG e,adP (by simp)]
def ajn(l:List aD): ∀el∈l.map aA,el.length=2:=by intro el a;obtain⟨x,_,rfl⟩:=afq.1 a;rfl
def TY(v:AV)(l:List aD)(x:aD):AV:=match mK l x with
 |some a=>.az [.agg [eu a],.bool true]
 |none=>.az [.agg [v],.bool false]
def qk{E:AS}(h:Rd E v sz af):v.cp=false/\v.cells=[v]:=by
 have a:=h.kind;cases v<;>simp only[]at a<;>exact⟨rfl,rfl⟩
def avW(v:AV)(l:List aD)(E:Rv v 2 (l.map aA))(G:B7 l)(x:aD)(SG:x.1<4294967296)(SH:x.2<4294967296)(H:List ae)(lo:oN):
  D XC (.fn (.func 174) [] []) [.agg [v],.int .i64 (x.1:Nat),.int .i64 (x.2:Nat)] ⟨H,lo⟩=some (.ret (TY v l x) ⟨H,lo⟩):=by
 refine aH E2 λN p=>?_
 have hm:=λH lo=>c0 (SC x SG SH H lo)
 have hr:aA x=[.int .i64 (x.1:Nat),.int .i64 (x.2:Nat)]:=rfl;rw[hr]at hm;have F:v.refs=0:=dj E (bH (λ_=>rfl) l);unfold TY;cases f:j9 x with
 |false=>
  have e0:mK l x=none:=by unfold mK;rw[adG f]
  rw[e0];rw[f]at hm;simp only[F1,go_sem,simprocAttr,E2,p,hm,F]
 |true=>
  rw[f]at hm;have hx:1<=x.2/\x.1+x.2<=64:=by simpa[j9]using f
  have d:=λH lo h=>c0 (agE v (.fn (.func 185) [] [.ptr (N+2) 0]) l E (by have:=G.1;omega) (λy=>holds y x) H lo h)
  have d:=d (H++[.box [v] none,.box [.av] none,.box (aA x) none]) none (λy Z=>avT x y (by omega) (by have:=G.2 y Z;omega) (N+2) _ none (by rw[bF p];rfl));rw[hr]at d;have e1:mK l x=match l.findIdx? λy=>holds y x with
   |none=>none
   |some i=>some (l.take i++((if(l.getD i (0,0)).1<x.1 then[((l.getD i (0,0)).1,x.1- (l.getD i (0,0)).1)]else[])++(if x.1+x.2< (l.getD i (0,0)).1+(l.getD i (0,0)).2 then[(x.1+x.2,(l.getD i (0,0)).1+(l.getD i (0,0)).2- (x.1+x.2))]else[]))++l.drop (i+1)):=by
   unfold mK;rw[adE (by rw[f];simp)];rfl
  rw[e1];unfold ke at d;cases hi:l.findIdx? (λy=>holds y x)with
  |none=>
   rw[hi]at d;simp only at d;simp only[F1,go_sem,simprocAttr,E2,p,hm,d,F]
  |some i=>
   rw[hi]at d;simp only at d⊢;have I:i<l.length:=by
    obtain⟨h,_⟩:=apR.1 hi;exact h
   have hi0: ¬((i:Nat):Int)<0:=by omega
   have A3:=G.1;have LY:=λl=>dj (mD l) (bH (g:=aA) (λ_=>rfl) l)
   have gO:l.getD i (0,0)=l.getD i default:=rfl;rw[gO];have hyb:=G.2 _ (fO I);have aC2:=E.cD (k:=.i64) (a:=i);obtain⟨c,hvc⟩:=avU E (by rintro rfl;simp at I);obtain⟨w1,s1,U⟩:=avV (c:=c) (ajn l) (i:=i) (by rw[afm];omega);obtain⟨R,s2,T⟩:=ajm (c:=c) (ajn l) (i:=i+1) (by rw[afm];omega);rw[<-hvc]at s1 s2;rw[<-List.map_take]at U;rw[<-List.map_drop]at T;generalize Z:l.getD i default=y at*;obtain⟨B,hB⟩: ∃B:List ae,B=[.box [v] none,.box [.av] none,.box (aA x) none,.box (aA y) none]:=⟨_,rfl⟩;have O: (H++B).length=N+4:=by rw[hB];simp[p]
   have iK: ∀W,(H++B)<+:W->W[N]?=some (.box [v] none)/\W[N+1]?=some (.box [.av] none)/\W[N+2]?=some (.box (aA x) none)/\W[N+3]?=some (.box (aA y) none):=by
    rintro W ⟨L,rfl⟩;rw[hB,adK];refine⟨by rw[dI p];rfl,by rw[bF p];rfl,by rw[bF p];rfl,by rw[bF p];rfl⟩
   have Ds: (aA x)[0]?=some (.int .i64 x.1):=rfl;have wv: (aA y)[0]?=some (.int .i64 y.1):=rfl;have hex:=λH lo=>c0 (B6 x (by omega) H lo)
   have J:=λH lo=>c0 (B6 y (by omega) H lo)
   have tx:List.take 2 (aA x)=aA x:=rfl;have ty:List.take 2 (aA y)=aA y:=rfl;have dz: ∀r:aD,List.drop 2 (aA r)=[]:=λ_=>rfl
   have lx: ∀r:aD,(aA r).length=2:=λ_=>rfl
   have bl: ∀a b:Nat,[AV.int .i64 (a:Int),AV.int .i64 (b:Int)]=aA (a,b):=λ_ _=>rfl
   simp(disch:=omega) only[go_sem,simprocAttr,E2,p,hm,d,hi0,E.cD,E.di,Z,lx];refine⟨by omega,?_⟩;refine aaw (λe W ak=>ak=none/\ (H++B)<+:W/\aT (N+4) W (e 12) 2 fb ((if y.1<x.1 then[(y.1,x.1-y.1)]else[]).map aA)/\e 3= .ptr N 0/\e 6= .ptr (N+1) 0/\e 8= .ptr (N+2) 0/\e 10= .int .i64 i/\e 11= .ptr (N+3) 0) ?_ ?_
   ·simp(disch:=omega) only[cb,go_sem,simprocAttr];refine⟨λa=>?_,λa=>?_⟩
    ·have V: (x.1:Int)-y.1=((x.1-y.1:Nat):Int):=by omega
     simp only[go_sem,simprocAttr,V];refine qQ (N:=N+4) (H0:=H++B) (af:=[]) (bytes:=16) (ys:=[aA (y.1,x.1-y.1)]) aT.av (by rw[hB];exact aqe) O (by omega) (by intro el t;rw[aeh.1 t];rfl) rfl (by simp[room]) λv' W2 Y X=>?_
     simp only[go_sem,simprocAttr,HH];rw[adG (by omega)];exact⟨X,Y⟩
    ·simp only[go_sem,simprocAttr,HH];rw[adE (by omega)];exact⟨by rw[hB];exact aqe,aT.av⟩
   ·rintro e W ak ⟨rfl,s,q,e3,e6,e8,n,m⟩;obtain⟨C,M⟩: ∃C,C=(if y.1<x.1 then[(y.1,x.1-y.1)]else[]):=⟨_,rfl⟩;have aC3:C.length<=1:=by rw[M];split<;>simp
    rw[<-M]at q⊢;obtain⟨g0,g1,g2,Q⟩:=iK W s;simp only[go_sem,simprocAttr,g2,Q,e8,m,hex,J];refine aaw (λe W ak=>ak=none/\ (H++B)<+:W/\aT (N+4) W (e 12) 2 fb ((C++(if x.1+x.2<y.1+y.2 then[(x.1+x.2,y.1+y.2- (x.1+x.2))]else[])).map aA)/\e 3= .ptr N 0/\e 6= .ptr (N+1) 0/\e 8= .ptr (N+2) 0/\e 10= .int .i64 i/\e 11= .ptr (N+3) 0) ?_ ?_
    ·simp only[cb,go_sem,simprocAttr];refine⟨λa=>?_,λa=>?_⟩
     ·have V: (y.1:Int)+y.2- ((x.1:Int)+x.2)=((y.1+y.2- (x.1+x.2):Nat):Int):=by omega
      have q2: (x.1:Int)+x.2=((x.1+x.2:Nat):Int):=by omega
      simp(disch:=omega) only[go_sem,simprocAttr,g2,Q,e8,m,hex,J,V];rw[q2];refine qQ (H0:=H++B) (bytes:=16) (ys:=[aA (x.1+x.2,y.1+y.2- (x.1+x.2))]) q s O (by omega) (by intro el t;rw[aeh.1 t];rfl) rfl (by rw[afm];simp[room];omega) λv' W2 Y X=>?_
      simp only[go_sem,simprocAttr,HH,e3,e6,e8,n,m];rw[adG (by omega),afr];exact⟨X,Y⟩
     ·simp only[go_sem,simprocAttr,HH,e3,e6,e8,n,m];rw[adE (by omega),agT];exact⟨s,q⟩
    ·clear g0 g1 g2 Q s q e3 e6 e8 n m e W;rintro e W ak ⟨rfl,s,q,e3,e6,e8,n,m⟩;obtain⟨P,A⟩: ∃P,P=C++(if x.1+x.2<y.1+y.2 then[(x.1+x.2,y.1+y.2- (x.1+x.2))]else[]):=⟨_,rfl⟩;have aC4:P.length<=2:=by rw[A];split<;>simp<;>omega
     rw[<-A]at q;generalize hw:e 12=w at*;obtain⟨g0,g1,g2,Q⟩:=iK W s;have u:=λlo=>avS [(w1,l.take i),(w,P),(R,l.drop (i+1))] (by simp) (by have:=G.1;simp;omega) W (by
      intro z hz;simp only[afJ,List.not_mem_nil,or_false]at hz;rcases hz with rfl|rfl|rfl
      ·exact U _
      ·exact q.rd
      ·exact T _) lo
     have K:fX [(w1,l.take i),(w,P),(R,l.drop (i+1))]=l.take i++(C++((if x.1+x.2<y.1+y.2 then[(x.1+x.2,y.1+y.2- (x.1+x.2))]else[])++l.drop (i+1))):=by simp[fX,A]
     rw[K]at u;generalize(l.take i++(C++((if x.1+x.2<y.1+y.2 then[(x.1+x.2,y.1+y.2- (x.1+x.2))]else[])++l.drop (i+1))))=LL at*;obtain⟨t7,t8⟩:=qk (mD LL ⟨[],none⟩);have oE:W.take N=H:=lJ p λj hj=>by
      obtain⟨L,rfl⟩:=s;rw[adK,acV (by omega)]
     have uM: ∀o,(W.set (N+1) o).take N=H:=λo=>by rw[apZ (by omega),oE]
     simp only[aiQ,aqr,Aa]at u;obtain⟨t1,t2⟩:=qk (U ⟨[],none⟩);obtain⟨t3,t4⟩:=qk (T ⟨[],none⟩);obtain⟨t5,t6⟩:=qk (q.rd (lo:=none));have S:gJ 2 v (some (.int .i64 ((i:Int)+1))) none none=some R:=s2;simp(disch:=omega) only[F1,go_sem,simprocAttr,g0,g1,e3,e6,n,hw,s1,S,t1,t2,t3,t4,t5,t6,t7,t8,de g1,uM,u,LY]
abbrev uo(a b:aD):Prop:=a.1+a.2<b.1
structure dP(l:List aD):Prop where
 pw:l.Pairwise uo
 bd: ∀x∈l,1<=x.2/\x.1+x.2<=64
def dP.ok(h:dP l):B7 l:=by
 refine⟨?_,λx c=>(h.bd x c).2⟩;have f: (l.map (·.1)).Nodup:=by
  rw[awE,aA3];refine h.pw.imp λ {a b} d he=>?_
  omega
 have:=LF 64 _ f (by
  intro a e;obtain⟨x,c,rfl⟩:=afq.1 e;have:=h.bd x c;omega)
 grind
def dP.nil:dP []:=⟨.nil,by simp⟩
def dP.app{a b:List aD}(e:dP a)(d:dP b)(c: ∀x∈a,∀y∈b,uo x y):dP (a++b):=
 ⟨anU.2 ⟨e.pw,d.pw,c⟩,λx f=>(aeg.1 f).elim (e.bd x) (d.bd x)⟩
def dP.one{x:aD}(c:1<=x.2)(b:x.1+x.2<=64):dP [x]:=⟨List.pairwise_singleton _ _,λy a=>by grind⟩
def avZ: ∀ (l:List aD) (x:aD) (put:Bool) (out k:List aD),1<=x.2->x.1+x.2<=64->dP l->dP out->(∀a∈out,∀b∈l,uo a b)->(put=false-> ∀a∈out,uo a x)->(put=true-> ∀b∈l,uo x b)->
  gz x put out l=some k->dP k:=by
 intro l
 induction l with
 |nil=>
  intro x put out k s r _ ho _ p _ h;unfold gz at h;cases h;cases put with
  |true=>grind
  |false=>exact ho.app (dP.one s r) λa d b e=>by rw[aeh.1 e];exact p rfl a d
 |cons y ys t=>
  intro x put out k s r A ho j p w h;have i:=akT.1 A.pw;have g:dP ys:=⟨i.2,λz B=>A.bd z (afv _ B)⟩;have u:=A.bd y (afG ..);have m: ∀a∈out,uo a y:=λa d=>j a d y (afG ..)
  unfold gz at h;split at h
  ·rename_i c;refine t x put (out++[y]) k s r g (ho.app (dP.one u.1 u.2) λa d b e=>by rw[aeh.1 e];exact m a d) ?_ ?_ (λq b e=>w q b (afv _ e)) h
   ·intro a d b e;rcases aeg.1 d with d|d
    ·exact j a d b (afv _ e)
    ·rw[aeh.1 d];exact i.1 b e
   ·intro q a d;rcases aeg.1 d with d|d
    ·exact p q a d
    ·rw[aeh.1 d];exact c
  ·split at h
   ·rename_i c;have v:dP (out++(if put then[]else[x])):=by
     cases put with
     |true=>simpa using ho
     |false=>
      refine ho.app (dP.one s r) λa d b e=>?_
      have:b=x:=by simpa using e
      rw[this];exact p rfl a d
    have o: ∀a∈out++(if put then[]else[x]),uo a y:=by
     intro a d;rcases aeg.1 d with d|d
     ·exact m a d
     ·cases put with
      |true=>simp at d
      |false=>
       have:a=x:=by simpa using d
       rw[this];exact c
    refine t x true (out++(if put then[]else[x])++[y]) k s r g (v.app (dP.one u.1 u.2) λa d b e=>by rw[aeh.1 e];exact o a d) ?_ (λq=>by cases q) ?_ h
    ·intro a d b e;have n:uo y b:=i.1 b e;rcases aeg.1 d with d|d
     ·have:=o a d;have D:y.1+y.2<b.1:=n;have C:a.1+a.2<y.1:=this;show a.1+a.2<b.1;omega
     ·rw[aeh.1 d];exact n
    ·intro _ b e;have D:y.1+y.2<b.1:=i.1 b e;have C:x.1+x.2<y.1:=c;show x.1+x.2<b.1;omega
   ·split at h
    ·rename_i G F E;have f:put=false:=by
      cases put with
      |false=>rfl
      |true=>
       have:x.1+x.2<y.1:=w rfl y (afG ..);omega
     refine t (y.1,y.2+x.2) put out k (by show 1<=y.2+x.2;omega) (by show y.1+(y.2+x.2)<=64;omega) g ho (λa d b e=>j a d b (afv _ e)) (λ_ a d=>m a d) (λq=>by rw[f]at q;cases q) h
    ·split at h
     ·rename_i G F E H;have f:put=false:=by
       cases put with
       |false=>rfl
       |true=>
        have:x.1+x.2<y.1:=w rfl y (afG ..);omega
      refine t (x.1,x.2+y.2) put out k (by show 1<=x.2+y.2;omega) (by show x.1+(x.2+y.2)<=64;omega) g ho (λa d b e=>j a d b (afv _ e)) (λq a d=>p q a d) (λq=>by rw[f]at q;cases q) h
     ·cases h
theorem dP.gR{a:List aD}{x:aD}(h:dP l)(b:gR l x=some a):dP a:=by
 unfold Go.Proofs.YteplichagkpciaaGreatDoor.gR at b;split at b
 ·rename_i hm;have c:1<=x.2/\x.1+x.2<=64:=by simpa[j9]using hm
  exact avZ l x false [] a c.1 c.2 h dP.nil (by simp) (λ_=>by simp) (λq=>by cases q) b
 grind
theorem dP.take{s:List aD}{x:aD}(h:dP l)(j:mK l x=some s):dP s:=by
 unfold mK at j;split at j
 ·cases j
 rename_i hm;have J:1<=x.2/\x.1+x.2<=64:=by simpa[j9]using hm
 split at j
 ·cases j
 rename_i i E;cases j;obtain⟨m,g,_⟩:=apR.1 E;have p:l.getD i (0,0)=l[i]:=by simp[afA,adM m]
 rw[p];have d:l=l.take i++(l[i]::l.drop (i+1)):=by rw[<-amw m,akP]
 generalize I:l[i]=y at*;generalize l.take i=A at*;generalize l.drop (i+1)=B at*;have k:=h.pw;have e:=h.bd;rw[d]at k e;obtain⟨w,v,r⟩:=anU.1 k;obtain⟨u,t⟩:=akT.1 v;have C:=e y (by simp);have F:x=y\/ (y.1<=x.1/\x.1+x.2<=y.1+y.2):=by simpa using g
 have D:y.1<=x.1/\x.1+x.2<=y.1+y.2:=by
  rcases F with rfl|q
  ·exact⟨aef _,aef _⟩
  ·exact q
 have H:dP A:=⟨w,λz o=>e z (by simp[o])⟩;have hB:dP B:=⟨t,λz o=>e z (by simp[o])⟩;have G:dP ((if y.1<x.1 then[(y.1,x.1-y.1)]else[])++(if x.1+x.2<y.1+y.2 then[(x.1+x.2,y.1+y.2- (x.1+x.2))]else[])):=by
  refine dP.app ?_ ?_ ?_
  ·split
   ·exact dP.one (by show 1<=x.1-y.1;omega) (by show y.1+(x.1-y.1)<=64;omega)
   ·exact dP.nil
  ·split
   ·exact dP.one (by show 1<=y.1+y.2- (x.1+x.2);omega) (by show x.1+x.2+(y.1+y.2- (x.1+x.2))<=64;omega)
   ·exact dP.nil
  ·intro a c b f;split at c<;>split at f<;>simp at c f;rw[c,f];show y.1+(x.1-y.1)<x.1+x.2;omega
 have n: ∀a∈((if y.1<x.1 then[(y.1,x.1-y.1)]else[])++(if x.1+x.2<y.1+y.2 then[(x.1+x.2,y.1+y.2- (x.1+x.2))]else[])),y.1<=a.1/\a.1+a.2<=y.1+y.2:=by
  intro a c;rcases aeg.1 c with c|c
  ·split at c
   ·rw[aeh.1 c];exact⟨aef _,by show y.1+(x.1-y.1)<=_;omega⟩
   ·cases c
  ·split at c
   ·rw[aeh.1 c];exact⟨by show y.1<=x.1+x.2;omega,by show x.1+x.2+(y.1+y.2- (x.1+x.2))<=_;omega⟩
   ·cases c
 refine(H.app G λa c b f=>?_).app hB λa c b f=>?_
 ·have L:a.1+a.2<y.1:=r a c y (by simp);have:=n b f;show a.1+a.2<b.1;omega
 ·have K:y.1+y.2<b.1:=u b f;rcases aeg.1 c with c|c
  ·exact r a c b (by simp[f])
  ·have:=n a c;show a.1+a.2<b.1;omega
def ql(f:Nat->Nat):lA:=arr 32 λj=>[.int .u8 (f j)]
theorem TZ(f:Nat->Nat): (ql f).length=32:=by rfl
def nF(p:cz):AV:=if p.free.isEmpty then .av else .sl (p.free.map aA) p.cF
def uq(p:cz):Rv (nF p) 2 (p.free.map aA):=by
 unfold nF;split
 ·rename_i h;rw[aCi.1 h];exact .av
 ·exact .sl (by intro el h;obtain⟨x,_,rfl⟩:=afq.1 h;rfl)
def b9(p:cz):lA:=[.int .i64 p.n,nF p]++arr 64 λi=>ql (p.bytes i)
def xP(p:cz): (b9 p).length=2050:=by
 unfold b9;rw[aeb,BX (k:=32) (λi=>TZ (p.bytes i))];rfl
structure fy(p:cz):Prop where
 n:p.n<=64
 free:dP p.free
 bytes: ∀i j,p.bytes i j<256
theorem T0{p:cz}:Den.part false 1 (b9 p) 0=some (.int .i64 p.n):=rfl
def xQ{p:cz}:Den.part true 1 (b9 p) 1=some (.agg [nF p]):=by
 unfold b9;rw[nd (by simp) (by omega)];rfl
def av0{p:cz}{j:Nat}(b:i<64)(a:j<32):Den.part false 1 (b9 p) (2+i*32+j)=some (.int .u8 (p.bytes i j)):=by
 unfold b9;rw[j6 (by grind),show 2+i*32+j- [AV.int .i64 p.n,nF p].length=i*32+j by grind,kM (k:=32) (f:=λi=>ql (p.bytes i)) (λi=>TZ _) b (by omega) (by omega)];have:=kM (ag:=false) (m:=1) (n:=32) (k:=1) (i:=j) (o:=0) (f:=λj=>[AV.int .u8 (p.bytes i j)]) (λ_=>rfl) a (by omega) (by omega);rw[Nat.mul_one,afs]at this;exact this
theorem ajo{p:cz}{l:List aD}:aO (b9 p) 1 [eu l]=b9 {p with free:=l,cF:=false}:=by rfl
theorem ajp{p:cz}:aO (b9 p) 1 [nF p]=b9 p:=by rfl
def ajq{p:cz}{o:Nat}{vs:lA}{f:Nat->Nat}(a:i<64)(ho:o+vs.length<=32)(b:aO (ql (p.bytes i)) o vs=ql f):aO (b9 p) (2+i*32+o) vs=b9 {p with bytes:=ao p.bytes i f}:=by
 unfold b9;rw[hY (by grind),show 2+i*32+o- [AV.int .i64 p.n,nF p].length=i*32+o by grind,nf (k:=32) (f:=λi=>ql (p.bytes i)) (λi=>TZ _) a ho,b,om ql];rfl
def av1{p:cz}{j v:Nat}(b:i<64)(a:j<32):aO (b9 p) (2+i*32+j) [.int .u8 v]=b9 {p with bytes:=ao p.bytes i (ao (p.bytes i) j v)}:=by
 refine ajq b (by grind) ?_;unfold ql;have:=nf (n:=32) (k:=1) (i:=j) (o:=0) (vs:=[AV.int .u8 v]) (f:=λj=>[AV.int .u8 (p.bytes i j)]) (λ_=>rfl) a (by simp);rw[Nat.mul_one,afs]at this;rw[this];have e:aO [AV.int .u8 (p.bytes i j)] 0 [AV.int .u8 v]=[AV.int .u8 v]:=rfl;rw[e,om (λx:Nat=>[AV.int .u8 x])]
def av2{p:cz}{H:List ae}(a:i<64)(h:H[q]?=some (.box (b9 p) none)):
  r7 ⟨H,lo⟩ [.int .u8 0] (.fH q 1 (2+i*32) 32)=some ⟨H.set q (.box (b9 {p with bytes:=ao p.bytes i λ_=>0}) none),lo⟩:=by
 have e:aO (b9 p) (2+i*32) (List.replicate 32 [AV.int .u8 0]).flatten=b9 {p with bytes:=ao p.bytes i λ_=>0}:=by
  have:=ajq (p:=p) (i:=i) (o:=0) (vs:=(List.replicate 32 [AV.int .u8 0]).flatten) (f:=λ_=>0) a (by decide) (by rfl);omega
 simp only[r7,h,AS.set];rw[adG ⟨rfl,by rw[xP];omega,rfl⟩,e];simp
def ajr{X:Ctx}{n id off:Nat}:qz X n sz (.ptr id off) none none=some (.fH id sz off n):=by
 simp[qz,gI,lQ]
def av3{p:cz}{H:List ae}(c:i<64)(h:H[q]?=some (.box (b9 p) none))(lo:oN):
  D X0 (.fn (.func 175) [] []) [.ptr q (2+i*32)] ⟨H,lo⟩=some (.ret (.az []) ⟨H.set q (.box (b9 {p with bytes:=ao p.bytes i λ_=>0}) none),lo⟩):=by
 refine aH QD λN d=>?_
 have b:=λlo=>av2 (lo:=lo) c h
 have a: ∀o,(H.set q o).take N=H.set q o:=λo=>adP (by grind)
 simp only[F1,go_sem,simprocAttr,QD,ajr,b,a]
theorem vW{o:Nat}:dJ .ptr (.ptr q o) .eI=some false:=rfl
def T1{p:cz}(k:fy p){H:List ae}(m:i<2147483648)(h:H[q]?=some (.box (b9 p) none)){fv:AV}{H':List ae}(r:H'.length=H.length)
  (n:gr p i=0->i<64->D X0 fv [.ptr q (2+i*32)] ⟨H,none⟩=some (.ret (.az []) ⟨H',none⟩)) (lo:oN):
  D X0 (.fn (.func 118) [] []) [.ptr q 0,.int .i64 i,fv] ⟨H,lo⟩=some (.ret (.int .i64 (gr p i)) ⟨if gr p i=0 then H' else H,lo⟩):=by
 have ho:Old q H (.box (b9 p) none):=⟨h⟩;refine aH EU λN s=>?_
 have o:=k.n;have c: ¬((i:Nat):Int)<0:=by omega
 have a:=arS (nF p) p.free (uq _) k.free.ok i m;have f:K3 p.free i=FC p.free i:=rfl;rw[f]at a;by_cases l:p.n<=i
 ·have b: (i:Int)>=p.n:=by omega
  have d:gr p i=2:=by unfold gr;grind
  rw[d];simp(disch:=omega) only[F1,go_sem,simprocAttr,EU,vW,c,h,↓T0,b]
 ·have b: ¬(i:Int)>=p.n:=by omega
  cases g:FC p.free i with
  |true=>
   rw[g]at a;have d:gr p i=12:=by unfold gr;rw[adE l,adG g]
   rw[d];simp(disch:=omega) only[F1,go_sem,simprocAttr,EU,vW,c,h,↓T0,↓xQ,b,a]
  |false=>
   rw[g]at a;have d:gr p i=0:=by unfold gr;rw[adE l,g];rfl
   rw[d];have j:=n d (by omega);have e: (0:Int)<=i/\ (i:Int)<64:=by omega
   simp(disch:=omega) only[F1,go_sem,simprocAttr,EU,vW,c,h,↓T0,↓xQ,b,a,e,j]
theorem F7{E:AS}{o:Nat}:nU E (.ptr i o) tg=some (.ptr E.heap.length 0,E.push (.box [.ptr i o] tg)):=rfl
theorem ajs{E:AS}{f:Fn}{bs cs:lA}:nU E (.fn f bs cs) tg=some (.ptr E.heap.length 0,E.push (.box [.fn f bs cs] tg)):=rfl
theorem ajt(n:Nat): ((n:Nat):Int).tdiv 32=((n/32:Nat):Int):=by rfl
theorem av4(n:Nat): ((n:Nat):Int).tmod 32=((n % 32:Nat):Int):=by rfl
section
variable{p:cz}(hp:fy p){i q:Nat}{H:List ae}(h:H[q]?=some (.box (b9 p) none))(lo:oN)
include hp h
theorem av5(e:i<2147483648):D X0 (.fn (.func 155) [] []) [.ptr q 0,.int .i64 i] ⟨H,lo⟩=some (.ret (.int .i64 (gr p i)) ⟨H.set q (.box (b9 (nv p i)) none),lo⟩):=by
 have ho:Old q H (.box (b9 p) none):=⟨h⟩;refine aH J0 λN g=>?_
 have a:=λlo=>T1 hp e h (fv:=.fn (.func 175) [] []) (H':=H.set q (.box (b9 (nv p i)) none)) (by simp) (λd c=>by
  rw[av3 c h];unfold nv;grind) lo
 have b: ∀o,(H.set q o).take N=H.set q o:=λo=>adP (by grind)
 by_cases d:gr p i=0
 ·rw[d]at a;simp only[F1,go_sem,simprocAttr,J0,a,b]
  grind
 ·simp only[adE d]at a;have f:nv p i=p:=by unfold nv;grind
  rw[f,qb h];simp(disch:=omega) only[F1,go_sem,simprocAttr,J0,a]
theorem av6(t:i<64){a b:Nat}(r:H[a]?=some (.box [.ptr q 0] none))(n:H[b]?=some (.box [.int .i64 i] none))(v:AV):
  D X0 (.fn (.func 119) [] [.ptr a 0,.ptr b 0]) [v] ⟨H,lo⟩=some (.ret (.az []) ⟨H.set q (.box (b9 (B4 p i)) none),lo⟩):=by
 refine fJ JS λN s=>?_
 have f: ∀H lo,D X0 (.fn (.func 120) [] []) [.agg [nF p],.int .i64 i,.int .i64 1] ⟨H,lo⟩=some (.ret (p9 (nF p) p.free (i,1)) ⟨H,lo⟩):=λH lo=>agP (nF p) p.free (uq _) hp.free.ok (i,1) (by omega) (by simp) H lo
 have c: ∀o,(H.set q o).take N=H.set q o:=λo=>adP (by grind)
 unfold p9 at f;have j:= @ajo p;have d:= @ajp p;have k:=λl=>dj (mD l) (bH (g:=aA) (λ_=>rfl) l)
 have m:=dj (uq p) (bH (g:=aA) (λ_=>rfl) _);unfold B4;cases e:gR p.free (i,1)with
 |some l=>
  simp only[e]at f⊢;simp only[F1,go_sem,simprocAttr,JS,s,r,n,h,↓xQ,f,j,c,xP,k]
 |none=>
  simp only[e]at f⊢;simp only[F1,go_sem,simprocAttr,JS,s,r,n,h,↓xQ,f,d,c,xP,m]
theorem av7(g:i<2147483648):D X0 (.fn (.func 93) [] []) [.ptr q 0,.int .i64 i] ⟨H,lo⟩=some (.ret (.int .i64 (gr p i)) ⟨H.set q (.box (b9 (kS p i)) none),lo⟩):=by
 have ho:Old q H (.box (b9 p) none):=⟨h⟩;refine aH JN λN e=>?_
 have f:q<N:=by grind
 obtain⟨B,hB⟩: ∃B:List ae,B=[.box [.ptr q 0] none,.box [.int .i64 i] none]:=⟨_,rfl⟩;have a:=λlo=>T1 hp g (bf (L:=B) h) (fv:=.fn (.func 119) [] [.ptr N 0,.ptr (N+1) 0]) (H':=(H++B).set q (.box (b9 (kS p i)) none)) (by simp) (λc d=>by
  rw[av6 hp (bf (L:=B) h) none d (by grind) (by grind)];unfold kS;grind) lo
 have b: ∀o,((H++B).set q o).take N=H.set q o:=λo=>by grind
 rw[hB]at a b;by_cases c:gr p i=0
 ·rw[c]at a;simp only[afK]at a;simp only[F1,go_sem,simprocAttr,JN,F7,e,a,b];rw[c];rfl
 ·simp only[adE c]at a;have j:kS p i=p:=by unfold kS;rw[adE c]
  rw[j,qb h];simp only[F1,go_sem,simprocAttr,JN,F7,e,a]
theorem aju{at':Nat}(r:at'<68719476736){f:Fn}{cs:lA}{H':List ae}(o:H'.length=H.length)
  (m: ∀L,gr p (at'/32)=0->at'/32<64->D X0 (.fn f [] cs) [.ptr q (2+at'/32*32+at' % 32)] ⟨H++L,none⟩=some (.ret (.az []) ⟨H'++L,none⟩)):
  D X0 (.fn (.func 178) [] []) [.ptr q 0,.int .i64 at',.fn f [] cs] ⟨H,lo⟩=some (.ret (.int .i64 (gr p (at'/32))) ⟨if gr p (at'/32)=0 then H' else H,lo⟩):=by
 have ho:Old q H (.box (b9 p) none):=⟨h⟩;refine aH Ka λN g=>?_
 have l:q<N:=by rw[<-g];exact ho.lt
 have n:H'.length=N:=by omega
 have e:gr p (at'/32)=0->at'/32<64->D X0 (.fn (.func 187) [] [.ptr (N+1) 0,.ptr N 0]) [.ptr q (2+at'/32*32)] ⟨H++[.box [.int .i64 at'] none,.box [.fn f [] cs] none],none⟩=some (.ret (.az []) ⟨H'++[.box [.int .i64 at'] none,.box [.fn f [] cs] none],none⟩):=by
  intro b j;refine fJ QM λM k=>?_
  have d:=m [.box [.int .i64 at'] none,.box [.fn f [] cs] none] b j;simp(disch:=omega) only[F1,go_sem,simprocAttr,QM,av4,k,d];exact⟨by omega,dx rfl (adP (by simp at k⊢;omega))⟩
 have a:=λlo=>T1 hp (i:=at'/32) (by omega) (bf (L:=[.box [.int .i64 at'] none,.box [.fn f [] cs] none]) h) (H':=H'++[.box [.int .i64 at'] none,.box [.fn f [] cs] none]) (by simp;omega) e lo
 have c: ¬((at':Nat):Int)<0:=by omega
 by_cases b:gr p (at'/32)=0
 ·rw[b]at a;simp only[afK]at a;simp(disch:=omega) only[F1,go_sem,simprocAttr,Ka,ajs,vW,ajt,g,c,a];rw[b,adG rfl];rfl
 ·simp only[adE b]at a;simp(disch:=omega) only[F1,go_sem,simprocAttr,Ka,ajs,vW,ajt,g,c,a];rw[adE b]
theorem av8{at':Nat}(k:at'<68719476736):D X0 (.fn (.func 161) [] []) [.ptr q 0,.int .i64 at'] ⟨H,lo⟩=some (.ret (.az [.int .u8 (s7 p at'),.int .i64 (gr p (at'/32))]) ⟨H,lo⟩):=by
 have ho:Old q H (.box (b9 p) none):=⟨h⟩;refine aH J2 λN d=>?_
 have g:q<N:=by grind
 have a:=λlo=>aju hp (bf (L:=[.box [.int .u8 0] none]) h) lo k (f:=.func 180) (cs:=[.ptr N 0]) (H':=H++[.box [.int .u8 (p.bytes (at'/32) (at' % 32))] none]) (by simp) (λL c b=>by
  refine fJ QG λM l=>?_
  have j: ∀L,(H++L)[q]?=some (.box (b9 p) none):=λL=>bf h
  have e:=av0 (p:=p) b (show at' % 32<32 by omega);simp(disch:=omega) only[F1,go_sem,simprocAttr,QG,j,↓e];exact dx rfl (adP (by simp at l⊢;omega)))
 unfold s7;by_cases c:gr p (at'/32)=0
 ·rw[c]at a⊢;simp only[afK]at a⊢;simp only[F1,go_sem,simprocAttr,J2,d,a,o5]
 ·simp only[adE c]at a⊢;simp only[F1,go_sem,simprocAttr,J2,d,a,o5]
theorem av9{at' b:Nat}(m:at'<68719476736):D X0 (.fn (.func 159) [] []) [.ptr q 0,.int .i64 at',.int .u8 b] ⟨H,lo⟩=some (.ret (.int .i64 (gr p (at'/32))) ⟨H.set q (.box (b9 (ma p at' b)) none),lo⟩):=by
 have ho:Old q H (.box (b9 p) none):=⟨h⟩;refine aH J1 λN d=>?_
 have k:q<N:=by grind
 have a:=λlo=>aju hp (bf (L:=[.box [.int .u8 b] none]) h) lo m (f:=.func 179) (cs:=[.ptr N 0]) (H':=(H++[ae.box [.int .u8 b] none]).set q (.box (b9 {p with bytes:=ao p.bytes (at'/32) (ao (p.bytes (at'/32)) (at' % 32) b)}) none)) (by simp) (λL g e=>by
  refine fJ QF λM n=>?_
  have l: ∀L,(H++L)[q]?=some (.box (b9 p) none):=λL=>bf h
  have j:=av1 (p:=p) (v:=b) e (show at' % 32<32 by omega);simp(disch:=omega) only[F1,go_sem,simprocAttr,QF,l,j,xP]
  grind)
 unfold ma;have c: ∀L o,((H++L).set q o).take N=H.set q o:=λL o=>by
  rw[aqu _ _ (by omega),mw (by simp[d])]
 by_cases g:gr p (at'/32)=0
 ·rw[g]at a⊢;simp only[afK]at a⊢;simp only[F1,go_sem,simprocAttr,J1,d,a,c]
 ·simp only[adE g]at a⊢;rw[qb h];simp only[F1,go_sem,simprocAttr,J1,d,a]
theorem awa{n:Nat}(w:n<=1024):D XC (.fn (.func 154) [] []) [.ptr q 0,.int .i64 n] ⟨H,lo⟩=some (.ret (.az [.int .i64 (gj p n).2.1,.int .i64 (gj p n).2.2]) ⟨H.set q (.box (b9 (gj p n).1) none),lo⟩):=by
 have ho:Old q H (.box (b9 p) none):=⟨h⟩;refine aH BP λN y=>?_
 have u:q<N:=by grind
 have k:=λl=>dj (mD l) (bH (g:=aA) (λ_=>rfl) l)
 have j:= @ajo p;have e:= @ajp p;have m:=dj (uq p) (bH (g:=aA) (λ_=>rfl) _);have c: ∀o,(H.set q o).take N=H.set q o:=λo=>adP (by grind)
 by_cases s:n<1
 ·have a: ((n:Nat):Int)<1:=by omega
  have v:gj p n=(p,0,2):=by unfold gj;rw[adG s]
  rw[v,qb h];simp(disch:=omega) only[F1,go_sem,simprocAttr,BP,vW,a]
 ·have a: ¬((n:Nat):Int)<1:=by omega
  have b:=λH lo=>c0 (arV (nF p) p.free (uq _) hp.free.ok n H lo)
  unfold K4 at b;have e1:gj p n=match p.free.find? (fits n)with
   |none=>(p,0,6)
   |some x=>(match mK p.free (x.1,n)with|some l=>{p with free:=l,cF:=false}|none=>p,x.1,0):=by unfold gj;rw[adE s];rfl
  rw[e1];cases f:p.free.find? (fits n)with
  |none=>
   simp only[f]at b⊢;rw[qb h];simp(disch:=omega) only[F1,go_sem,simprocAttr,BP,vW,a,h,↓xQ,b]
  |some x=>
   simp only[f]at b⊢;have t:=hp.free.bd x (apT f);have d:=λH lo=>avW (nF p) p.free (uq _) hp.free.ok (x.1,n) (by simp;omega) (by simp;omega) H lo
   unfold TY at d;cases r:mK p.free (x.1,n)with
   |none=>
    simp only[r]at d⊢;simp only[F1,go_sem,simprocAttr,BP,vW,a,h,↓xQ,b,d,e,c,xP,m]
   |some l=>
    simp only[r]at d⊢;simp only[F1,go_sem,simprocAttr,BP,vW,a,h,↓xQ,b,d,j,c,xP,k]
end
def qm(a:Nat):Prop:= ∀E,jJ XA.gl E .int .dA (.lP uS) (.int .u8 a) true=some (match rP a with|some f=>.az [.fn (.func f) [] [],.bool true]|none=>.az [.dA,.bool false])
theorem rR{r:bt}:aL (bE r)=0:=rfl
def ajv(s:bm)(g:aW s)(aa:Nat)(f:aa<4294967296)(c:cn)(i:gE c)(k:qm c.op)(H:List ae)(lo:oN):
  D XC (.fn (.func 110) [] []) [.agg (bz s),.int .i64 aa,.agg (bn c)] ⟨H,lo⟩=some (.ret (.int .i64 (oy s aa c)) ⟨H,lo⟩):=by
 refine aH JR λN j=>?_
 have h:=λH lo=>cB (TT s g aa f c i k H lo)
 unfold oy;by_cases l:0<dO s aa c
 ·have a: ((dO s aa c:Nat):Int)>0:=by omega
  rw[adG l];simp only[F1,go_sem,simprocAttr,JR,j,DZ,h,a]
 ·have a: ¬((dO s aa c:Nat):Int)>0:=by omega
  rw[adE l];obtain⟨v,d1,d2⟩:=TS s g aa f c i (0,0) ⟨show 0<4294967296 by omega,show 0<4294967296 by omega⟩ k (H++[.box (bz s) none,.box (bn c) none]) none;have d1:=cB d1;have b:aA (0,0)=[.int .i64 0,.int .i64 0]:=rfl;rw[b]at d1;generalize dg s aa c (0,0)=d at*;have e: (bE d.2.1)[0]?=some (.int .i64 d.2.1.e):=rfl;simp only[F1,go_sem,simprocAttr,JR,j,DZ,h,a,d1,e,ou,rR]
def awb(s:bm)(f:aW s)(aa:Nat)(e:aa<4294967296)(c:cn)(h:gE c)(i:qm c.op)(H:List ae)(lo:oN):
  D XC (.fn (.func 76) [] []) [.agg (bz s),.int .i64 aa,.agg (bn c)] ⟨H,lo⟩=some (.ret (.bool (KY s aa c)) ⟨H,lo⟩):=by
 refine aH JK λN b=>?_
 have g:=ajv s f aa e c h i;unfold KY;by_cases d:c.op=15
 ·have a: (c.op:Int)=15:=by omega
  have j:decide (oy s aa c=10)=decide (((oy s aa c:Nat):Int)=10):=afB.2 (by omega);rw[aec d,al0,j];simp only[F1,go_sem,simprocAttr,JK,b,DZ,gF,a,g]
 ·have a: ¬(c.op:Int)=15:=by omega
  rw[adO d,ag4];simp only[F1,go_sem,simprocAttr,JK,b,gF,a]
def F8(s:bm)(h:Nat):AV:=if s.T.ar h then .sl [hC h] true else .av
def ajw(s:bm)(g:aW s)(h:Nat)(f:h<4294967296)(H:List ae)(lo:oN):
  D XC (.fn (.func 165) [] []) [.agg (bz s),.int .u32 h] ⟨H,lo⟩=some (.ret (F8 s h) ⟨H,lo⟩):=by
 refine aH J3 λN d=>?_
 have b:=λH lo=>c0 (eX s.T.b h f H lo)
 have c:ar s.T.b h=s.T.ar h:=rfl;rw[c]at b;unfold F8;have a:Den.part true 96 (bz s) 0=some (.agg (bU s.T.b)):=by rfl
 cases e:s.T.ar h with
 |true=>
  rw[e]at b;simp only[F1,go_sem,simprocAttr,J3,d,↓a,b];rfl
 |false=>
  rw[e]at b;simp only[F1,go_sem,simprocAttr,J3,d,↓a,b]
def Ab(s:bm)(h:Nat):Rv (F8 s h) 1 ((oz s h).map hC):=by
 unfold F8 oz;split
 ·exact .sl (by intro el a;rw[aeh.1 a];rfl)
 ·exact .av
def awc(l:lN)(p:l.length<2147483648)(v:AV)(H:List ae)(b:Rd ⟨H,none⟩ v 1 (l.map hC))(x:Nat)(lo:oN):
  D X0 (.fn (.func 184) [] []) [v,.int .u32 x] ⟨H,lo⟩=some (.ret (.int .i64 (ke (λy=>decide (y=x)) l)) ⟨H,lo⟩):=by
 refine aH QJ λN t=>?_
 simp only[go_sem,simprocAttr,QJ,b.bY];refine eN l.length (λk e H'=>H'=H/\ (∀j,j<k->decide (l.getD j default=x)=false)/\e 0=v/\e 1= .int .u32 x/\e 7= .int .i64 l.length/\e 8= .int .i64 k) 0 (by omega) ?_ ?_
 ·simp only[go_sem,simprocAttr];omega
 rintro k r e H' ⟨rfl,f,n,i,h,g⟩ m hm;simp(disch:=omega) only[cb,F1,go_sem,simprocAttr,aeQ,n,i,h,g];refine⟨λo=>?_,λo=>?_⟩
 ·have c:k<l.length:=by omega
  have d: ∀y,(hC y)[0]?=some (.int .u32 y):=λ_=>rfl
  by_cases e1:l.getD k default=x
  ·have a: ((x:Nat):Int)=(l.getD k default:Nat):=by omega
   simp(disch:=omega) only[F1,go_sem,simprocAttr,b.cD,b.di,d,a];rw[zO c f (aec e1)];exact⟨by omega,rfl⟩
  ·have a: ¬((x:Nat):Int)=(l.getD k default:Nat):=by omega
   simp(disch:=omega) only[go_sem,simprocAttr,n,i,h,g,b.cD,b.di,d,a];refine⟨by omega,c,λj s=>?_⟩;rcases(show j<k\/j=k by omega)with q|rfl
   ·exact f j q
   ·exact adO e1
 ·obtain rfl:k=l.length:=by omega
  rw[zP f]
def awd(l:lN)(b:l.length<2147483648)(v:AV)(H:List ae)(a:Rd ⟨H,none⟩ v 1 (l.map hC))(x:Nat)(lo:oN):
  D X0 (.fn (.func 169) [] []) [v,.int .u32 x] ⟨H,lo⟩=some (.ret (.bool (l.contains x)) ⟨H,lo⟩):=by
 refine aH QB λN c=>?_
 simp(disch:=omega) only[F1,go_sem,simprocAttr,QB,awc l b v H a x none,zN]
 grind
section
variable{s:bm}(hs:aW s){c:cn}(hc:gE c){a b:Nat}{H:List ae}(ha:H[a]?=some (.box (bz s) none))(hb:H[b]?=some (.box (bn c) none))(lo:oN)
include hs hc ha hb
theorem ajx:D XC (.fn (.func 164) [] [.ptr a 0,.ptr b 0]) [] ⟨H,lo⟩=some (.ret (F8 s c.r) ⟨H,lo⟩):=by
 refine fJ QA λN e=>?_
 have d:=dj (Ab s c.r) (bH (λ_=>rfl) _);simp(disch:=omega) only[F1,go_sem,simprocAttr,QA,ha,hb,↓SL,gF,ajw s hs c.r hc.r,d]
theorem awe{u:Nat}(p:H[u]?=some (.box [.fn (.func 166) [] [.ptr a 0,.ptr b 0]] none)):
  ∃v,D XC (.fn (.func 168) [] [.ptr u 0,.ptr a 0,.ptr b 0]) [] ⟨H,lo⟩=some (.ret v ⟨H,lo⟩)/\Rv v 1 ((if under s.T c.r=[]\/s.T.ar c.s=false then[]else if(under s.T c.r).contains c.s then under s.T c.r else under s.T c.r++[c.s]).map hC):=by
 suffices E: ∃o,D XC (.fn (.func 168) [] [.ptr u 0,.ptr a 0,.ptr b 0]) [] ⟨H,lo⟩=some o/\ (λo=> ∃v,o=aV.ret v ⟨H,lo⟩/\Rv v 1 ((if under s.T c.r=[]\/s.T.ar c.s=false then[]else if(under s.T c.r).contains c.s then under s.T c.r else under s.T c.r++[c.s]).map hC)) o by
  obtain⟨o,M,v,rfl,K⟩:=E;exact⟨v,M,K⟩
 refine ub BQ rfl rfl rfl λN q=>?_
 obtain⟨v,J,ak,g1,g2,O⟩:=TX hs hc ha hb N q none;have e:=λH lo=>c0 (eX s.T.b c.s hc.s H lo)
 have z:ar s.T.b c.s=s.T.ar c.s:=rfl;rw[z]at e;have k:Den.part true 96 (bz s) 0=some (.agg (bU s.T.b)):=by rw[<-vP (x:=⟨s,0,jm,(0,0),0,false,[]⟩) (bk:=.av) (by omega) (by omega)];exact Tp
 have F:=FJ hs.tr c.r;have G:=kT g2 ak;have d:=G.bY;have w:=λL=>bf (L:=L) ha
 have t:=λL=>bf (L:=L) hb
 have h:=λlo=>c0 (awd (under s.T c.r) (by omega) v (H++J) (kT g2 none) c.s lo)
 have f:eF N ak:=eF.of O;have j: (H++J).take N=H:=by rw[<-q];simp
 have y:=bH (g:=hC) (λ_=>rfl) (under s.T c.r);by_cases r:under s.T c.r=[]
 ·have n: ((under s.T c.r).length:Int)=0:=by rw[r];rfl
  rw[adG (.inl r)];simp only[go_sem,simprocAttr,BQ,p,g1,d,n];rw[jD f (aee _),j];exact⟨_,rfl,.av⟩
 ·have n: ¬((under s.T c.r).length:Int)=0:=by
    have:=azK.2 r;omega
  cases B:s.T.ar c.s with
  |false=>
   rw[B]at e;rw[adG (.inr rfl)];simp only[go_sem,simprocAttr,BQ,p,g1,d,n,w,t,↓k,gF,e];rw[jD f (aee _),j];exact⟨_,rfl,.av⟩
  |true=>
   rw[B]at e;rw[adE (by simp[r])];cases m: (under s.T c.r).contains c.s with
   |true=>
    rw[m]at h;rw[adG rfl];simp only[go_sem,simprocAttr,BQ,p,g1,d,n,w,t,↓k,gF,e,h];rw[FK f g2 (by rw[y];omega),j];exact⟨_,rfl,aT.ss g2⟩
   |false=>
    rw[m]at h;rw[adE (by simp)];simp only[go_sem,simprocAttr,BQ,p,g1,d,n,w,t,↓k,gF,e,h];refine qQ (H0:=H) (ys:=[[.int .u32 c.s]]) g2 (aqc _ _) q (by omega) (by intro el A;rw[aeh.1 A];rfl) rfl (by unfold room;simp;omega) λv' W C I=>?_
    simp only[go_sem,simprocAttr];have l:aT N W v' 1 bZ ((under s.T c.r++[c.s]).map hC):=by rw[afr];exact C
    rw[FK f l (by rw[bH (λ_=>rfl)];omega)];refine⟨_,dx rfl (lJ q λi P=>?_),aT.ss l⟩;obtain⟨L,rfl⟩:=I;rw[acV (by omega)]
theorem awf: ∃v,D XC (.fn (.func 170) [] [.ptr a 0,.ptr b 0]) [] ⟨H,lo⟩=some (.ret v ⟨H,lo⟩)/\Rv v 1 ((if(ck s.K c.s).2=0 then oz s (ck s.K c.s).1.aJ else[]).map hC):=by
 suffices n: ∃g,D XC (.fn (.func 170) [] [.ptr a 0,.ptr b 0]) [] ⟨H,lo⟩=some g/\ (λg=> ∃v,g=aV.ret v ⟨H,lo⟩/\Rv v 1 ((if(ck s.K c.s).2=0 then oz s (ck s.K c.s).1.aJ else[]).map hC)) g by grind
 refine ub J5 rfl rfl rfl λN k=>?_
 have j:=λH lo=>c0 (Ce s.K hs.K c.s hc.s H lo)
 have m:=λL=>bf (L:=L) ha
 have f: ∀t:Tok,(gh t).length=5:=λ_=>rfl
 have e: ∀t:Tok,aL (gh t)=0:=λ_=>rfl
 have h: ∀t:Tok,(gh t)[0]?=some (.int .u32 t.aJ):=λ_=>rfl
 by_cases l: (ck s.K c.s).2=0
 ·have d: (((ck s.K c.s).2:Nat):Int)=0:=by omega
  have ho:=ajw s hs (ck s.K c.s).1.aJ (hs.K.get c.s).aJ;have i:=dj (Ab s (ck s.K c.s).1.aJ) (bH (λ_=>rfl) _);rw[adG l];simp only[F1,go_sem,simprocAttr,J5,k,ha,hb,↓SL,gF,m,f,e,h,j,d,ho,i];exact⟨_,rfl,Ab s _⟩
 ·have d: ¬(((ck s.K c.s).2:Nat):Int)=0:=by omega
  rw[adE l];simp only[F1,go_sem,simprocAttr,J5,k,ha,hb,↓SL,gF,f,e,j,d];exact⟨_,rfl,.av⟩
theorem awg{u:Nat}(l:H[u]?=some (.box [.fn (.func 166) [] [.ptr a 0,.ptr b 0]] none))(h:H[i]?=some (.box [.fn (.func 164) [] [.ptr a 0,.ptr b 0]] none)):
  ∃v,D XC (.fn (.func 172) [] [.ptr b 0,.ptr i 0,.ptr u 0]) [] ⟨H,lo⟩=some (.ret v ⟨H,lo⟩)/\Rv v 1 ((if c.b=1 then oz s c.r else under s.T c.r).map hC):=by
 suffices n: ∃e,D XC (.fn (.func 172) [] [.ptr b 0,.ptr i 0,.ptr u 0]) [] ⟨H,lo⟩=some e/\ (λe=> ∃v,e=aV.ret v ⟨H,lo⟩/\Rv v 1 ((if c.b=1 then oz s c.r else under s.T c.r).map hC)) e by grind
 refine ub J7 rfl rfl rfl λN j=>?_
 by_cases k:c.b=1
 ·have d: (c.b:Int)=1:=by omega
  have g:=dj (Ab s c.r) (bH (λ_=>rfl) _);rw[adG k];simp(disch:=omega) only[F1,go_sem,simprocAttr,J7,hb,h,gF,d,ajx hs hc ha hb,g];exact⟨_,rfl,Ab s _⟩
 ·have d: ¬(c.b:Int)=1:=by omega
  obtain⟨v,J,ak,g1,g2,m⟩:=TX hs hc ha hb N j none;have f: (H++J).take N=H:=by rw[<-j];simp
  rw[adE k];simp only[go_sem,simprocAttr,J7,hb,l,gF,d,g1];rw[FK (eF.of m) g2 (by rw[bH (λ_=>rfl)];omega),f];exact⟨_,rfl,aT.ss g2⟩
end
abbrev fG(N:Nat):AV:=.fn (.func 164) [] [.ptr N 0,.ptr (N+1) 0]
abbrev lM(N:Nat):AV:=.fn (.func 166) [] [.ptr N 0,.ptr (N+1) 0]
abbrev LZ(N:Nat):AV:=.fn (.func 168) [] [.ptr (N+3) 0,.ptr N 0,.ptr (N+1) 0]
abbrev L0(N:Nat):AV:=.fn (.func 170) [] [.ptr N 0,.ptr (N+1) 0]
abbrev L1(N:Nat):AV:=.fn (.func 172) [] [.ptr (N+1) 0,.ptr (N+2) 0,.ptr (N+3) 0]
def awh(N:Nat):List (AV×AV):=[(.int .u8 1,fG N),(.int .u8 2,fG N),(.int .u8 3,fG N),(.int .u8 4,fG N),(.int .u8 5,fG N),(.int .u8 10,fG N),(.int .u8 12,fG N),(.int .u8 18,fG N),(.int .u8 19,fG N),(.int .u8 6,lM N),(.int .u8 7,lM N),(.int .u8 9,lM N),(.int .u8 11,lM N),(.int .u8 8,LZ N),(.int .u8 13,L0 N),(.int .u8 14,L1 N)]
def nG(N k:Nat):List (AV×AV):=(awh N).take k
theorem awi(N:Nat):ae.map []= .map (nG N 0):=rfl
def mf{N:Nat}{H:List ae}(d:H.length=N)(B:List ae)(f:B.length=4){key:Int}(i:v.refs<=N+5)(h:lS (.int .u8 key) v (nG N k)=some (nG N (k+1)))(lo:oN):
  ml ⟨H++(B++[.map (nG N k)]),lo⟩ .int (.mp (N+4)) (.int .u8 key) v=some ⟨H++(B++[.map (nG N (k+1))]),lo⟩:=by
 simp only[ml,kY,afK];have e: (H++(B++[ae.map (nG N k)]))[N+4]?=some (.map (nG N k)):=by grind
 simp only[e,h];have g: (H++(B++[ae.map (nG N k)])).set (N+4) (.map (nG N (k+1)))=H++(B++[.map (nG N (k+1))]):=by
  rw[apP _ _ (by omega),apP _ _ (by omega)];simp[d,f]
 simp only[AS.set,g]
 grind
def F9(N d:Nat):Option AV:=
 if[1,2,3,4,5,10,12,18,19].contains d then some (fG N)
 else if[6,7,9,11].contains d then some (lM N)
 else if d=8 then some (LZ N)else if d=13 then some (L0 N)else if d=14 then some (L1 N)else none
def awj(N d:Nat):eB (.int .u8 d) (nG N 16)=some (F9 N d):=by
 have key: ∀ (es:List (Nat×AV)),eB (.int .u8 d) (es.map λx=>(.int .u8 (x.1:Nat),x.2))=some ((es.find? λx=>decide (x.1=d)).map (·.2)):=by
  intro es
  induction es with
  |nil=>rfl
  |cons x xs j=>
   simp only[aiQ,eB,oR,afK,List.find?_cons]
   grind
 have e:nG N 16=[(1,fG N),(2,fG N),(3,fG N),(4,fG N),(5,fG N),(10,fG N),(12,fG N),(18,fG N),(19,fG N),(6,lM N),(7,lM N),(9,lM N),(11,lM N),(8,LZ N),(13,L0 N),(14,L1 N)].map λx:Nat×AV=>(.int .u8 (x.1:Nat),x.2):=rfl
 rw[e,key];by_cases h:d<=19
 ·rcases(show d=0\/d=1\/d=2\/d=3\/d=4\/d=5\/d=6\/d=7\/d=8\/d=9\/d=10\/d=11\/d=12\/d=13\/d=14\/d=15\/d=16\/d=17\/d=18\/d=19 by omega)with q|q|q|q|q|q|q|q|q|q|q|q|q|q|q|q|q|q|q|q<;>subst q<;>rfl
 ·have hc: ∀l:lN,l.all (λk=>decide (k<=19))=true->l.contains d=false:=by
    intro l g;rw[Bool.eq_false_iff];intro hm;have:=afy.1 g d (by simpa using hm);simp at this;omega
  have f: ∀l:List (Nat×AV),(l.map (·.1)).all (λk=>decide (k<=19))=true->l.find? (λx=>decide (x.1=d))=none:=by
   intro l g;rw[awO];intro x i;have:=afy.1 g x.1 (List.mem_map_of_mem i);simp at this⊢;omega
  rw[f _ rfl];unfold F9;rw[hc _ rfl,hc _ rfl,adE (by simp),adE (by simp),adE (by omega),adE (by omega),adE (by omega)];rfl
def awk{s:bm}(hs:aW s)(hc:gE c)(H:List ae)(lo:oN):
  ∃v,D XC (.fn (.func 152) [] []) [.agg (bz s),.agg (bn c)] ⟨H,lo⟩=some (.ret v ⟨H,lo⟩)/\Rv v 1 ((s6 s c).map hC):=by
 suffices X: ∃r,D XC (.fn (.func 152) [] []) [.agg (bz s),.agg (bn c)] ⟨H,lo⟩=some r/\ (λr=> ∃v,r=aV.ret v ⟨H,lo⟩/\Rv v 1 ((s6 s c).map hC)) r by
  obtain⟨r,h1,v,rfl,Z⟩:=X;exact⟨v,h1,Z⟩
 refine cN Qu λN d=>?_
 have V:N<=N+1:=by omega
 have U:N<=N+2:=by omega
 have Y: (fG N).refs=N+2:=by simp[AV.refs,aL]
 have P: (lM N).refs=N+2:=by simp[AV.refs,aL]
 obtain⟨B,hB⟩: ∃B:List ae,B=[.box (bz s) none,.box (bn c) none,.box [fG N] none,.box [lM N] none]:=⟨_,rfl⟩;have hm:=awi N;have G:=mf (k:=0) (key:=1) (v:=fG N) d B (by rw[hB];rfl) (by simp[AV.refs,aL]) rfl;have F:=mf (k:=1) (key:=2) (v:=fG N) d B (by rw[hB];rfl) (by simp[AV.refs,aL]) rfl;have C:=mf (k:=2) (key:=3) (v:=fG N) d B (by rw[hB];rfl) (by simp[AV.refs,aL]) rfl;have A:=mf (k:=3) (key:=4) (v:=fG N) d B (by rw[hB];rfl) (by simp[AV.refs,aL]) rfl;have z:=mf (k:=4) (key:=5) (v:=fG N) d B (by rw[hB];rfl) (by simp[AV.refs,aL]) rfl;have y:=mf (k:=5) (key:=10) (v:=fG N) d B (by rw[hB];rfl) (by simp[AV.refs,aL]) rfl;have x:=mf (k:=6) (key:=12) (v:=fG N) d B (by rw[hB];rfl) (by simp[AV.refs,aL]) rfl;have w:=mf (k:=7) (key:=18) (v:=fG N) d B (by rw[hB];rfl) (by simp[AV.refs,aL]) rfl;have p8:=mf (k:=8) (key:=19) (v:=fG N) d B (by rw[hB];rfl) (by simp[AV.refs,aL]) rfl;have u:=mf (k:=9) (key:=6) (v:=lM N) d B (by rw[hB];rfl) (by simp[AV.refs,aL]) rfl;have o:=mf (k:=10) (key:=7) (v:=lM N) d B (by rw[hB];rfl) (by simp[AV.refs,aL]) rfl;have n:=mf (k:=11) (key:=9) (v:=lM N) d B (by rw[hB];rfl) (by simp[AV.refs,aL]) rfl;have m:=mf (k:=12) (key:=11) (v:=lM N) d B (by rw[hB];rfl) (by simp[AV.refs,aL]) rfl;have l:=mf (k:=13) (key:=8) (v:=LZ N) d B (by rw[hB];rfl) (by simp[AV.refs,aL]) rfl;have j:=mf (k:=14) (key:=13) (v:=L0 N) d B (by rw[hB];rfl) (by simp[AV.refs,aL]) rfl;have i:=mf (k:=15) (key:=14) (v:=L1 N) d B (by rw[hB];rfl) (by simp[AV.refs,aL]) rfl;rw[hB]at G F C A z y x w p8 u o n m l j i;simp only[aii,ag8]at G F C A z y x w p8 u o n m l j i;simp only[go_sem,simprocAttr,Qu,d,V,U,hm,Y,P,gF,G,F,C,A,z,y,x,w,p8,u,o,n,m,l,j,i];have O: ∀E:AS,E.heap[N+4]?=some (.map (nG N 16))->jJ XC.gl E .int .dA (.mp (N+4)) (.int .u8 c.op) true=some (match F9 N c.op with|some v=>.az [v,.bool true]|none=>.az [.dA,.bool false]):=by
  intro E h;simp only[jJ,kY,afK,mapOf,h,awj];cases F9 N c.op<;>rfl
 rw[O _ (by rw[bF d];rfl)];obtain⟨W,g⟩: ∃W,W=H++[.box (bz s) none,.box (bn c) none,.box [fG N] none,.box [lM N] none,.map (nG N 16)]:=⟨_,rfl⟩;have w0:W[N]?=some (.box (bz s) none):=by rw[g,dI d];rfl
 have w1:W[N+1]?=some (.box (bn c) none):=by rw[g,bF d];rfl
 have T:W[N+2]?=some (.box [fG N] none):=by rw[g,bF d];rfl
 have R:W[N+3]?=some (.box [lM N] none):=by rw[g,bF d];rfl
 have wt: ∀L,(W++L).take N=H:=λL=>by rw[g,adK,mw d]
 have e:W.take N=H:=by rw[g,mw d]
 have Q:W.length=N+5:=by rw[g];simp[d]
 rw[<-g];unfold s6 F9;by_cases p: [1,2,3,4,5,10,12,18,19].contains c.op
 ·simp only[p,afK];have K:=dj (Ab s c.r) (bH (λ_=>rfl) _);simp only[F1,go_sem,simprocAttr,ajx hs hc w0 w1,K,e];exact⟨_,rfl,Ab s _⟩
 ·by_cases q: [6,7,9,11].contains c.op
  ·obtain⟨v,J,ak,g1,g2,g3⟩:=TX hs hc w0 w1 (N+5) Q none;simp only[p,q,afK,aha,afp];simp only[go_sem,simprocAttr,g1];rw[FK (eF.le (eF.of g3) (by omega)) (aT.le (M:=N) g2 (by omega)) (by rw[bH (λ_=>rfl)];omega),wt];exact⟨_,rfl,aT.ss g2⟩
  ·by_cases t:c.op=8
   ·obtain⟨v,g1,g2⟩:=awe hs hc w0 w1 none R;have f:=dj g2 (bH (λ_=>rfl) _);simp only[adE p,adE q,adG t];simp only[F1,go_sem,simprocAttr,g1,f,e];exact⟨_,rfl,g2⟩
   ·by_cases I:c.op=13
    ·obtain⟨v,g1,g2⟩:=awf hs hc w0 w1 none;have f:=dj g2 (bH (λ_=>rfl) _);simp only[adE p,adE q,adE t,adG I];simp only[F1,go_sem,simprocAttr,g1,f,e];exact⟨_,rfl,g2⟩
    ·by_cases S:c.op=14
     ·obtain⟨v,g1,g2⟩:=awg hs hc w0 w1 none R T;have f:=dj g2 (bH (λ_=>rfl) _);simp only[adE p,adE q,adE t,adE I,adG S];simp only[F1,go_sem,simprocAttr,g1,f,e];exact⟨_,rfl,g2⟩
     ·simp only[p,q,t,I,S,aha,afp];simp only[F1,go_sem,simprocAttr,e];exact⟨_,rfl,.av⟩
def bK(x:Core)(q:Nat)(qv:AV):lA:=bz x.S++([.ptr q 0]++(c9 x.M++[qv]))
section
variable{x:Core}{q:Nat}{qv:AV}
def Ac: (bK x q qv).length=1274:=by simp only[bK,aeb,eP,eA];rfl
def T2:aL (bK x q qv)=max (q+1) qv.refs:=by
 simp only[bK,Fp,ou,kh];simp[aL,AV.refs]
def L3:Den.part true 952 (bK x q qv) 0=some (.agg (bz x.S)):=by exact vt (eP _) (by omega)
def T3{ag:Bool}{o:Nat}(ho:952<=o):Den.part ag m (bK x q qv) o=Den.part ag m ([.ptr q 0]++(c9 x.M++[qv])) (o-952):=by
 unfold bK;rw[j6 (by rw[eP];exact ho),eP]
def T4:Den.part false 1 (bK x q qv) 952=some (.ptr q 0):=by rw[T3 (by omega)];rfl
def ajy:Den.part true 320 (bK x q qv) 953=some (.agg (c9 x.M)):=by
 rw[T3 (by omega),j6 (by simp)];exact vt (eA _) (by omega)
def T5:Den.part false 1 (bK x q qv) 1273=some qv:=by
 rw[T3 (by omega),j6 (by simp),j6 (by rw[eA];simp),eA];rfl
def ajz{s:bm}:aO (bK x q qv) 0 (bz s)=bK {x with S:=s} q qv:=by
 unfold bK;rw[rq (by rw[eP,eP];omega),pG (by rw[eP,eP])]
def ajA{m:Marks}:aO (bK x q qv) 953 (c9 m)=bK {x with M:=m} q qv:=by
 unfold bK;rw[hY (by rw[eP];omega),eP,hY (by simp),rq (by rw[eA];simp[eA])];have:953-952- [AV.ptr q 0].length=0:=rfl;rw[this,pG (by rw[eA,eA])]
def ajB:aO (bK x q qv) 1273 [v]=bK x q v:=by
 unfold bK;rw[hY (by rw[eP];omega),eP,hY (by simp),hY (by rw[eA];simp),eA];rfl
theorem aC5{P:cz}:bK {x with P:=P} q qv=bK x q qv:=rfl
theorem awl{Q:lN}:bK {x with Q:=Q} q qv=bK x q qv:=rfl
def Cu: (bK x q qv)[952]?=some (.ptr q 0):=T4
def L4: (bK x q qv)[1273]?=some qv:=T5
def KL:=gG @L3<|gG @T4<|gG @ajy<|gG @T5<|gG @Cu @L4
def KS:=gG @ajz<|gG @ajA<|gG @ajB @Ac
end
def dE(N:Nat)(H:List ae)(v:AV)(sz:Nat)(ty:TypeId)(af:List lA):Prop:=
 (∀el∈af,el.length=sz)/\ ((v= .av/\af=[])\/ ∃id aj off all,N<=id/\v= .ref id aj sz off af.length false/\H[id]?=some (.row aj sz ty all)/\off+af.length<=all.length/\ (all.drop off).take af.length=af)
theorem dE.av{N:Nat}{H:List ae}{ty:TypeId}:dE N H .av sz ty []:=⟨by simp,.inl ⟨rfl,rfl⟩⟩
section
variable{N:Nat}{H H':List ae}{v:AV}{sz:Nat}{ty:TypeId}{af:List lA}
def dE.rd(h:dE N H v sz ty af):Rd ⟨H,lo⟩ v sz af:=by
 obtain⟨c,b⟩:=h;rcases b with⟨rfl,rfl⟩| ⟨id,aj,off,all,e,rfl,a,f,d⟩
 ·exact .av
 ·refine⟨trivial,?_,c⟩;simp only[elems,a,ayz]
  grind
def dE.sf(h:dE N H v sz ty af)(b: ∀ (id aj:Nat) (all:List lA),H[id]?=some (ae.row aj sz ty all)->H'[id]?=some (ae.row aj sz ty all)):dE N H' v sz ty af:=by
 obtain⟨a,c⟩:=h;refine⟨a,?_⟩
 grind
def dE.app(h:dE N H v sz ty af)(L:List ae):dE N (H++L) v sz ty af:=h.sf λ_ _ _ a=>bf a
theorem dE.set(h:dE N H v sz ty af){cs:lA}(b:H[p]?=some (.box cs tg))(o:ae):dE N (H.set p o) v sz ty af:=h.sf λid _ _ a=>by grind
theorem dE.take{n:Nat}{a:List lA}(h:dE N H v sz ty af)(e:dE N H0 v sz ty a)(k:H0.length=n):dE N (H.take n) v sz ty af:=by
 obtain⟨d,b⟩:=h;refine⟨d,?_⟩;rcases b with b| ⟨id,aj,off,all,o,g,j,l,i⟩
 ·grind
 ·rcases e.2 with⟨q,_⟩| ⟨c,_,_,_,_,q,f,_⟩
  ·grind
  grind
def dE.tail{a:lA}{bytes:Nat}(h:dE N H v sz ty (a::af)): ∃w,gJ sz v (some (.int .i64 1)) none none=some w/\dE N H w sz ty af/\w.cp=false/\w.cells=[w]/\w.refs=v.refs:=by
 obtain⟨i,c⟩:=h;rcases c with⟨_,c⟩| ⟨id,aj,off,all,f,rfl,e,k,j⟩
 ·grind
 ·refine⟨.ref id aj sz (off+1) af.length false,?_,⟨λel d=>i el (afv _ d),.inr ⟨id,aj,off+1,all,f,rfl,e,by grind,?_⟩⟩,rfl,rfl,rfl⟩
  ·have g:gI (a::af).length (some (.int .i64 1)) none=some (1,af.length+1):=by
     have: (1:Int)<=af.length+1:=by omega
     simp[gI,lQ,this]
   simp only[gJ,g,lR]
   grind
  ·have: (all.drop off).take (af.length+1)=a::af:=by omega
   have c:all.drop (off+1)=(all.drop off).drop 1:=by simp
   rw[c];generalize all.drop off=l at this;cases l with
   |nil=>grind
   |cons b l=>grind
def dE.append{bytes:Nat}{y:lA}(h:dE N H v sz ty af)(s:N<=H.length)(j:0<sz)(u:y.length=sz)(l:aL y=0)(r: (af.length+1)*bytes<=room):
  ∃v' H',dL ⟨H,lo⟩ ty sz bytes v [y]=some (v',⟨H',lo⟩)/\dE N H' v' sz ty (af++[y])/\H.length<=H'.length/\ (∀i,i<N->H'[i]?=H[i]?)/\ (∀ (i:Nat) (o:ae),(∀a d,o≠ae.row a sz ty d)->H[i]?=some o->H'[i]?=some o)/\v'.cp=false/\v'.cells=[v']/\N<v'.refs:=by
 have f:0<sz/\ [y].all (λel=>el.length==sz)=true:=⟨j,by grind⟩;obtain⟨z,t⟩:=h;have g: ∀el∈af++[y],el.length=sz:=by grind
 rcases t with⟨rfl,rfl⟩| ⟨id,aj,off,all,n,rfl,b,w,k⟩
 ·refine⟨.ref H.length 0 sz 0 1 false,H++[.row 0 sz ty [y]],?_,⟨g,.inr ⟨H.length,0,0,[y],s,rfl,by simp,by simp,by simp⟩⟩,by simp,λi p=>acV (by omega),λi o _ ho=>bf ho,rfl,rfl,by simp only[AV.refs];omega⟩;unfold dL;rw[adG f];simp only[aqs];rw[adE (by omega),adG (by omega)];rfl
 ·have c:=eg b;refine⟨.ref id (aj+1) sz 0 (af.length+1) false,H.set id (.row (aj+1) sz ty (af++[y])),?_,⟨g,.inr ⟨id,aj+1,0,af++[y],n,by simp,by simp[c],by simp,adP (by simp)⟩⟩,by simp,λi p=>acT (by omega),λi o ho e=>?_,rfl,rfl,by simp only[AV.refs];omega⟩
  ·unfold dL;rw[adG f];simp only[b,aqs];rw[adG ⟨trivial,trivial,trivial,trivial,by omega,r⟩,adE (by omega)];have:ca [y]=0:=by simp[ca,l]
   simp[AS.set,this,k]
  ·rw[acT];exact e;rintro rfl;rw[b]at e;cases e;exact ho _ _ rfl
end
def Mu(o:ae):Prop:= ∃a d,o= .row a 1 qT d
structure Fq(m:Nat)(S:lN)(H H':List ae):Prop where
 len:H.length<=H'.length
 low: ∀i,i<m->H'[i]?=H[i]?
 box: ∀i o,i∉S-> ¬Mu o->H[i]?=some o->H'[i]?=some o
section
variable{m:Nat}{S T:lN}{A B C H W:List ae}
theorem Fq.refl:Fq m S A A:=⟨aef _,λ_ _=>rfl,λ_ _ _ _ h=>h⟩
theorem Fq.trans(h:Fq m S A B)(g:Fq m S B C):Fq m S A C:=⟨ag2 h.len g.len,λi a=>(g.low i a).trans (h.low i a),λi o a ho b=>g.box i o a ho (h.box i o a ho b)⟩
def Fq.mono(h:Fq m S A B)(a: ∀i∈S,i∈T):Fq m T A B:=⟨h.len,h.low,λi o b ho c=>h.box i o (λq=>b (a i q)) ho c⟩
theorem Fq.set(b:p∈S)(c:m<=p)(o:ae):Fq m S A (A.set p o):=⟨by simp,λi a=>acT (by omega),λi w a _ h=>by grind⟩
def Fq.app(L:List ae)(a:m<=A.length):Fq m S A (A++L):=⟨by simp,λi b=>acV (by omega),λi o _ _ h=>bf h⟩
def Fq.pre{L:List ae}(h:Fq m S (H++L) W)(a:m<=H.length):Fq m S H W:=(Fq.app L a).trans h
theorem Fq.take{N:Nat}(h:Fq m S A B)(d:A.length=N)(c:m<=N):Fq m S A (B.take N):=⟨by rw[afC];have:=h.len;omega,λi a=>by rw[afD (by omega)];exact h.low i a,λi o a ho b=>by
 have:=eg b;rw[afD (by omega)];exact h.box i o a ho b⟩
def Fq.own{cs:lA}(h:Fq m S A B)(b:p∉S)(c:A[p]?=some (.box cs tg)):B[p]?=some (.box cs tg):=h.box p _ b (λq=>by obtain⟨a,d,q⟩:=q;cases q) c
end
def gH(Q:Prop)(B:Nat)(H H':List ae)(lo ak:oN):Prop:=(ak=lo/\H'.length=H.length/\Q)\/ ∃j,j<=B/\ak=cJ lo j
def awm{a b:Nat}:cJ (cJ lo a) b=cJ lo (min a b):=by
 cases lo with
 |none=>exact ag3 some (Nat.min_comm b a)
 |some c=>show some (min b (min a c))=some (min (min a b) c);grind
theorem gH.same{B:Nat}{H:List ae}(h:Q):gH Q B H H lo lo:=.inl ⟨rfl,rfl,h⟩
section
variable{m N B:Nat}{S:lN}{H L W H2:List ae}{lo ny:oN}{Q:Prop}{v:AV}
def L5(h:H.length=N)(k:B<N)(e:m<=N)(i:Fq m S (H++L) W)(f:gH Q B (H++L) W none ny)(d:v.refs<=N):
  ∃H2 a,finish N lo v ⟨W,ny⟩=(v,⟨H2,a⟩)/\Fq m S H H2/\gH Q B H H2 lo a/\ (H2=W\/ (H2=W.take N/\Q)):=by
 have b:=i.pre (by omega);rcases f with⟨rfl,l,c⟩| ⟨j,g,rfl⟩
 ·refine⟨W.take N,lo,jD (.inl rfl) d,b.take h e,.inl ⟨rfl,?_,c⟩,.inr ⟨rfl,c⟩⟩
  grind
 ·refine⟨W,cJ lo j,?_,b,.inr ⟨j,g,rfl⟩,.inl rfl⟩;have:cJ none j=some j:=rfl;exact vU (by omega)
def L6{o:ae}(h:H2=W\/ (H2=W.take N/\Q))(b:i<N)(a:W[i]?=some o):H2[i]?=some o:=by grind
def dE.oJ{n:Nat}{ty:TypeId}{v v':AV}{a:List lA}(h:dE n W v' sz ty af)(c:H2=W\/ (H2=W.take N/\Q))(b:Q->v'=v)(e:dE n H v sz ty a)(d:H.length=N):dE n H2 v' sz ty af:=by
 rcases c with rfl| ⟨rfl,q⟩
 ·exact h
 ·have:=b q;subst this;exact h.take e d
end
structure dQ(m p q:Nat)(x:Core)(qv:AV)(H:List ae):Prop where
 mp:m<=p
 mq:m<=q
 qp:q<p
 box:H[p]?=some (.box (bK x q qv) none)
 ik:H[q]?=some (.box (b9 x.P) none)
 jX:dE (p+1) H qv 1 qT (x.Q.map iD)
section
variable{m p q:Nat}{x:Core}{qv:AV}{H:List ae}
def dQ.lt(h:dQ m p q x qv H):p<H.length:=eg h.box
theorem dQ.app(h:dQ m p q x qv H)(L:List ae):dQ m p q x qv (H++L):=⟨h.mp,h.mq,h.qp,bf h.box,bf h.ik,h.jX.app L⟩
theorem dQ.set(h:dQ m p q x qv H){cs:lA}(c:H[i]?=some (.box cs tg))(b:i≠p)(a:i≠q)(o:ae):dQ m p q x qv (H.set i o):=
 ⟨h.mp,h.mq,h.qp,(acT b).trans h.box,(acT a).trans h.ik,h.jX.set c o⟩
theorem dQ.oJ{W H2:List ae}{N:Nat}{d:Core}(h:dQ m p q x qv W)(b:H2=W\/ (H2=W.take N/\Q))(e:Q->qv=a)(c:dQ m p q d a H0)(f:H0.length=N):dQ m p q x qv H2:=
 have g:=c.lt
 ⟨h.mp,h.mq,h.qp,L6 b (by omega) h.box,L6 b (by have:=h.qp;omega) h.ik,dE.oJ h.jX b e c.jX f⟩
def dQ.ajC(h:dQ m p q x qv H)(M:Marks):dQ m p q {x with M:=M} qv (H.set p (.box (bK {x with M:=M} q qv) none)):=
 ⟨h.mp,h.mq,h.qp,de h.box,(acT (by have:=h.qp;omega)).trans h.ik,h.jX.set h.box _⟩
def dQ.ajD(h:dQ m p q x qv H)(s:bm):dQ m p q {x with S:=s} qv (H.set p (.box (bK {x with S:=s} q qv) none)):=
 ⟨h.mp,h.mq,h.qp,de h.box,(acT (by have:=h.qp;omega)).trans h.ik,h.jX.set h.box _⟩
def dQ.Ga(h:dQ m p q x qv H)(P:cz):dQ m p q {x with P:=P} qv (H.set q (.box (b9 P) none)):=
 ⟨h.mp,h.mq,h.qp,(acT (by have:=h.qp;omega)).trans h.box,de h.ik,h.jX.set h.ik _⟩
def dQ.fp(h:dQ m p q x qv H)(o:ae):Fq m [p,q] H (H.set p o):=Fq.set (by simp) h.mp o
def dQ.fq(h:dQ m p q x qv H)(o:ae):Fq m [p,q] H (H.set q o):=Fq.set (by simp) h.mq o
end
def T6(m p q:Nat)(H:List ae)(lo:oN)(b:Core)(qv:AV)(r:AV)(c:aV):Prop:=
 ∃a H' ak,c= .ret r ⟨H',ak⟩/\dQ m p q b a H'/\Fq m [p,q] H H'/\gH (a=qv) p H H' lo ak
def jG(x:Core)(r:aD)(k:Nat):Core:={x with Q:=x.Q++(fi r).take k}
def ajE(x:Core)(r:aD):jG x r r.2=b8 x r:=by
 unfold jG b8;rw[adP (by simp[fi])]
def ajF{r:aD}(h:k<r.2): (fi r).take (k+1)=(fi r).take k++[r.1+k]:=by
 rw[agR];simp[fi,h]
def T7{H:List ae}(l:dQ m p q x qv H)(r:aD)(X:r.1<4294967296/\r.2<4294967296)(hQ:x.Q.length<17179869184)(lo:oN):
  ∃K,D XC (.fn (.func 132) [] []) [.ptr p 0,.agg (aA r)] ⟨H,lo⟩=some K/\T6 m p q H lo (b8 x r) qv (.az []) K:=by
 refine cN Qj λN s=>?_
 have C:p<N:=by rw[<-s];exact l.lt
 have h1: (aA r)[1]?=some (.int .i64 r.2):=rfl;simp only[go_sem,simprocAttr,Qj,s];refine ja r.2 (λk e W ak=> ∃c,e 0= .ptr p 0/\e 3= .ptr N 0/\e 6= .int .i64 r.2/\e 7= .int .i64 k/\dQ m p q (jG x r k) c W/\W[N]?=some (.box (aA r) none)/\Fq m [p,q] (H++[.box (aA r) none]) W/\gH (c=qv) p (H++[.box (aA r) none]) W none ak) 0 (by omega) ?_ ?_
 ·refine⟨qv,?_⟩;simp(disch:=omega) only[go_sem,simprocAttr];refine⟨?_,Fq.refl,gH.same trivial⟩;have:=l.app [.box (aA r) none];unfold jG;simpa using this
 rintro k Z e W ak ⟨c,J,e3,e6,e7,b,hw,I,g⟩ n Y;have h0: (aA r)[0]?=some (.int .i64 r.1):=rfl;simp only[cb,go_sem,simprocAttr,aeG,J,e6,e7];refine⟨λO=>?_,λO=>?_⟩
 ·have E:k<r.2:=by omega
  have V:=(qk (b.jX.rd (lo:=none)));simp(disch:=omega) only[go_sem,simprocAttr,e3,b.box,hw,↓KL];have h: (x.Q++(fi r).take k).length<=x.Q.length+r.2:=by simp[fi];omega
  have M:=b.lt;obtain⟨v',W',g1,g2,g3,U,t,T,R,g8⟩:=dE.append (bytes:=8) (lo:=ak) (y:=[.int .i64 ((r.1:Int)+k)]) b.jX (by omega) (by omega) rfl rfl (by rw[afm];show((x.Q++(fi r).take k).length+1)*8<=room;unfold room;omega);have z: ∀cs tg,∀a d,ae.box cs tg≠ .row a 1 qT d:=λ_ _ _ _ e=>by cases e
  have f:=t p _ (z _ _) b.box;have u:=t q _ (z _ _) b.ik;have w:=t N _ (z _ _) hw;have F: ¬v'.refs<=p+1:=by omega
  rw[g1];simp(disch:=omega) only[go_sem,simprocAttr,J,e3,e6,e7,f,KS,T,R,F];refine⟨by omega,v',?_⟩;refine⟨?_,w,?_,?_⟩
  ·refine⟨b.mp,b.mq,b.qp,by rw[awl];exact de f,(acT (by have:=b.qp;omega)).trans u,?_⟩;have: (jG x r (k+1)).Q.map iD=(jG x r k).Q.map iD++[[.int .i64 ((r.1:Int)+k)]]:=by
    unfold jG;rw[ajF E,<-adK,afr];rfl
   rw[this];exact g2.set f _
  ·refine I.trans ⟨by simp;omega,λi G=>?_,λi o G ho P=>?_⟩
   ·rw[acT (by have:=b.mp;omega)];exact U i (by have:=b.mp;omega)
   ·rw[acT (by rintro rfl;simp at G)];exact t i o (λa d e=>ho ⟨a,d,e⟩) P
  ·rcases g with⟨rfl,_,_⟩| ⟨j,hj,rfl⟩
   ·exact .inr ⟨p,aef _,rfl⟩
   ·exact .inr ⟨min j p,by omega,awm⟩
 ·obtain rfl:k=r.2:=by omega
  have hm:=l.mp;obtain⟨H2,A,f1,f2,f3,f4⟩:=L5 (lo:=lo) s C (by omega) I g (v:=.az []) (aee _);rw[f1];rw[ajE]at b;exact⟨c,H2,A,rfl,b.oJ f4 id l s,f2,f3⟩
def bL(c:Call)(rv:AV):lA:=[.int .i64 c.aa]++(bn c.c++([.bool c.checked,rv]++(aA c.run++[.int .i64 c.fF])))
theorem awn(c:Call)(rv:AV):bL c rv=[.int .i64 c.aa,.int .u8 c.c.op,.int .u32 c.c.r,.int .u32 c.c.s,.int .u32 c.c.a,.int .u32 c.c.b,.int .u64 c.c.v,.bool c.checked,rv,.int .i64 c.run.1,.int .i64 c.run.2,.int .i64 c.fF]:=rfl
structure fS(c:Call):Prop where
 aa:c.aa<4294967296
 iV:gE c.c
 aY: ∀h∈c.aY,h<4294967296
 run:c.run.1<65536/\c.run.2<65536
 fF:c.fF<65536
structure jH(x:Core):Prop where
 S:aW x.S
 P:fy x.P
 M: ∀i,iU (x.M i)
 Q: ∀k∈x.Q,k<2147483648
 Ql:x.Q.length<8589934592
def ajG{H:List ae}(b:dQ m p q x qv H)(l:jH x)(c:Call)(n:fS c)(rv:AV)(r:rv.refs=0)(lo:oN):
  ∃k,D XC (.fn (.func 97) [] []) [.ptr p 0,.agg (bL c rv)] ⟨H,lo⟩=some k/\T6 m p q H lo (oA x c) qv (.az []) k:=by
 refine cN PY λN d=>?_
 have f:p<N:=by rw[<-d];exact b.lt
 have z:=n.run;obtain⟨k,g1,a,W,ak,rfl,g2,o,y⟩:=T7 (b.app [.box (bL c rv) none]) c.run ⟨by omega,by omega⟩ (by have:=l.Ql;omega) none;have h:Den.part true 2 (bL c rv) 9=some (.agg (aA c.run)):=rfl;have i: (bL c rv)[0]?=some (.int .i64 c.aa):=rfl;have j:N∉[p,q]:=by have:=b.qp;simp;omega
 have wn:W[N]?=some (.box (bL c rv) none):=o.own j (by rw[dI d];rfl);have t:=λH lo=>c0 (avO x.M l.M c.aa n.aa H lo)
 have w: (b8 x c.run).M=x.M:=rfl;have g:=λm=>eA m
 simp only[go_sem,simprocAttr,PY,d,↓h,g1,g2.box,wn,i,↓KL,KS,w,t,g,kh];have u:=o.trans (g2.fp (.box (bK {b8 x c.run with M:=rE x.M c.aa} q a) none));have s:gH (a=qv) p (H++[.box (bL c rv) none]) (W.set p (.box (bK {b8 x c.run with M:=rE x.M c.aa} q a) none)) none ak:=y.elim (λq=>.inl ⟨q.1,by rw[afw];exact q.2.1,q.2.2⟩) .inr;obtain⟨H2,e,f1,f2,f3,f4⟩:=L5 (lo:=lo) d f (by have:=b.mp;omega) u s (v:=.az []) (aee _);rw[f1];exact⟨a,H2,e,rfl,(g2.ajC _).oJ f4 id b d,f2,f3⟩
def awo{H:List ae}(c:dQ m p q x qv H)(t:jH x)(lo:oN):
  ∃y,D XC (.fn (.func 59) [] []) [.ptr p 0] ⟨H,lo⟩=some y/\T6 m p q H lo (gC x).1 qv (.bool (gC x).2) y:=by
 have ho:Old p H (.box (bK x q qv) none):=⟨c.box⟩;refine cN JH λN r=>?_
 have h:p<N:=by rw[<-r];exact c.lt
 have b:=(c.jX.rd (lo:=none)).bY;unfold gC;have E:Fq m [p,q] (H++[]) H:=by rw[agT];exact Fq.refl
 cases n:x.Q with
 |nil=>
  rw[n]at b;simp(disch:=omega) only[F1,go_sem,simprocAttr,JH,c.box,↓KL,b];exact⟨qv,H,lo,rfl,c,Fq.refl,gH.same rfl⟩
 |cons a l=>
  have d:=c.jX;rw[n]at b d;rw[aiQ]at d;have G: ¬((l.length:Nat):Int)+1=0:=by omega
  have k:kr 1 qv (.int .i64 0)=some (gy qv 0 0):=by
   rw[(d.rd (lo:=none)).addr,adG ⟨by omega,by simp⟩];rfl
  have i:cq XC ⟨H,none⟩ false 1 (gy qv 0 0)=some (.int .i64 a):=(d.rd (lo:=none)).load (by simp);obtain⟨w,s1,s2,B,A,z⟩:=dE.tail (bytes:=8) d;have F:=λlo=>c0 (av7 t.P c.ik lo (t.Q a (by rw[n];simp)))
  have j: (FP.rd p 952 1).ok (qO 1 (gy qv 0 0))=true:=by
   rcases d.2 with⟨_,e⟩| ⟨_,_,_,_,_,rfl,_⟩
   ·cases e
   ·rfl
  have s: ∀o,(H.set q o)[p]?=some (.box (bK x q qv) none):=λo=>(acT (by have:=c.qp;omega)).trans c.box
  have C:p+1<w.refs:=by
   rw[z];rcases d.2 with⟨_,e⟩| ⟨id,_,_,_,J,rfl,_⟩
   ·cases e
   ·simp only[AV.refs];omega
  have f: ¬w.refs<=p+1:=by omega
  simp only[go_sem,simprocAttr,JH,r,c.box,↓KL,b,G,k,i,F,j,s,s1,B,A,KS,f];have u:=(c.fq (.box (b9 (kS x.P a)) none)).trans ((c.Ga (kS x.P a)).fp (.box (bK x q w) none));have hm:=c.mp;obtain⟨I,g,f1,f2,f3,f4⟩:=L5 (m:=m) (N:=N) (lo:=lo) (Q:=False) (L:=[]) r h (by omega) (by rw[agT];exact u) (.inr ⟨p,aef _,rfl⟩) (v:=.bool true) (aee _);rw[f1];have f5:I=(H.set q (.box (b9 (kS x.P a)) none)).set p (.box (bK x q w) none):=f4.elim id λe=>e.2.elim
  rw[f5];refine⟨w,_,g,rfl,⟨c.mp,c.mq,c.qp,de (s _),(acT (by have:=c.qp;omega)).trans (de c.ik),?_⟩,u,?_⟩
  ·exact(s2.set c.ik _).set (s _) _
  ·rw[f5]at f3;exact f3.elim (λe=>e.2.2.elim) .inr
def dW(st:bB)(p:Nat)(rv:AV):lA:=[.ptr p 0]++(bL st.c rv++(bE st.r++[.bool st.ended]))
section
variable{st:bB}{p:Nat}{rv:AV}
theorem T8: (dW st p rv).length=17:=rfl
theorem ajH: (dW st p rv)[0]?=some (.ptr p 0):=rfl
theorem ajI: (dW st p rv)[1]?=some (.int .i64 st.c.aa):=rfl
theorem ajJ: (dW st p rv)[8]?=some (.bool st.c.checked):=rfl
theorem ajK: (dW st p rv)[9]?=some rv:=rfl
theorem ajL: (dW st p rv)[10]?=some (.int .i64 st.c.run.1):=rfl
theorem ajM: (dW st p rv)[11]?=some (.int .i64 st.c.run.2):=rfl
theorem ajN: (dW st p rv)[12]?=some (.int .i64 st.c.fF):=rfl
theorem ajO: (dW st p rv)[16]?=some (.bool st.ended):=rfl
theorem T9:Den.part true 12 (dW st p rv) 1=some (.agg (bL st.c rv)):=rfl
theorem ajP:Den.part true 6 (dW st p rv) 2=some (.agg (bn st.c.c)):=rfl
theorem ajQ:Den.part true 2 (dW st p rv) 10=some (.agg (aA st.c.run)):=rfl
theorem ajR:Den.part true 3 (dW st p rv) 13=some (.agg (bE st.r)):=rfl
theorem ajS{b:Bool}:aO (dW st p rv) 8 [.bool b]=dW {st with c:={st.c with checked:=b}} p rv:=rfl
theorem ajT:aO (dW st p rv) 9 [v]=dW st p v:=rfl
theorem ajU{r:aD}:aO (dW st p rv) 10 (aA r)=dW {st with c:={st.c with run:=r}} p rv:=rfl
theorem ajV{n:Nat}:aO (dW st p rv) 12 [.int .i64 n]=dW {st with c:={st.c with fF:=n}} p rv:=rfl
theorem ajW:aO (dW st p rv) 13 (bE r)=dW {st with r:=r} p rv:=rfl
theorem ajX{b:Bool}:aO (dW st p rv) 16 [.bool b]=dW {st with ended:=b} p rv:=rfl
def Ua(c:Call)(h:rv.refs=0):aL (bL c rv)=0:=by rw[awn];simp[aL,AV.refs,h]
def PL:=gG @ajH<|gG @ajI<|gG @ajJ<|gG @ajK<|gG @ajL<|gG @ajM<|gG @ajN<|gG @ajO<|gG @T9<|gG @ajP<|gG @ajQ @ajR
def PS:=gG @ajS<|gG @ajT<|gG @ajU<|gG @ajV<|gG @ajW<|gG @ajX @T8
end
structure dp(m p q s:Nat)(st:bB)(qv rv:AV)(H:List ae):Prop where
 co:dQ m p q st.x qv H
 ps:p<s
 box:H[s]?=some (.box (dW st p rv) none)
 aY:Rv rv 1 (st.c.aY.map hC)
section
variable{m p q s:Nat}{st:bB}{qv rv:AV}{H:List ae}
def dp.lt(h:dp m p q s st qv rv H):s<H.length:=eg h.box
theorem dp.rz(h:dp m p q s st qv rv H):rv.refs=0:=dj h.aY (bH (λ_=>rfl) _)
theorem dp.app(h:dp m p q s st qv rv H)(L:List ae):dp m p q s st qv rv (H++L):=⟨h.co.app L,h.ps,bf h.box,h.aY⟩
theorem dp.set(h:dp m p q s st qv rv H){qn:bB}{rS:AV}(a:qn.x=st.x)(b:Rv rS 1 (qn.c.aY.map hC)):dp m p q s qn qv rS (H.set s (.box (dW qn p rS) none)):=
 ⟨a ▸ h.co.set h.box (by have:=h.ps;omega) (by have:=h.ps;have:=h.co.qp;omega) _,h.ps,de h.box,b⟩
def dp.fs(h:dp m p q s st qv rv H)(o:ae):Fq m [p,q,s] H (H.set s o):=Fq.set (by simp) (by have:=h.ps;have:=h.co.mp;omega) o
def dp.sn(h:dp m p q s st qv rv H):s∉[p,q]:=by have:=h.ps;have:=h.co.qp;grind
def dp.ai{W:List ae}{b:Core}(h:dp m p q s st qv rv H)(d:dQ m p q b a W)(c:Fq m [p,q] H W):dp m p q s {st with x:=b} a rv W:=
 ⟨d,h.ps,c.own h.sn h.box,h.aY⟩
def Fq.m3{H W:List ae}(h:Fq m [p,q] H W):Fq m [p,q,s] H W:=h.mono (by simp)
theorem dp.oJ{W d:List ae}{N:Nat}{c:AV}{b:bB}(h:dp m p q s st qv rv W)(e:d=W\/ (d=W.take N/\Q))(i:Q->qv=a)(g:dp m p q s b a c H0)(f:H0.length=N):dp m p q s st qv rv d:=
 ⟨h.co.oJ e i g.co f,h.ps,L6 e (by rw[<-f];exact g.lt) h.box,h.aY⟩
end
def eG(m p q s:Nat)(H:List ae)(lo:oN)(qn:bB)(qv:AV)(r:AV)(b:aV):Prop:=
 ∃a rS H' ak,b= .ret r ⟨H',ak⟩/\dp m p q s qn a rS H'/\Fq m [p,q,s] H H'/\gH (a=qv) p H H' lo ak
structure qo(st:bB):Prop where
 x:jH st.x
 c:fS st.c
def eG.fin{s N:Nat}{d st:bB}{e:AV}{H L W:List ae}(c:dp m p q s d a e H)(g:H.length=N)(h:dp m p q s st qv rv W)(k:Fq m [p,q,s] (H++L) W)(j:gH (qv=a) p (H++L) W none b)(i:v.refs<=N):
  eG m p q s H lo st a v (.ret (finish N lo v ⟨W,b⟩).1 (finish N lo v ⟨W,b⟩).2):=by
 have r:=c.lt;have o:=c.ps;have n:=c.co.mp;obtain⟨l,f,f1,f2,f3,f4⟩:=L5 (m:=m) (N:=N) (lo:=lo) g (by omega) (by omega) k j i;rw[f1];exact⟨qv,rv,l,f,rfl,h.oJ f4 id c g,f2,f3⟩
def Ub{s:Nat}{st:bB}{H:List ae}(a:dp m p q s st qv rv H)(e:qo st)(r:bt)(lo:oN):
  ∃d,D XC (.fn (.func 151) [] []) [.ptr s 0,.agg (bE r)] ⟨H,lo⟩=some d/\eG m p q s H lo (oB st r) qv (.az []) d:=by
 refine cN Qt λN g=>?_
 have h:=(a.app [.box (bE r) none]).set (qn:={st with r:=r,ended:=true}) (rS:=rv) rfl a.aY;have k:=(a.app [.box (bE r) none]).fs (.box (dW {st with r:=r,ended:=true} p rv) none);obtain⟨d,g1,b,W,ak,rfl,g2,i,l⟩:=ajG h.co e.x st.c e.c rv a.rz none;have f:=λL=>bf (L:=L) a.box
 have c:=λL o=>de (o:=o) (f L)
 simp only[go_sem,simprocAttr,Qt,g,f,PL,PS,xN,uk,rR,c,akQ,↓T9,g1];have j:gH (b=qv) p (H++[.box (bE r) none]) W none ak:=l.elim (λq=>.inl ⟨q.1,by grind,q.2.2⟩) .inr;exact eG.fin a g (h.ai g2 i) (k.trans i.m3) j (aee _)
def fy.ajY{p:cz}(h:fy p)(n:Nat):fy (gj p n).1:=by
 unfold gj;split
 ·exact h
 split
 ·exact h
 ·rename_i x b;cases a:mK p.free (x.1,n)with
  |none=>exact h
  |some l=>exact⟨h.n,h.free.take a,h.bytes⟩
def fy.clear{p:cz}(h:fy p)(i:Nat):fy (nv p i):=by
 unfold nv;split
 ·refine⟨h.n,h.free,λa b=>?_⟩;show ao p.bytes i (λ_=>0) a b<256;unfold ao;split
  ·simp
  ·exact h.bytes a b
 omega
def fy.back{p:cz}(h:fy p)(i:Nat):fy (kS p i):=by
 unfold kS;split
 ·unfold B4;cases a:gR p.free (i,1)with
  |none=>exact h
  |some l=>exact⟨h.n,h.free.gR a,h.bytes⟩
 omega
def fy.write{p:cz}(h:fy p)(i b:Nat)(d:b<256):fy (ma p i b):=by
 unfold ma;split
 ·refine⟨h.n,h.free,λa c=>?_⟩;show ao p.bytes (i/32) (ao (p.bytes (i/32)) (i % 32) b) a c<256;unfold ao;split
  ·show(if c=i % 32 then b else p.bytes (i/32) c)<256;split
   ·omega
   ·exact h.bytes _ _
  ·exact h.bytes a c
 omega
def awp{p:cz}(h:fy p)(n:Nat)(c:n<=64)(b: (gj p n).2.2=0): (gj p n).2.1+n<=64:=by
 unfold gj at b⊢;split
 ·grind
 ·rename_i e;split
  ·grind
  ·rename_i x a;have d:=h.free.bd x (apT a)
   grind
def Uc{x y:ay}{h:Nat}{r:cP}(e:mI x h r= .ok y):y.kO=x.kO:=by
 unfold mI at e;cases a:ch (ew x.s.T h r).2 with
 |error _=>rw[a]at e;cases e
 |ok _=>rw[a]at e;cases e;rfl
def aC{α β:Type}{m:R α}{f:α->R β}{b:β}(h: (m>>=f)= .ok b): ∃a,m= .ok a/\f a= .ok b:=by
 cases m with
 |error e=>cases h
 |ok a=>exact⟨a,rfl,h⟩
def awq{x y:ay}(e:x.kO=0)(h:jh x= .ok (y,r)):y.kO<=4:=by
 unfold jh at h;dsimp only at h;cases b:l9 (min x.c.a 129) (min x.c.b 9)with
 |none=>rw[b]at h;cases h
 |some n=>
  have c:n<=4:=by
   unfold l9 at b;split at b
   ·rename_i ho;have:min x.c.a 129<=128:=by unfold isObj at ho;simp at ho;omega
    cases b;omega
   ·cases b
  rw[b]at h;obtain⟨a,e1,h⟩:=aC h;cases e1;obtain⟨_,_,h⟩:=aC h;obtain⟨_,_,h⟩:=aC h;split at h
  ·obtain⟨z,d,h⟩:=aC h;cases h;rw[Uc d,e];omega
  ·obtain⟨_,_,h⟩:=aC h;split at h
   ·cases h;exact c
   ·obtain⟨_,_,h⟩:=aC h;obtain⟨z,d,h⟩:=aC h;cases h;rw[Uc d];exact c
def ajZ(s:bm)(aa:Nat)(c:cn):dO s aa c<=4:=by
 unfold dO;split
 ·omega
 ·split
  ·rename_i y r e;obtain⟨_,_,e⟩:=aC (show(ask _ _>>=λ_=>ib _)=_ from e);unfold ib at e;have:c.op=2:=by omega
   simp only[this]at e;exact awq rfl e
  ·omega
theorem eG.same{s:Nat}{st:bB}{H:List ae}{r:AV}(h:dp m p q s st qv rv H):eG m p q s H lo st qv r (.ret r ⟨H,lo⟩):=⟨qv,rv,H,lo,rfl,h,Fq.refl,gH.same rfl⟩
def eG.Gb{s N:Nat}{c st:bB}{d:AV}{H W:List ae}(g:dp m p q s c a d H)(f:H.length=N)(h:dp m p q s st qv rv W)(j:Fq m [p,q,s] H W)(i:gH (qv=a) p H W none b)(e:v.refs<=N):
 eG m p q s H lo st a v (.ret (finish N lo v ⟨W,b⟩).1 (finish N lo v ⟨W,b⟩).2):=eG.fin (L:=[]) g f h (by grind) (by grind) e
def aj0{s:Nat}{st:bB}{H:List ae}(ha:dp m p q s st qv rv H)(hx:qo st)(e:Nat)(lo:oN):
 ∃a,D XC (.fn (.func 151) [] []) [.ptr s 0,.agg [.int .i64 e,.int .u64 0,.int .u32 0]] ⟨H,lo⟩=some a/\eG m p q s H lo (oB st {bD with e:=e}) qv (.az []) a:=Ub ha hx {bD with e:=e} lo
section
variable(hD: ∀op,qm op){m p q s:Nat}{st:bB}{qv rv:AV}{H:List ae}(ha:dp m p q s st qv rv H)(hx:qo st)(lo:oN)
include hD ha hx
theorem awr: ∃f,D XC (.fn (.func 140) [] []) [.ptr s 0] ⟨H,lo⟩=some f/\eG m p q s H lo (ic st).1 qv (.bool (ic st).2) f:=by
 refine cN BN λN b=>?_
 have k:s<N:=by rw[<-b];exact ha.lt
 have hw:=awb st.x.S hx.x.S st.c.aa hx.c.aa st.c.c hx.c.iV (hD _);have g:=ajv st.x.S hx.x.S st.c.aa hx.c.aa st.c.c hx.c.iV (hD _);unfold ic;cases d:st.c.checked with
 |true=>
  simp(disch:=omega) only[F1,go_sem,simprocAttr,BN,ha.box,PL,d];exact eG.same ha
 |false=>
  cases i:KY st.x.S st.c.aa st.c.c with
  |true=>
   rw[i]at hw;simp only[F1,go_sem,simprocAttr,BN,b,ha.box,ha.co.box,PL,↓PL,KL,↓KL,d,hw];exact eG.same ha
  |false=>
   rw[i]at hw;by_cases h:oy st.x.S st.c.aa st.c.c=0
   ·have a: ((oy st.x.S st.c.aa st.c.c:Nat):Int)=0:=by omega
    obtain⟨v,d1,d2⟩:=awk hx.x.S hx.c.iV H none;obtain⟨t1,t2⟩:=qk (d2 ⟨[],none⟩);have t3:=dj d2 (bH (λ_=>rfl) _);have e:=λo=>de (o:=o) ha.box
    simp only[go_sem,simprocAttr,BN,b,ha.box,ha.co.box,PL,↓PL,KL,↓KL,PS,d,hw,g,a,d1,t1,t2,t3,e,akQ];rw[adE (λq=>q h)];exact eG.Gb (v:=.bool true) ha b (ha.set (qn:={st with c:={st.c with checked:=true,aY:=s6 st.x.S st.c.c}}) rfl d2) (ha.fs _) (.inl ⟨rfl,by simp,rfl⟩) (aee _)
   ·have a: ¬((oy st.x.S st.c.aa st.c.c:Nat):Int)=0:=by omega
    obtain⟨f,g1,j,rS,W,ak,rfl,g2,n,l⟩:=aj0 ha hx (oy st.x.S st.c.aa st.c.c) none;simp only[go_sem,simprocAttr,BN,b,ha.box,ha.co.box,PL,↓PL,KL,↓KL,d,hw,g,a,g1];rw[adG h];exact eG.Gb ha b g2 n l (aee _)
omit hD in
theorem aws: ∃R,D XC (.fn (.func 141) [] []) [.ptr s 0] ⟨H,lo⟩=some R/\eG m p q s H lo (ie st).1 qv (.bool (ie st).2) R:=by
 have ho:Old s H (.box (dW st p rv) none):=⟨ha.box⟩;refine cN EV λN n=>?_
 have T:s<N:=by rw[<-n];exact ha.lt
 have U:p<N:=by have:=ha.ps;omega
 have a:=ha.aY.bY (E:=⟨H,none⟩);unfold ie;cases G:st.c.aY with
 |nil=>
  rw[G]at a;simp(disch:=omega) only[F1,go_sem,simprocAttr,EV,n,ha.box,PL,a];exact eG.same ha
 |cons h t=>
  have f:=ha.aY;rw[G]at a f;have Q: ¬((t.length:Nat):Int)+1=0:=by omega
  have A:kr 1 rv (.int .i64 0)=some (gy rv 0 0):=by
   rw[f.cD,adG ⟨by omega,by simp⟩];rfl
  have y: ∀E,cq XC E false 1 (gy rv 0 0)=some (.int .u32 h):=λE=>f.di (by simp)
  have e:=λH lo=>c0 (kc h (hx.c.aY h (by rw[G];simp)) H lo)
  have F: ((fe h).getD 0)=aI h:=rfl;unfold jo at e;rw[F]at e;have d:=λH lo=>c0 (avG st.x.M hx.x.M (aI h) st.c.aa hx.c.aa H lo)
  have B:o7.length=320:=by decide
  have r:List.drop 320 o7=[]:=ag5 (by rw[B];omega);have u: ∀m:Marks,List.take 320 (c9 m)=c9 m:=λm=>adP (by rw[eA];omega)
  have K:=λL=>bf (L:=L) ha.box
  have z:=λL=>bf (L:=L) ha.co.box
  have v:=λm=>eA m
  obtain⟨c,C⟩: ∃c,rv= .sl ((h::t).map hC) c:=by
   obtain⟨S,l,V⟩:=f ⟨[],none⟩;cases rv<;>simp only[]at S
   ·simp[Den.elems]at l
   ·rename_i af c;simp only[Den.elems]at l;split at l
    ·cases l;exact⟨c,rfl⟩
    ·cases l
   ·simp[Den.elems]at l
  obtain⟨w,s1,s2⟩:=ajm (sz:=1) (af:=(h::t).map hC) (c:=c) (i:=1) (by intro el J;obtain⟨x,_,rfl⟩:=afq.1 J;rfl) (by simp);rw[<-C]at s1;have s1:gJ 1 rv (some (.int .i64 1)) none none=some w:=s1;obtain⟨t1,t2⟩:=qk (s2 ⟨[],none⟩);have t3:=dj s2 (bH (g:=hC) (λ_=>rfl) t);have I: ∀L o,((H++L).set p o)[s]?=some (.box (dW st p rv) none):=λL o=>(acT (by have:=ha.ps;omega)).trans (K L)
  obtain⟨j,k⟩: ∃j,j=(jk st.x.M (aI h) st.c.aa).1:=⟨_,rfl⟩;have O:=(ha.app [.box (c9 j) none]).ai ((ha.app [.box (c9 j) none]).co.ajC j) ((ha.app [.box (c9 j) none]).co.fp _);have P:=(ha.app [.box (c9 j) none]).co.fp (.box (bK {st.x with M:=j} q qv) none);rw[<-k]at d;cases b: (jk st.x.M (aI h) st.c.aa).2 with
  |true=>
   rw[b]at d;simp(disch:=omega) only[go_sem,simprocAttr,EV,n,ha.box,K,z,I,PL,↓PL,PS,KL,↓KL,KS,a,Q,A,y,e,d,B,r,u,v,kh,s1,t1,t2,t3];rw[adG b,<-k];exact eG.fin ha n (O.set (qn:={st with x:={st.x with M:=j},c:={st.c with aY:=t}}) rfl s2) (P.m3.trans (O.fs _)) (.inl ⟨rfl,by simp,rfl⟩) (aee _)
  |false=>
   rw[b]at d;simp(disch:=omega) only[go_sem,simprocAttr,EV,n,ha.box,K,z,PL,↓PL,KL,↓KL,KS,a,Q,A,y,e,d,B,r,u,v,kh];rw[adE (by rw[b];simp),<-k];exact eG.fin ha n O P.m3 (.inl ⟨rfl,by simp,rfl⟩) (aee _)
theorem awt: ∃k,D XC (.fn (.func 142) [] []) [.ptr s 0] ⟨H,lo⟩=some k/\eG m p q s H lo (iA st).1 qv (.bool (iA st).2) k:=by
 have ho:Old s H (.box (dW st p rv) none):=⟨ha.box⟩;refine cN BO λN e=>?_
 have h:=λH lo=>cB (TT st.x.S hx.x.S st.c.aa hx.c.aa st.c.c hx.c.iV (hD _) H lo)
 have u:=ajZ st.x.S st.c.aa st.c.c;unfold iA;dsimp only;by_cases w:dO st.x.S st.c.aa st.c.c=0
 ·have a:decide (((dO st.x.S st.c.aa st.c.c:Nat):Int)=0)=true:=aec (by omega);rw[adG (.inl w)];simp only[F1,go_sem,simprocAttr,BO,e,ha.box,ha.co.box,PL,↓PL,KL,↓KL,h,a];exact eG.same ha
 ·have a:decide (((dO st.x.S st.c.aa st.c.c:Nat):Int)=0)=false:=adO (by omega);by_cases v:0<st.c.run.2
  ·have b: ((st.c.run.2:Nat):Int)>0:=by omega
   rw[adG (.inr v)];simp only[F1,go_sem,simprocAttr,BO,e,ha.box,ha.co.box,PL,↓PL,KL,↓KL,h,a,b];exact eG.same ha
  ·have b: ¬((st.c.run.2:Nat):Int)>0:=by omega
   rw[adE (by omega)];have g:=λlo=>awa hx.x.P ha.co.ik lo (n:=dO st.x.S st.c.aa st.c.c) (by omega)
   have i:=ha.ai (ha.co.Ga (gj st.x.P (dO st.x.S st.c.aa st.c.c)).1) (ha.co.fq _);have l:=ha.co.fq (.box (b9 (gj st.x.P (dO st.x.S st.c.aa st.c.c)).1) none);have j:qo {st with x:={st.x with P:=(gj st.x.P (dO st.x.S st.c.aa st.c.c)).1}}:=⟨⟨hx.x.S,hx.x.P.ajY _,hx.x.M,hx.x.Q,hx.x.Ql⟩,hx.c⟩;generalize t:gj st.x.P (dO st.x.S st.c.aa st.c.c)=pc at*;by_cases o:pc.2.2=0
   ·have d:decide (((pc.2.2:Nat):Int)=0)=true:=aec (by omega);rw[adE (λq=>q o)];have f: [AV.int .i64 (pc.2.1:Nat),.int .i64 ((dO st.x.S st.c.aa st.c.c:Nat))]=aA (pc.2.1,dO st.x.S st.c.aa st.c.c):=rfl;simp only[go_sem,simprocAttr,BO,e,ha.box,ha.co.box,PL,↓PL,KL,↓KL,h,a,b,g,d,i.box,f,PS];exact eG.Gb ha e (i.set (qn:={st with x:={st.x with P:=pc.1},c:={st.c with run:=(pc.2.1,dO st.x.S st.c.aa st.c.c)}}) rfl ha.aY) (l.m3.trans (i.fs _)) (.inl ⟨rfl,by simp,rfl⟩) (aee _)
   ·have d:decide (((pc.2.2:Nat):Int)=0)=false:=adO (by omega);rw[adG o];obtain⟨k,g1,r,rS,W,ak,rfl,g2,z,y⟩:=aj0 i j pc.2.2 none;simp only[go_sem,simprocAttr,BO,e,ha.box,ha.co.box,PL,↓PL,KL,↓KL,h,a,b,g,d,g1];exact eG.Gb ha e g2 (l.m3.trans z) (y.elim (λq=>.inl ⟨q.1,by rw[q.2.1,afw],q.2.2⟩) .inr) (aee _)
omit hD in
theorem awu: ∃h,D XC (.fn (.func 143) [] []) [.ptr s 0] ⟨H,lo⟩=some h/\eG m p q s H lo (jl st).1 qv (.bool (jl st).2) h:=by
 have ho:Old s H (.box (dW st p rv) none):=⟨ha.box⟩;refine cN JY λN e=>?_
 have j:=hx.c.run;have k:=hx.c.fF;unfold jl;by_cases g:st.c.run.2<=st.c.fF
 ·have a: ((st.c.fF:Nat):Int)>=st.c.run.2:=by omega
  rw[adG g];simp(disch:=omega) only[F1,go_sem,simprocAttr,JY,e,ha.box,PL,a];exact eG.same ha
 ·have a: ¬((st.c.fF:Nat):Int)>=st.c.run.2:=by omega
  rw[adE g];have d: ∀lo,D XC (.fn (.func 155) [] []) [.ptr q 0,.int .i64 ((st.c.run.1:Int)+st.c.fF)] ⟨H,lo⟩=_:=λlo=>c0 (av5 hx.x.P ha.co.ik lo (i:=st.c.run.1+st.c.fF) (by omega))
  have f:=ha.ai (ha.co.Ga (nv st.x.P (st.c.run.1+st.c.fF))) (ha.co.fq _);have l:=ha.co.fq (.box (b9 (nv st.x.P (st.c.run.1+st.c.fF))) none);have b: ∀x,aO (dW {st with x:=x} p rv) 12 [.int .i64 ((st.c.fF:Int)+1)]=dW {st with x:=x,c:={st.c with fF:=st.c.fF+1}} p rv:=λ_=>rfl
  simp(disch:=omega) only[go_sem,simprocAttr,JY,e,ha.box,ha.co.box,PL,KL,a,d,f.box,b,T8];exact eG.Gb ha e (f.set (qn:={st with x:={st.x with P:=nv st.x.P (st.c.run.1+st.c.fF)},c:={st.c with fF:=st.c.fF+1}}) rfl ha.aY) (l.m3.trans (f.fs _)) (.inl ⟨rfl,by simp,rfl⟩) (aee _)
end
theorem aj1: ∀ (l:List aD) (b x k:Nat),(∀r∈l,r.1+r.2<=64)->kR l b x=some k->k<=2048+x
 | [],_,_,_,_,h=>by cases h
 |r::rs,b,x,k,a,h=>by
  rw[ahk]at h;split at h
  ·grind
  ·exact aj1 rs _ x k (λz c=>a z (by grind)) h
def aj2{s:bm}(d:aW s)(c:cn): (iR s c).1.length<=8/\ ∀k∈(iR s c).1,k<65536:=by
 unfold iR;split
 ·simp
 split
 ·simp
 split
 ·simp
 ·rename_i m l j;refine⟨by simp;omega,λk f=>?_⟩;obtain⟨i,h,rfl⟩:=afq.1 f;have g:=aiF.1 h;have b:=d.T.get c.r;have a:=b.len;cases he:kR (aG s.T c.r).1.runs 0 (c.a+i)with
  |none=>simp
  |some v=>
   have:=aj1 _ _ _ _ (λr e=>(b.runs r e).2) he;simp;omega
def awv(v i:Nat)(a:i<8):k9 .shr (.int .u64 v) (.int .i64 (8*(i:Int)))=some (.int .u64 ((v/2^(8*i):Nat))):=by
 rw[Dz,adG (by omega)];have b:min (8*(i:Int)).toNat IntKind.u64.bits=8*i:=by
  have:IntKind.u64.bits=64:=rfl;omega
 grind
def aj3(b i:Nat)(f:b<256)(e:i<8):k9 .shl (.int .u64 b) (.int .i64 (8*(i:Int)))=some (.int .u64 ((b*2^(8*i):Nat)))/\b*2^(8*i)<18446744073709551616:=by
 have a:b*2^(8*i)<18446744073709551616:=by
  rcases(show i=0\/i=1\/i=2\/i=3\/i=4\/i=5\/i=6\/i=7 by omega)with q|q|q|q|q|q|q|q<;>subst q<;>simp<;>omega
 refine⟨?_,a⟩;rw[AU,adG (by omega)];have d:min (8*(i:Int)).toNat IntKind.u64.bits=8*i:=by
  have:IntKind.u64.bits=64:=rfl;omega
 rw[d];have c: ((2:Int)^(8*i))=((2^(8*i):Nat):Int):=by rfl
 rw[c,<-Int.natCast_mul,wrap_u64 (by omega) (by omega)]
def aj4(a b:Nat)(d:a<18446744073709551616)(c:b<18446744073709551616):dB .or (.int .u64 a) (.int .u64 b)=some (.int .u64 ((a|||b:Nat)))/\a|||b<18446744073709551616:=by
 have f:a|||b<2^64:=Nat.or_lt_two_pow d c;refine⟨?_,f⟩;rw[HE];have e: ∀n:Nat,n<18446744073709551616->(BitVec.ofInt IntKind.u64.bits (n:Int)).toNat=n:=by
  have:IntKind.u64.bits=64:=rfl
  grind
 rw[BitVec.toNat_or,e a d,e b c,wrap_u64 (by omega) (by omega)]
def aww(v i:Nat):IntKind.wrap .u8 ((v/2^(8*i):Nat):Int)=(byteOf v i:Nat):=ajf _
def ur(P:cz)(pl:lN)(v k:Nat):cz:=(List.range k).foldl (λP i=>ma P (pl.getD i 0) (byteOf v i)) P
def aj5(P:cz)(pl:lN)(v k:Nat):ur P pl v (k+1)=ma (ur P pl v k) (pl.getD k 0) (byteOf v k):=by
 unfold ur;rw[anC,amu];rfl
def qq(P:cz)(pl:lN)(v k:Nat):Nat:=(List.range k).foldl (λv i=>v|||s7 P (pl.getD i 0)*2^(8*i)) v
def aj6(P:cz)(pl:lN)(v k:Nat):qq P pl v (k+1)=qq P pl v k|||s7 P (pl.getD k 0)*2^(8*k):=by
 unfold qq;rw[anC,amu];rfl
theorem Ud{P:cz}(h:fy P)(pl:lN)(v:Nat): ∀k,fy (ur P pl v k)
 |0=>h
 |k+1=>by rw[aj5];exact(Ud h pl v k).write _ _ (anS _ (by omega))
def aj7{P:cz}(h:fy P)(i:Nat):s7 P i<256:=by
 unfold s7;split
 ·exact h.bytes _ _
 ·omega
theorem Ue{P:cz}(h:fy P)(pl:lN)(v:Nat)(a:v<18446744073709551616): ∀k,k<=8->qq P pl v k<18446744073709551616
 |0,_=>a
 |k+1,b=>by
  rw[aj6];exact(aj4 _ _ (Ue h pl v a k (by omega)) (aj3 _ _ (aj7 h _) (by omega)).2).2
def aj8{pv:AV}{pl:lN}(d:Rv pv 1 (pl.map iD))(v:pl.length<=8){f:Fn}{cs:lA}(m:AV)(F:Nat->List ae)(t: ∀k,(F k).length=(F 0).length)
  (p: ∀k,k<pl.length->D XC (.fn f [] cs) [.int .i64 (pl.getD k 0:Nat),.int .i64 k] ⟨F k,none⟩=some (.ret (.az []) ⟨F (k+1),none⟩)) (lo:oN):
  D XC (.fn (.func 157) [] []) [m,pv,.fn f [] cs] ⟨F 0,lo⟩=some (.ret (.az []) ⟨F pl.length,lo⟩):=by
 refine aH Qv λN r=>?_
 simp only[go_sem,simprocAttr,Qv,d.bY];refine eN pl.length (λk e H'=>H'=F k/\e 2= .fn f [] cs/\e 8=pv/\e 9= .int .i64 pl.length/\e 10= .int .i64 k) 0 (by omega) ?_ ?_
 ·simp only[go_sem,simprocAttr]
 rintro k w e H' ⟨rfl,s,l,j,b⟩ n u;simp only[cb,F1,go_sem,simprocAttr,aeN,l,j,b];refine⟨λo=>?_,λo=>?_⟩
 ·have a:k<pl.length:=by omega
  have i: ∀y,(iD y)[0]?=some (.int .i64 y):=λ_=>rfl
  have g:pl.getD k default=pl.getD k 0:=rfl;have h:=p k a;simp(disch:=omega) only[go_sem,simprocAttr,s,l,j,b,d.cD,d.di,i,g,h];exact⟨by omega,a⟩
 ·obtain rfl:k=pl.length:=by omega
  have q: (F pl.length).length=N:=by rw[t,r]
  have c: (F pl.length).take N=F pl.length:=adP (by omega);simp only[go_sem,simprocAttr,c]
def awx{s:Nat}{st:bB}{W:List ae}(f:dp m p q s st qv rv W)(k:fy st.x.P){n g:Nat}(t:W[n]?=some (.box [.ptr s 0] none))(r:W[g]?=some (.box (bn c) none))(at' i:Nat)(j:at'<65536)(h:i<8)(lo:oN):
  D XC (.fn (.func 158) [] [.ptr n 0,.ptr g 0]) [.int .i64 at',.int .i64 i] ⟨W,lo⟩=some (.ret (.az []) ⟨W.set q (.box (b9 (ma st.x.P at' (byteOf c.v i))) none),lo⟩):=by
 refine fJ Qw λN l=>?_
 have hw:=λlo=>c0 (av9 k f.co.ik lo (at':=at') (b:=byteOf c.v i) (by omega))
 have a: ∀o,(W.set q o).take N=W.set q o:=λo=>adP (by grind)
 have d:=awv c.v i h;have e:=aww c.v i;simp(disch:=omega) only[F1,go_sem,simprocAttr,Qw,l,t,r,f.box,f.co.box,PL,KL,gF,d,e,hw,a]
def awy{s:Nat}{st:bB}{W:List ae}(e:dp m p q s st qv rv W)(f:fy st.x.P){n a:Nat}(h:r.v<18446744073709551616)(w:W[n]?=some (.box [.ptr s 0] none))(u:W[a]?=some (.box (bE r) none))(at' i:Nat)(l:at'<65536)(j:i<8)(lo:oN):
  D XC (.fn (.func 160) [] [.ptr n 0,.ptr a 0]) [.int .i64 at',.int .i64 i] ⟨W,lo⟩=some (.ret (.az []) ⟨W.set a (.box (bE {r with v:=r.v|||s7 st.x.P at'*2^(8*i)}) none),lo⟩):=by
 refine fJ Qx λN t=>?_
 have hw:=λlo=>c0 (av8 f e.co.ik lo (at':=at') (by omega))
 have b: ∀o,(W.set a o).take N=W.set a o:=λo=>adP (by grind)
 have k:=aj7 f at';obtain⟨s1,s2⟩:=aj3 (s7 st.x.P at') i k j;obtain⟨g,x⟩:=aj4 r.v (s7 st.x.P at'*2^(8*i)) h s2;have d: (bE r)[1]?=some (.int .u64 r.v):=rfl;have c: ∀n:Nat,aO (bE r) 1 [.int .u64 n]=bE {r with v:=n}:=λ_=>rfl
 simp(disch:=omega) only[F1,go_sem,simprocAttr,Qx,t,w,u,e.box,e.co.box,PL,KL,hw,s1,g,d,c,b,uk]
def uu:PC->PC|.seq a _=>a|x=>x
def uv:PC->PC|.seq _ b=>b|x=>x
def fY(Q:Prop)(B:Nat)(lo:oN):Prop:=(lo=none/\Q)\/ ∃j,j<=B/\lo=some j
theorem fY.no{B:Nat}(h:Q):fY Q B none:=.inl ⟨rfl,h⟩
def fY.step{e d:Prop}{B:Nat}{m l:List ae}{a:oN}(h:fY e B b)(g:gH d B m l b a)(f:e->d->Q):fY Q B a:=by
 rcases h with⟨rfl,h⟩| ⟨j,i,rfl⟩
 ·rcases g with⟨rfl,_,g⟩| ⟨k,c,rfl⟩
  ·exact .inl ⟨rfl,f h g⟩
  ·exact .inr ⟨k,c,rfl⟩
 ·rcases g with⟨rfl,_,_⟩| ⟨k,c,rfl⟩
  ·exact .inr ⟨j,i,rfl⟩
  ·exact .inr ⟨min k j,by omega,rfl⟩
def gH.n{B:Nat}{H H':List ae}(h:gH Q B H H' none lo):fY Q B lo:=(fY.no trivial).step h λ_ q=>q
def eG.aj9{s N:Nat}{f st:bB}{g:AV}{H W:List ae}{c:oN}(e:dp m p q s f a g H)(l:H.length=N)(h:dp m p q s st qv rv W)(i:Fq m [p,q,s] H W)(o:fY (qv=a) p c)(n:v.refs<=N):
  eG m p q s H lo st a v (.ret (finish N lo v ⟨W,c⟩).1 (finish N lo v ⟨W,c⟩).2):=by
 have x:=e.lt;have w:=e.ps;have u:=e.co.mp;have t: ∃d b,finish N lo v ⟨W,c⟩=(v,⟨d,b⟩)/\Fq m [p,q,s] H d/\gH (qv=a) p H d lo b/\ (d=W\/ (d=W.take N/\qv=a)):=by
  rcases o with⟨rfl,k⟩| ⟨j,r,rfl⟩
  ·refine⟨W.take N,lo,jD (.inl rfl) n,i.take l (by omega),.inl ⟨rfl,?_,k⟩,.inr ⟨rfl,k⟩⟩;rw[afC];have:=i.len;omega
  ·exact⟨W,cJ lo j,vU (by omega),i,.inr ⟨j,r,rfl⟩,.inl rfl⟩
 obtain⟨d,b,f1,f2,f3,f4⟩:=t;rw[f1];exact⟨qv,rv,d,b,rfl,h.oJ f4 id e l,f2,f3⟩
def mR(n:Nat):PC:=match n with
 |0=>oi.body
 |n+1=>uv (mR n)
def ki(n:Nat):PC:=uu (mR n)
def Uf:PC:=mR 3
def Ug:PC:=mR 6
def Uh:PC:=mR 7
theorem awz:oi.body= .seq (ki 0) (.seq (ki 1) (.seq (ki 2) Uf)):=rfl
theorem awA:Uf= .seq (ki 3) (.seq (ki 4) (.seq (ki 5) Ug)):=rfl
theorem awB:Ug= .seq (ki 6) Uh:=rfl
theorem awC:Uh= .seq (ki 7) (.seq (ki 8) (.seq (ki 9) (mR 10))):=rfl
def fj(st:bB):bB:=if 0<st.c.run.2/\dO st.x.S st.c.aa st.c.c≠st.c.run.2 then{st with x:=b8 st.x st.c.run,c:={st.c with run:=(0,0)}}else st
structure CmS(m p q s N M:Nat)(H:List ae)(qv0 rv:AV)(st:bB)(c:cn)(nx:bm)(r:bt)(bv:AV)(e:Env)(W:List ae)(lo:oN):Prop where
 e1:e 1= .ptr N 0
 e3:e 3= .ptr (N+1) 0
 e6:e 6= .ptr M 0
 e7:e 7= .ptr (M+1) 0
 e8:e 8=bv
 st: ∃qv,dp m p q s st qv rv W/\fY (qv=qv0) p lo
 w0:W[N]?=some (.box [.ptr s 0] none)
 w1:W[N+1]?=some (.box (bn c) none)
 w6:W[M]?=some (.box (bz nx) none)
 w7:W[M+1]?=some (.box (bE r) none)
 fr:Fq m [p,q,s] H W
 sN:s<N
 NM:N+2<=M
theorem Cv: ∀ (l:List aD) (x:Core),(∀r∈l,r.2<=64)->(l.foldl b8 x).Q.length<=x.Q.length+64*l.length
 | [],_,_=>by simp
 |r::l,x,h=>by
  have:=Cv l (b8 x r) (λz a=>h z (by grind));have b: (b8 x r).Q.length=x.Q.length+r.2:=by simp[b8,fi]
  grind
theorem Ui: ∀ (l:List aD) (x:Core),(l.foldl b8 x).S=x.S/\ (l.foldl b8 x).P=x.P/\ (l.foldl b8 x).M=x.M
 | [],_=>⟨rfl,rfl,rfl⟩
 |r::l,x=>Ui l (b8 x r)
theorem Uj: ∀ (l:List aD) (x:Core),(∀r∈l,r.1<=64/\r.2<=64)->(∀k∈x.Q,k<2147483648)-> ∀k∈(l.foldl b8 x).Q,k<2147483648
 | [],_,_,h=>h
 |r::l,x,h,c=>Uj l (b8 x r) (λz b=>h z (by grind)) λk a=>by
  rcases aeg.1 a with a|a
  ·grind
  ·obtain⟨i,d,rfl⟩:=afq.1 a
   grind
def jH.akb(a:jH x)(b: ∀r∈l,r.1<=64/\r.2<=64)(g:x.Q.length+64*l.length<8589934592):jH (l.foldl b8 x):=by
 obtain⟨f,e,d⟩:=Ui l x;exact⟨f ▸ a.S,e ▸ a.P,d ▸ a.M,Uj l x b a.Q,by have:=Cv l x (λr c=>(b r c).2);omega⟩
def Uk{s N:Nat}{H:List ae}{g T:AV}{R st:bB}{nx:bm}{bv:AV}{back:List aD}{e:Env}{W:List ae}(h0:dp m p q s R g T H)(hN:H.length=N)
  (h:CmS m p q s N M H g rv st c nx r bv e W lo) (hb:Rv bv 2 (back.map aA)) (B:back.length<=4096/\ ∀r∈back,r.1<=64/\r.2<=64) (y:qo st) (Y:aW nx) (hQ:st.x.Q.length<4294967296) (F:oN):
  wp XC 144 false Uh ⟨e,[]⟩ ⟨W,lo⟩ (ee XC N F [.t 2] (eG m p q s H F (oB {st with x:=back.foldl b8 {st.x with S:=nx},c:={st.c with run:=(0,0)}} r) g (.bool true))):=by
 obtain⟨e1,e3,e6,e7,e8,⟨qv,d,f⟩,w0,w1,w6,w7,fr,sN,NM⟩:=h;have yu:=d.ps;have Ul:=d.co.qp;have hmp:=d.co.mp;have Q:=d.ai (d.co.ajD nx) (d.co.fp _);have O:=Q.set (qn:={st with x:={st.x with S:=nx},c:={st.c with run:=(0,0)}}) rfl d.aY;have hF:=(d.co.fp (.box (bK {st.x with S:=nx} q qv) none)).m3.trans (Q.fs (.box (dW {st with x:={st.x with S:=nx},c:={st.c with run:=(0,0)}} p rv) none));have hw: ∀i o,i≠p->i≠s->W[i]?=some o->((W.set p (.box (bK {st.x with S:=nx} q qv) none)).set s (.box (dW {st with x:={st.x with S:=nx},c:={st.c with run:=(0,0)}} p rv) none))[i]?=some o:=λi o hi hi2 ho=>by
  rw[acT (Ne.symm hi2),acT (Ne.symm hi)];exact ho
 have G: [AV.int .i64 0,.int .i64 0]=aA (0,0):=rfl;have J: ∀r:aD,(aA r).length=2:=λ_=>rfl
 have I: ∀r:aD,aL (aA r)=0:=λ_=>rfl
 have hNp: (N !=p)=true:=by simp;omega
 rw[awC];simp only[go_sem,simprocAttr,oi,ki,mR,uu,uv,e1,e6,e8,w0,w6,d.box,d.co.box,Q.box,PL,G,PS,KS,ou,hb.bY,eP,J,I,LU,hNp];generalize hW1: (W.set p (.box (bK {st.x with S:=nx} q qv) none)).set s (.box (dW {st with x:={st.x with S:=nx},c:={st.c with run:=(0,0)}} p rv) none)=W1 at*;refine ja back.length (λk e P j=> ∃w,e 1= .ptr N 0/\e 7= .ptr (M+1) 0/\e 128=bv/\e 129= .int .i64 back.length/\e 130= .int .i64 k/\dp m p q s {st with x:=(back.take k).foldl b8 {st.x with S:=nx},c:={st.c with run:=(0,0)}} w rv P/\fY (w=g) p j/\P[N]?=some (.box [.ptr s 0] none)/\P[M+1]?=some (.box (bE r) none)/\Fq m [p,q,s] H P) 0 (by omega) ?_ ?_
 ·refine⟨qv,?_⟩;simp only[go_sem,simprocAttr,e1,e7];exact⟨O,f,hw _ _ (by omega) (by omega) w0,hw _ _ (by omega) (by omega) w7,fr.trans hF⟩
 clear f Q O hF hw w0 w1 w6 w7 fr e1 e3 e6 e7 e8 d hW1;rintro k hk e P j ⟨w,e1,e7,v,u,t,d,f,w0,w7,fr⟩ n hn;have K:=λL=>bf (L:=L) w0
 have L7:=λL=>bf (L:=L) d.box
 simp only[cb,go_sem,simprocAttr,aeL,e1,v,u,t];refine⟨λhh=>?_,λhh=>?_⟩
 ·have l:k<back.length:=by omega
  generalize A:back.getD k default=D at*;have wo:=B.2 D (by rw[<-A];exact fO l);have V:=Cv (back.take k) {st.x with S:=nx} (λz hz=>(B.2 z (ag9 hz)).2);have yk: (back.take k).length<=k:=by simp;omega
  obtain⟨cr,g1,E,W3,U,rfl,g2,C,g4⟩:=T7 (d.co.app [.box (aA D) none]) D ⟨by omega,by omega⟩ (by
   have: ({st.x with S:=nx}:Core).Q=st.x.Q:=rfl;rw[this]at V;show((back.take k).foldl b8 {st.x with S:=nx}).Q.length<_;omega) j
  simp(disch:=omega) only[go_sem,simprocAttr,e1,e7,v,u,t,hb.cD,hb.di,A,hn,J,I,K,L7,PL,g1];have hs:=(d.app [.box (aA D) none]).ai g2 C;have Um:N∉[p,q]:=by simp;omega
  have Z:M+1∉[p,q]:=by simp;omega
  have e0: (back.take (k+1)).foldl b8 {st.x with S:=nx}=b8 ((back.take k).foldl b8 {st.x with S:=nx}) D:=by
   rw[<-A,agR,adM l,amu,afA,adM l];rfl
  rw[e0];refine⟨by omega,l,E,hs,f.step g4 (λa b=>b.trans a),C.own Um (K _),C.own Z (bf w7),?_⟩;exact fr.trans (C.m3.pre (by have:=d.lt;omega))
 ·obtain rfl:k=back.length:=by omega
  rw[aft]at d;have X:qo {st with x:=back.foldl b8 {st.x with S:=nx},c:={st.c with run:=(0,0)}}:=
   ⟨jH.akb (x:={st.x with S:=nx}) ⟨Y,y.x.P,y.x.M,y.x.Q,by show st.x.Q.length<_;omega⟩ B.2 (by show st.x.Q.length+_<_;omega),⟨y.c.aa,y.c.iV,y.c.aY,⟨by show 0<65536;omega,by show 0<65536;omega⟩,y.c.fF⟩⟩
  obtain⟨cr,g1,E,rv3,W3,U,rfl,g2,C,g4⟩:=Ub d X r j;simp only[go_sem,simprocAttr,e7,w0,w7,xN,uk,g1];exact eG.aj9 h0 hN g2 (fr.trans C) (f.step g4 λa b=>b.trans a) (aee _)
def dp.other{s:Nat}{st:bB}{W:List ae}(h:dp m p q s st qv rv W){cs:lA}(a:W[i]?=some (.box cs tg))(d:i≠p)(c:i≠q)(b:i≠s)(o:ae):dp m p q s st qv rv (W.set i o):=
 ⟨h.co.set a d c o,h.ps,(acT b).trans h.box,h.aY⟩
def Ad(P:cz)(c:cn)(pl:lN):cz:=if c.op=4 then ur P pl c.v pl.length else P
def Ae(P:cz)(c:cn)(pl:lN)(v:Nat):Nat:=if c.op=3 then qq P pl v pl.length else v
def awH{s N:Nat}{H:List ae}{j F:AV}{E st:bB}{nx:bm}{bv pv:AV}{back:List aD}{pl:lN}{e:Env}{W:List ae}(T:dp m p q s E j F H)(O:H.length=N)
  (h:CmS m p q s N M H j rv st c nx r bv e W lo) (Y:e 4=pv) (z:Rv pv 1 (pl.map iD)) (A:pl.length<=8/\ ∀k∈pl,k<65536) (G:c.op=3->r.v<18446744073709551616) (K:Rv bv 2 (back.map aA)) (t:back.length<=4096/\ ∀r∈back,r.1<=64/\r.2<=64) (d:qo st) (l:aW nx) (L:st.x.Q.length<4294967296) (b:oN):
  wp XC 144 false Ug ⟨e,[]⟩ ⟨W,lo⟩ (ee XC N b [.t 2] (eG m p q s H b (oB {st with x:=back.foldl b8 {st.x with S:=nx,P:=Ad st.x.P c pl},c:={st.c with run:=(0,0)}} {r with v:=Ae st.x.P c pl r.v}) j (.bool true))):=by
 have h':=h;obtain⟨e1,e3,e6,e7,e8,⟨qv,a,n⟩,w0,w1,w6,w7,fr,sN,NM⟩:=h;have yu:=a.ps;have Z:=a.co.qp;have hmp:=a.co.mp;have B: ∀k,k<pl.length->pl.getD k 0<65536:=λk D=>by simp_all
 rw[awB];by_cases X:c.op=4
 ·have w: (c.op:Int)=4:=by omega
  have u:W.set q (.box (b9 (ur st.x.P pl c.v 0)) none)=W:=qb a.co.ik;have g:=λlo=>aj8 z A.1 (f:=.func 158) (cs:=[.ptr N 0,.ptr (N+1) 0]) (.ptr s 0) (λk=>W.set q (.box (b9 (ur st.x.P pl c.v k)) none)) (λk=>by simp) (λk D=>by
   have Q:=a.ai (a.co.Ga (ur st.x.P pl c.v k)) (a.co.fq _);rw[awx Q (Ud d.x.P pl c.v k) ((acT (by omega)).trans w0) ((acT (by omega)).trans w1) _ k (B k D) (by omega)];show some (aV.ret _ ⟨_,_⟩)=_;rw[akQ,aj5]) lo
  simp only[u]at g;simp only[go_sem,simprocAttr,oi,ki,mR,uu,uv,e1,e3,Y,w0,w1,gF,w,g];have U:Ad st.x.P c pl=ur st.x.P pl c.v pl.length:=adG X;have C:Ae st.x.P c pl r.v=r.v:=adE (by omega);rw[U,C];refine Uk (rv:=rv) (M:=M) (c:=c) (nx:=nx) (r:=r) (bv:=bv) (back:=back) (st:={st with x:={st.x with P:=ur st.x.P pl c.v pl.length}}) T O ?_ K t ⟨⟨d.x.S,Ud d.x.P pl c.v _,d.x.M,d.x.Q,d.x.Ql⟩,d.c⟩ l L b;exact⟨e1,e3,e6,e7,e8,⟨qv,a.ai (a.co.Ga _) (a.co.fq _),n⟩,(acT (by omega)).trans w0,(acT (by omega)).trans w1,(acT (by omega)).trans w6,(acT (by omega)).trans w7,fr.trans (a.co.fq _).m3,sN,NM⟩
 ·have w: ¬(c.op:Int)=4:=by omega
  have U:Ad st.x.P c pl=st.x.P:=adE X;rw[U];by_cases R:c.op=3
  ·have y: (c.op:Int)=3:=by omega
   have u:W.set (M+1) (.box (bE {r with v:=qq st.x.P pl r.v 0}) none)=W:=qb w7;have g:=λlo=>aj8 z A.1 (f:=.func 160) (cs:=[.ptr N 0,.ptr (M+1) 0]) (.ptr s 0) (λk=>W.set (M+1) (.box (bE {r with v:=qq st.x.P pl r.v k}) none)) (λk=>by simp) (λk D=>by
    have Q:=a.other w7 (by omega) (by omega) (by omega) (.box (bE {r with v:=qq st.x.P pl r.v k}) none);rw[awy Q d.x.P (r:={r with v:=qq st.x.P pl r.v k}) (Ue d.x.P pl r.v (G R) k (by omega)) ((acT (by omega)).trans w0) (de w7) _ k (B k D) (by omega)];show some (aV.ret _ ⟨_,_⟩)=_;rw[akQ,aj6]) lo
   simp only[u]at g;simp only[go_sem,simprocAttr,oi,ki,mR,uu,uv,e1,e3,Y,e7,w0,w1,gF,y,g];have C:Ae st.x.P c pl r.v=qq st.x.P pl r.v pl.length:=adG R;rw[C];have J:Fq m [p,q,s] H (W.set (M+1) (.box (bE {r with v:=qq st.x.P pl r.v pl.length}) none)):=⟨by rw[afw];exact fr.len,λi I=>by rw[acT (by omega)];exact fr.low i I,λi o I ho V=>by
    have:=eg V;rw[acT (by omega)];exact fr.box i o I ho V⟩
   refine Uk (rv:=rv) (M:=M) (c:=c) (nx:=nx) (bv:=bv) (back:=back) (r:={r with v:=qq st.x.P pl r.v pl.length}) T O ?_ K t d l L b;exact⟨e1,e3,e6,e7,e8,⟨qv,a.other w7 (by omega) (by omega) (by omega) _,n⟩,(acT (by omega)).trans w0,(acT (by omega)).trans w1,(acT (by omega)).trans w6,de w7,J,sN,NM⟩
  ·have y: ¬(c.op:Int)=3:=by omega
   have C:Ae st.x.P c pl r.v=r.v:=adE R;rw[C];simp only[go_sem,simprocAttr,oi,ki,mR,uu,uv,e3,w1,gF,w,y];refine Uk (rv:=rv) (M:=M) (c:=c) (nx:=nx) (bv:=bv) (back:=back) (r:=r) T O ?_ K t d l L b;exact⟨e1,e3,e6,e7,e8,⟨qv,a,n⟩,w0,w1,w6,w7,fr,sN,NM⟩
structure rT(d:bm×bt×List aD)(c:cn):Prop where
 S:aW d.1
 len:d.2.2.length<=4096
 runs: ∀r∈d.2.2,r.1<=64/\r.2<=64
 v:c.op=3->d.2.1.v<18446744073709551616
 w:d.2.1.w<4294967296
 e:d.2.1.e<4294967296
def L8(st:bB):bB:=
 let d:=dg st.x.S st.c.aa st.c.c st.c.run
 if d.2.1.e≠0 then oB st d.2.1
 else oB {st with x:=d.2.2.foldl b8 {st.x with S:=d.1,P:=Ad st.x.P st.c.c (iR st.x.S st.c.c).1},c:={st.c with run:=(0,0)}} {d.2.1 with v:=Ae st.x.P st.c.c (iR st.x.S st.c.c).1 d.2.1.v}
theorem akd(s:bB):oC s=L8 (fj s):=by rfl
def Un{s N:Nat}{H:List ae}{h z:AV}{y st:bB}{e:Env}{W:List ae}(Y: ∀op,qm op)(F:dp m p q s y h z H)(E:H.length=N)
  (I:e 1= .ptr N 0) (G:e 3= .ptr (N+1) 0) (f:dp m p q s st qv rv W) (k:fY (qv=h) p lo) (x:W[N]?=some (.box [.ptr s 0] none)) (t:W[N+1]?=some (.box (bn st.c.c) none)) (J:Fq m [p,q,s] H W)
  (g:qo st) (v:rT (dg st.x.S st.c.aa st.c.c st.c.run) st.c.c) (X:st.x.Q.length<4294967296) (i:oN):
  wp XC 144 false Uf ⟨e,[]⟩ ⟨W,lo⟩ (ee XC N i [.t 2] (eG m p q s H i (L8 st) h (.bool true))):=by
 have T:=f.ps;have S:=f.co.qp;have U:=f.co.mp;have sN:s<N:=by rw[<-E];exact F.lt
 have R:=g.c.run;obtain⟨pv,u,P⟩:=avy st.x.S g.x.S st.c.c g.c.iV W lo;have u:=cB u;obtain⟨bv,d1,d2⟩:=TS st.x.S g.x.S st.c.aa g.c.aa st.c.c g.c.iV st.c.run ⟨by omega,by omega⟩ (Y _) (W++[.box m2 none,.box [.int .i64 0,.int .u64 0,.int .u32 0] none]) lo;have d1:=cB d1;have C:=aj2 g.x.S st.c.c;unfold L8;dsimp only;generalize V:dg st.x.S st.c.aa st.c.c st.c.run=d at*;obtain⟨M,w⟩: ∃M,W.length=M:=⟨_,rfl⟩;have D:N+2<=M:=by have:=eg t;omega
 have B:=λL=>bf (L:=L) x
 have o:=λL=>bf (L:=L) f.box
 have A:=λL=>bf (L:=L) t
 have n:=λL=>bf (L:=L) f.co.box
 have l: (bE d.2.1)[0]?=some (.int .i64 d.2.1.e):=rfl;rw[awA];by_cases he:d.2.1.e=0
 ·have j: ((d.2.1.e:Nat):Int)=0:=by omega
  rw[adE (λq=>q he)];simp only[go_sem,simprocAttr,oi,ki,mR,uu,uv,I,G,x,t,w,f.box,f.co.box,B,A,o,n,PL,↓PL,KL,↓KL,DZ,u,d1,l,j,ou,rR];refine awH (rv:=rv) (M:=M) (c:=st.c.c) (nx:=d.1) (r:=d.2.1) (bv:=bv) (pv:=pv) (pl:=(iR st.x.S st.c.c).1) (back:=d.2.2) F E ?_ rfl P C v.v d2 ⟨v.len,v.runs⟩ g v.S X i;exact⟨I,G,rfl,rfl,rfl,⟨qv,f.app _,k⟩,B _,A _,by rw[dI w];rfl,by rw[bF w];rfl,J.trans (Fq.app _ (by omega)),sN,D⟩
 ·have j: ¬((d.2.1.e:Nat):Int)=0:=by omega
  rw[adG he];obtain⟨cr,g1,O,K,W2,Q,rfl,g2,g3,Z⟩:=Ub (f.app [.box (bz d.1) none,.box (bE d.2.1) none]) g d.2.1 lo;simp only[go_sem,simprocAttr,oi,ki,mR,uu,uv,I,G,x,t,w,f.box,f.co.box,B,A,o,n,PL,↓PL,KL,↓KL,DZ,u,d1,l,j,ou,rR,g1];exact eG.aj9 F E g2 (J.trans (g3.pre (by omega))) (k.step Z λa b=>b.trans a) (aee _)
theorem Uo:aL (bn c)=0:=rfl
def awI{s:Nat}{H:List ae}{st:bB}(t: ∀op,qm op)(a:dp m p q s st qv rv H)(b:qo st)(h:rT (dg (fj st).x.S (fj st).c.aa (fj st).c.c (fj st).c.run) st.c.c)(V:st.x.Q.length<2147483648)(lo:oN):
  ∃C,D XC (.fn (.func 144) [] []) [.ptr s 0] ⟨H,lo⟩=some C/\eG m p q s H lo (oC st) qv (.bool true) C:=by
 have ho:Old s H (.box (dW st p rv) none):=⟨a.box⟩;refine cN oi λN d=>?_
 have sN:s<N:=by rw[<-d];exact a.lt
 have R:=a.ps;have P:=a.co.qp;have S:=a.co.mp;rw[akd,awz];have O:=b.c.run;have G:=λH lo=>cB (TT st.x.S b.x.S st.c.aa b.c.aa st.c.c b.c.iV (t _) H lo)
 have F: (H++[.box [.ptr s 0] none,.box (bn st.c.c) none])[N]?=some (.box [.ptr s 0] none):=by rw[dI d];rfl
 have E: (H++[.box [.ptr s 0] none,.box (bn st.c.c) none])[N+1]?=some (.box (bn st.c.c) none):=by rw[bF d];rfl
 have f:=λL=>bf (L:=L) a.box
 have n:=λL=>bf (L:=L) a.co.box
 by_cases J:0<st.c.run.2
 ·have e: ((st.c.run.2:Nat):Int)>0:=by omega
  by_cases I:dO st.x.S st.c.aa st.c.c=st.c.run.2
  ·have g:decide (((dO st.x.S st.c.aa st.c.c:Nat):Int)=st.c.run.2)=true:=aec (by omega);have o:fj st=st:=adE (λq=>q.2 I);rw[o]at h⊢;simp only[go_sem,simprocAttr,oi,ki,mR,uu,uv,d,f,n,PL,↓PL,KL,↓KL,F3,LV,Uo,F7,e,G,g];exact Un t a d rfl rfl (a.app _) (fY.no rfl) F E (Fq.app _ (by omega)) b h (by omega) lo
  ·have g:decide (((dO st.x.S st.c.aa st.c.c:Nat):Int)=st.c.run.2)=false:=adO (by omega);have o:fj st={st with x:=b8 st.x st.c.run,c:={st.c with run:=(0,0)}}:=adG ⟨J,I⟩;rw[o]at h⊢;obtain⟨C,g1,K,W,M,rfl,g2,u,U⟩:=T7 (a.co.app [.box [.ptr s 0] none,.box (bn st.c.c) none]) st.c.run ⟨by omega,by omega⟩ (by omega) none;have v:=(a.app [.box [.ptr s 0] none,.box (bn st.c.c) none]).ai g2 u;have B:N∉[p,q]:=by simp;omega
   have A:N+1∉[p,q]:=by simp;omega
   have v0:=u.own B F;have v1:=u.own A E;have j: [AV.int .i64 0,.int .i64 0]=aA (0,0):=rfl;have y: ∀r:aD,(aA r).length=2:=λ_=>rfl
   have w: ∀r:aD,aL (aA r)=0:=λ_=>rfl
   simp only[go_sem,simprocAttr,oi,ki,mR,uu,uv,d,f,n,PL,↓PL,KL,↓KL,F3,LV,Uo,F7,e,G,g,g1,v0,v.box,j,y,w,PS];have Q: (b8 st.x st.c.run).Q.length=st.x.Q.length+st.c.run.2:=by simp[b8,fi]
   have z:qo {st with x:=b8 st.x st.c.run,c:={st.c with run:=(0,0)}}:=⟨⟨b.x.S,b.x.P,b.x.M,λk l=>by
    rcases aeg.1 l with l|l
    ·exact b.x.Q k l
    ·obtain⟨i,T,rfl⟩:=afq.1 l;have:=aiF.1 T;show st.c.run.1+i<_;omega,by show(b8 st.x st.c.run).Q.length<_;omega⟩,⟨b.c.aa,b.c.iV,b.c.aY,⟨by show 0<65536;omega,by show 0<65536;omega⟩,b.c.fF⟩⟩
   refine Un (st:={st with x:=b8 st.x st.c.run,c:={st.c with run:=(0,0)}}) t a d ?_ ?_ (v.set rfl a.aY) U.n ?_ ?_ ?_ z h (by show(b8 st.x st.c.run).Q.length<_;omega) lo
   ·exact rfl
   ·exact rfl
   ·exact(acT (by omega)).trans v0
   ·exact(acT (by omega)).trans v1
   ·exact((Fq.app _ (by omega)).trans u.m3).trans (v.fs _)
 ·have e: ¬((st.c.run.2:Nat):Int)>0:=by omega
  have o:fj st=st:=adE (λq=>J q.1);rw[o]at h⊢;simp only[go_sem,simprocAttr,oi,ki,mR,uu,uv,d,f,PL,↓PL,F3,Uo,F7,e];exact Un t a d rfl rfl (a.app _) (fY.no rfl) F E (Fq.app _ (by omega)) b h (by omega) lo
def eH:Nat->bB->bB×Bool
 |0=>ic|1=>ie|2=>iA|3=>jl|_=>λs=>(oC s,true)
def ake:Nat->FuncId
 |0=>140|1=>141|2=>142|3=>143|_=>144
def akf{s:bB}(h: (ic s).2=false): (ic s).1=s:=by
 unfold ic at*;grind
def akg{s:bB}(h: (ie s).2=false): (ie s).1=s:=by
 unfold ie at*;grind
def akh{s:bB}(h: (iA s).2=false): (iA s).1=s:=by
 unfold iA at*;grind
def aki{s:bB}(h: (jl s).2=false): (jl s).1=s:=by
 unfold jl at*;grind
def awJ{s:bB}(h: (eH k s).2=false): (eH k s).1=s:=by
 rcases(show k=0\/k=1\/k=2\/k=3\/4<=k by omega)with q|q|q|q|q
 ·subst q;exact akf h
 ·subst q;exact akg h
 ·subst q;exact akh h
 ·subst q;exact aki h
 ·obtain⟨j,rfl⟩: ∃j,k=j+4:=⟨k-4,by omega⟩;cases h
def mS(s:bB)(k:Nat):bB:=if(eH k s).2 then(eH k s).1 else match k with
 |0=>if(eH 1 s).2 then(eH 1 s).1 else if(eH 2 s).2 then(eH 2 s).1 else if(eH 3 s).2 then(eH 3 s).1 else(eH 4 s).1
 |1=>if(eH 2 s).2 then(eH 2 s).1 else if(eH 3 s).2 then(eH 3 s).1 else(eH 4 s).1
 |2=>if(eH 3 s).2 then(eH 3 s).1 else(eH 4 s).1
 |_=>(eH 4 s).1
def Cw{s:bB}(h: (eH k s).2=true):mS s k=(eH k s).1:=by unfold mS;grind
def Gc{s:bB}(b:k<4)(h: (eH k s).2=false):mS s k=mS s (k+1):=by
 have a: ¬(eH k s).2=true:=by grind
 rcases(show k=0\/k=1\/k=2\/k=3 by omega)with q|q|q|q<;>subst q
 ·exact(adE a: (if(eH 0 s).2=true then(eH 0 s).1 else mS s 1)=mS s 1)
 ·exact(adE a: (if(eH 1 s).2=true then(eH 1 s).1 else mS s 2)=mS s 2)
 ·exact(adE a: (if(eH 2 s).2=true then(eH 2 s).1 else mS s 3)=mS s 3)
 ·exact(adE a: (if(eH 3 s).2=true then(eH 3 s).1 else mS s 4)=mS s 4)
def awK(x:Core)(c:Call):fw x c=mS ⟨x,c,bD,false⟩ 0:=by
 unfold fw;dsimp only;generalize(⟨x,c,bD,false⟩:bB)=s;cases e: (ic s).2 with
 |true=>rw[adG rfl,Cw (k:=0) e];rfl
 |false=>
  rw[adE (by simp),akf e,Gc (k:=0) (by omega) e];cases d: (ie s).2 with
  |true=>rw[adG rfl,Cw (k:=1) d];rfl
  |false=>
   rw[adE (by simp),akg d,Gc (k:=1) (by omega) d];cases b: (iA s).2 with
   |true=>rw[adG rfl,Cw (k:=2) b];rfl
   |false=>
    rw[adE (by simp),akh b,Gc (k:=2) (by omega) b];cases a: (jl s).2 with
    |true=>rw[adG rfl,Cw (k:=3) a];rfl
    |false=>rw[adE (by simp),aki a,Gc (k:=3) (by omega) a,Cw (k:=4) rfl];rfl
def awL{s:Nat}{H:List ae}{st:bB}(c: ∀op,qm op)(b:dp m p q s st qv rv H)(a:qo st)(e:rT (dg (fj st).x.S (fj st).c.aa (fj st).c.c (fj st).c.run) st.c.c)(f:st.x.Q.length<2147483648)(k:Nat)(lo:oN):
  ∃d,D XC (.fn (.func (ake k)) [] []) [.ptr s 0] ⟨H,lo⟩=some d/\eG m p q s H lo (eH k st).1 qv (.bool (eH k st).2) d:=by
 rcases(show k=0\/k=1\/k=2\/k=3\/4<=k by omega)with h|h|h|h|h
 ·subst h;exact awr c b a lo
 ·subst h;exact aws b a lo
 ·subst h;exact awt c b a lo
 ·subst h;exact awu b a lo
 ·obtain⟨j,rfl⟩: ∃j,k=j+4:=⟨k-4,by omega⟩;exact awI c b a e f lo
def awM{X:Ctx}{f:FuncId}{fs args:lA}{E:AS}{r:aV}(h:D X (.fn (.func f) [] []) (fs++args) E=some r):D X (.fn (.func f) fs []) args E=some r:=by
 obtain⟨n,a⟩:=yI h;cases n with
 |zero=>cases a
 |succ n=>exact NS (n:=n+1) _ _ _ _ a
def L9(m p q:Nat)(H:List ae)(lo:oN)(st:bB)(qv:AV)(b:aV):Prop:=
 ∃a rS H' ak,b= .ret (.az [.agg (bL st.c rS),.agg (bE st.r),.bool st.ended]) ⟨H',ak⟩/\dQ m p q st.x a H'/\Rv rS 1 (st.c.aY.map hC)/\Fq m [p,q] H H'/\gH (a=qv) p H H' lo ak
def vX:lA:=[.int .i64 0,.int .u8 0,.int .u32 0,.int .u32 0,.int .u32 0,.int .u32 0,.int .u64 0,.bool false,.av,.int .i64 0,.int .i64 0,.int .i64 0]
def nH:lA:=[.int .i64 0,.int .u64 0,.int .u32 0]
def Fq.cut{S T:lN}{H B W:List ae}(h:Fq m S (H++B) W)(d: ∀i∈S,i∈T\/H.length<=i)(c:m<=H.length):Fq m T H W:=⟨by have:=h.len;grind,λi a=>by rw[h.low i a,List.getElem?_append_left (by omega)],λi o a ho b=>by
 exact h.box i o (λq=>by grind) ho (bf b)⟩
def Fq.out{T:lN}{H W:List ae}(h:Fq m T H W)(e:H.length<=i)(c:m<=H.length)(o:ae):Fq m T H (W.set i o):=⟨by rw[afw];exact h.len,λj a=>by rw[acT (by omega)];exact h.low j a,λj o a ho b=>by
 have d:=eg b;rw[acT (by omega)];exact h.box j o a ho b⟩
def L9.fin{N:Nat}{H W:List ae}{i:Core}{st:bB}(e:dQ m p q i a H)(g:H.length=N)(h:dQ m p q st.x qv W)(c:Rv rv 1 (st.c.aY.map hC))(d:Fq m [p,q] H W)(l:fY (qv=a) p b):
  L9 m p q H lo st a (.ret (finish N lo (.az [.agg (bL st.c rv),.agg (bE st.r),.bool st.ended]) ⟨W,b⟩).1 (finish N lo (.az [.agg (bL st.c rv),.agg (bE st.r),.bool st.ended]) ⟨W,b⟩).2):=by
 have s:=e.lt;have r:=e.mp;have k: (AV.az [.agg (bL st.c rv),.agg (bE st.r),.bool st.ended]).refs<=N:=by
  have:=Ua st.c (dj c (bH (λ_=>rfl) _));have o:= @rR st.r;simp[AV.refs,aL,this,o]
 rcases l with⟨rfl,f⟩| ⟨j,n,rfl⟩
 ·rw[jD (.inl rfl) k];refine⟨qv,rv,_,lo,rfl,h.oJ (Q:=qv=a) (.inr ⟨rfl,f⟩) id e g,c,d.take g (by omega),.inl ⟨rfl,?_,f⟩⟩;rw[afC];have:=d.len;omega
 ·rw[vU (by omega)];exact⟨qv,rv,W,cJ lo j,rfl,h,c,d,.inr ⟨j,n,rfl⟩⟩
def awN{H:List ae}{c:Call}(hD: ∀op,qm op)(J:dQ m p q x qv H)(hx:jH x)(hc:fS c)(hr:Rv rv 1 (c.aY.map hC))
  (F:rT (dg (fj ⟨x,c,bD,false⟩).x.S (fj ⟨x,c,bD,false⟩).c.aa (fj ⟨x,c,bD,false⟩).c.c (fj ⟨x,c,bD,false⟩).c.run) c.c) (hQ:x.Q.length<2147483648) (lo:oN):
  ∃Y,D XC (.fn (.func 123) [] []) [.ptr p 0,.agg (bL c rv)] ⟨H,lo⟩=some Y/\L9 m p q H lo (fw x c) qv Y:=by
 refine cN Qc λN l=>?_
 have oI:p<N:=by rw[<-l];exact J.lt
 have Ul:=J.qp;have hmp:=J.mp;obtain⟨st,d⟩: ∃st:bB,st=⟨x,c,bD,false⟩:=⟨_,rfl⟩;have G: ∀ (c:Call) rv,List.take 12 (bL c rv)=bL c rv:=λ_ _=>rfl
 have v: ∀rv,AV.ptr p 0:: (bL c rv++[.int .i64 0,.int .u64 0,.int .u32 0,.bool false])=dW st p rv:=λrv=>by rw[d];rfl
 have hrz:=dj hr (bH (λ_=>rfl) _);obtain⟨B,hB⟩: ∃B:List ae,B=[.box (bL c rv) none,.box vX none,.box nH none,.box (dW st p rv) none]:=⟨_,rfl⟩;have hB4: (H++B).length=N+4:=by rw[hB];simp[l]
 have w:dp m p q (N+3) st qv rv (H++B):=by
  rw[d];exact⟨J.app B,by omega,by rw[hB,bF l,d];rfl,hr⟩
 have U:qo st:=by rw[d];exact⟨hx,hc⟩
 rw[awK,<-d];rw[<-d]at F;have F:rT (dg (fj st).x.S (fj st).c.aa (fj st).c.c (fj st).c.run) st.c.c:=by rw[d]at F⊢;exact F
 have I: ∀ (c:Call) rv,(bL c rv).length=12:=λ_ _=>rfl
 have agS:min 12 12=12:=rfl;have C: ∀k,k<5->qB false 5 1 (.agg [.fn (.func 140) [.ptr (N+3) 0] [],.fn (.func 141) [.ptr (N+3) 0] [],.fn (.func 142) [.ptr (N+3) 0] [],.fn (.func 143) [.ptr (N+3) 0] [],.fn (.func 144) [.ptr (N+3) 0] []]) (.int .i64 (k:Nat))=some (.fn (.func (ake k)) [.ptr (N+3) 0] []):=by
  intro k hk;rcases(show k=0\/k=1\/k=2\/k=3\/k=4 by omega)with h|h|h|h|h<;>subst h<;>rfl
 generalize X:AV.agg [.fn (.func 140) [.ptr (N+3) 0] [],.fn (.func 141) [.ptr (N+3) 0] [],.fn (.func 142) [.ptr (N+3) 0] [],.fn (.func 143) [.ptr (N+3) 0] [],.fn (.func 144) [.ptr (N+3) 0] []]=Z at C;simp only[go_sem,simprocAttr,Qc,l,I,G,v,X];refine ja 5 (λk e W j=> ∃g s,e 4= .ptr (N+1) 0/\e 5= .ptr (N+2) 0/\e 7= .ptr (N+3) 0/\e 24=Z/\e 25= .int .i64 k/\k<=4/\dp m p q (N+3) st g s W/\fY (g=qv) p j/\Fq m [p,q,N+3] (H++B) W/\mS st 0=mS st k) 0 (by omega) ?_ ?_
 ·refine⟨qv,rv,?_⟩;simp only[go_sem,simprocAttr];rw[hB]at w⊢;exact⟨w,fY.no trivial,Fq.refl⟩
 rintro k hk e W j ⟨g,s,e4,e5,e7,L,K,hk4,hs,y,hf,A⟩ n hn;have E:=C k (by omega);obtain⟨Y,g1,Q,P,M,Lb,rfl,g2,g3,g4⟩:=awL hD hs U F (by rw[d];exact hQ) k j;have g1:=awM (fs:=[.ptr (N+3) 0]) (args:=[]) g1;simp only[cb,go_sem,simprocAttr,aeF,e7,L,K];refine⟨λ_=>?_,λhh=>absurd (show((k:Nat):Int)<5 by omega) hh⟩;have f:=hf.trans g3;cases r: (eH k st).2 with
 |true=>
  rw[r]at g1;have v1:M[N+1]?=some (.box vX none):=f.own (by simp;omega) (by rw[hB,bF l];rfl);have v2:M[N+2]?=some (.box nH none):=f.own (by simp;omega) (by rw[hB,bF l];rfl);have O: ∀o,(M.set (N+1) o)[N+2]?=some (.box nH none):=λo=>(acT (by omega)).trans v2
  have s1:=λo=>de (o:=o) v1
  have s2:=λo o'=>de (o:=o') (O o)
  have s3: ∀o o':ae,((M.set (N+1) o).set (N+2) o')[N+1]?=some o:=λo o'=>(acT (by omega)).trans (s1 o)
  have S:vX.length=12:=rfl;have R:nH.length=3:=rfl;have u:List.drop 12 vX=[]:=rfl;have t:List.drop 3 nH=[]:=rfl;have V:=Ua (eH k st).1.c g2.rz;simp only[go_sem,simprocAttr,E,e4,e5,e7,g1,g2.box,v1,O,s2,s3,PL,↓PL,S,R,u,t,I,G,xN,uk,rR,V,zX];refine⟨by simp,by simp,?_⟩;rw[A,Cw r];have hq3:q<N:=by omega
  refine L9.fin J l ((g2.co.set v1 (by omega) (by omega) _).set (O _) (by omega) (by omega) _) g2.aY ?_ (y.step g4 λa b=>b.trans a);exact((f.cut (T:=[p,q]) (by intro i hi;simp at hi⊢;omega) (by omega)).out (by omega) (by omega) _).out (by omega) (by omega) _
 |false=>
  rw[r]at g1;have he:=awJ r;rw[he]at g2;have z:k<4:=by
   rcases(show k<4\/k=4 by omega)with q|q
   ·exact q
   ·subst q;cases r
  simp(disch:=omega) only[go_sem,simprocAttr,E,e4,e5,e7,L,K,g1]
  try refine⟨by omega,?_⟩
  exact⟨Q,P,by omega,g2,y.step g4 (λa b=>b.trans a),f,by rw[A,Gc z r]⟩
def dm(x:ed):lA:=[.int .u8 x.op,.int .u8 x.a,.int .u8 x.b,.int .u8 x.c,.int .u16 x.n]
def dn(t:Task)(cv:AV):lA:=[cv,.int .i64 t.next]++arr 8 λi=>[.int .u64 (t.aY i)]
structure Gd(x:ed):Prop where
 op:x.op<39
 a:x.a<8
 b:x.b<8
 c:x.c<8
 n:x.n<65536
 j:x.op=5\/x.op=6->x.n<=64
structure lO(t:Task):Prop where
 len:t.code.length<=64
 ins: ∀x∈t.code,Gd x
 next:t.next<=64
 aY: ∀i,t.aY i<18446744073709551616
section
variable{t:Task}{cv:AV}
theorem xR: (dn t cv).length=10:=rfl
def Ge(h:cv.refs=0):aL (dn t cv)=0:=by
 unfold dn;rw[Fp,KH (λ_=>rfl)];simp[aL,AV.refs,h]
theorem akj: (dn t cv)[0]?=some cv:=rfl
theorem akk: (dn t cv)[1]?=some (.int .i64 t.next):=rfl
theorem akl: (dn t cv)[7]?=some (.int .u64 (t.aY 5)):=rfl
theorem akm: (dn t cv)[8]?=some (.int .u64 (t.aY 6)):=rfl
theorem akn:List.take 10 (dn t cv)=dn t cv:=rfl
def Up(h:i<8): (dn t cv)[2+i]?=some (.int .u64 (t.aY i)):=by
 rcases(show i=0\/i=1\/i=2\/i=3\/i=4\/i=5\/i=6\/i=7 by omega)with q|q|q|q|q|q|q|q<;>subst q<;>rfl
theorem ako{n:Nat}:aO (dn t cv) 1 [.int .i64 n]=dn {t with next:=n} cv:=rfl
def Gf{v:Nat}(h:i<8):aO (dn t cv) (2+i) [.int .u64 v]=dn {t with aY:=ao t.aY i v} cv:=by
 rcases(show i=0\/i=1\/i=2\/i=3\/i=4\/i=5\/i=6\/i=7 by omega)with q|q|q|q|q|q|q|q<;>subst q<;>rfl
def TK:=gG @akj<|gG @akk<|gG @akl<|gG @akm<|gG @akn<|gG @ako @xR
end
theorem akp(x:ed): (dm x).length=5:=rfl
theorem akq(x:ed):aL (dm x)=0:=rfl
theorem akr(x:ed): (dm x)[0]?=some (.int .u8 x.op):=rfl
theorem aks(x:ed): (dm x)[1]?=some (.int .u8 x.a):=rfl
theorem akt(x:ed): (dm x)[2]?=some (.int .u8 x.b):=rfl
theorem aku(x:ed): (dm x)[3]?=some (.int .u8 x.c):=rfl
theorem akv(x:ed): (dm x)[4]?=some (.int .u16 x.n):=rfl
theorem akw(x:ed):List.take 5 (dm x)=dm x:=rfl
theorem akx(x:ed):List.drop 5 (dm x)=[]:=rfl
def IL:type_of% @akp/\type_of% @akq/\type_of% @akr/\type_of% @aks/\type_of% @akt/\type_of% @aku/\type_of% @akv/\type_of% @akw/\type_of% @akx:=⟨akp,akq,akr,aks,akt,aku,akv,akw,akx⟩
def Cx:ed:=⟨0,0,0,0,0⟩
def Gg(t:Task):AV:=.az [.agg (dm ((rH t).getD Cx)),.bool (rH t).isSome]
section
variable{t:Task}{cv:AV}(hv:Rv cv 5 (t.code.map dm))(jW:lO t)(H:List ae)(lo:oN)
include hv jW
theorem Uq:D X0 (.fn (.func 121) [] []) [.agg (dn t cv)] ⟨H,lo⟩=some (.ret (Gg t) ⟨H,lo⟩):=by
 refine aH JU λN d=>?_
 have h:=jW.next;have i:=jW.len;have f: ¬((t.next:Nat):Int)<0:=by omega
 have a:=λE=>hv.bY (E:=E)
 have c: [AV.int .u8 0,.int .u8 0,.int .u8 0,.int .u8 0,.int .u16 0]=dm Cx:=rfl;unfold Gg rH;by_cases j:t.next<t.code.length
 ·have b: ¬((t.next:Nat):Int)>=t.code.length:=by omega
  have e:t.code[t.next]?=some (t.code.getD t.next default):=by grind
  rw[e];have g: (0:Int)<=t.next/\ (t.next:Int)<t.code.length:=by omega
  simp(disch:=omega) only[F1,go_sem,simprocAttr,JU,d,TK,f,a,b,hv.cD,hv.di,g,IL,o5]
 ·have b: ((t.next:Nat):Int)>=t.code.length:=by omega
  have e:t.code[t.next]?=none:=akW (by omega);rw[e];simp only[F1,go_sem,simprocAttr,JU,d,TK,f,a,b,c,IL,o5]
omit hv jW in
theorem Af(i:Nat)(a:i<8):D X0 (.fn (.func 122) [] []) [.agg (dn t cv),.int .u8 i] ⟨H,lo⟩=some (.ret (.int .u64 (t.aY i)) ⟨H,lo⟩):=by
 refine aH Qb λN c=>?_
 have hm: ((i:Nat):Int).tmod 8=i:=by rw[Int.tmod_eq_emod_of_nonneg (by omega)];omega
 have b: (0:Int)<=i/\ (i:Int)<8:=by omega
 simp(disch:=omega) only[F1,go_sem,simprocAttr,Qb,c,hm,b,Up a]
omit hv in
theorem Gi{x:ed}(a:rH t=some x):Gd x:=by
 unfold rH at a;exact jW.ins x (alp a)
theorem Ur:D X0 (.fn (.func 94) [] []) [.agg (dn t cv)] ⟨H,lo⟩=some (.ret (.az [.agg (bn (jn t).1),.bool (jn t).2]) ⟨H,lo⟩):=by
 refine aH BK λN f=>?_
 have b:=λH lo=>Uq hv jW H lo
 have m: [AV.int .u8 0,.int .u32 0,.int .u32 0,.int .u32 0,.int .u32 0,.int .u64 0]=bn jm:=rfl;have l: [AV.int .u8 20,.int .u32 0,.int .u32 0,.int .u32 0,.int .u32 0,.int .u64 0]=bn {jm with op:=20}:=rfl;have a: [AV.int .u8 0,.int .u8 0,.int .u8 0,.int .u8 0,.int .u16 0]=dm Cx:=rfl;have v: ∀c,List.take 6 (bn c)=bn c:=λ_=>rfl
 have w: ∀c,List.drop 6 (bn c)=[]:=λ_=>rfl
 unfold Gg at b;unfold jn;cases h:rH t with
 |none=>
  rw[h]at b;simp only[axv,awG]at b;simp only[F1,go_sem,simprocAttr,BK,f,TK,b,IL,a,o5];rfl
 |some x=>
  rw[h]at b;simp only[akc,awF]at b;have ho:=Gi jW h;have p:=ho.op;have s:=jW.aY;by_cases j:x.op=0
  ·have d: (x.op:Int)=0:=by omega
   simp only[adG j];simp only[F1,go_sem,simprocAttr,BK,f,TK,b,IL,a,d,o5];rfl
  ·have d:decide ((x.op:Int)=0)=false:=adO (by omega);by_cases k:x.op<=16
   ·have e: (x.op:Int)<=16:=by omega
    simp only[adE j,adG k];simp only[F1,go_sem,simprocAttr,BK,f,TK,b,IL,a,d,e,o5];rfl
   ·have e: ¬(x.op:Int)<=16:=by omega
    have r:x.b % 8=x.b:=al2 ho.b;have q:x.c % 8=x.c:=al2 ho.c;have o: (x.op:Int)-16=((x.op-16:Nat):Int):=by omega
    have g: ∀n:Nat,IntKind.wrap .u32 (n:Int)=((n % 4294967296:Nat):Int):=λn=>by
     unfold IntKind.wrap IntKind.bits IntKind.signed;simp
    have u:=ho.n;have i:x.n % 4294967296=x.n:=al2 (by omega);have rb:=λH lo=>Af (t:=t) (cv:=cv) H lo x.b ho.b
    have rc:=λH lo=>Af (t:=t) (cv:=cv) H lo x.c ho.c
    simp only[adE j,adE k,r,q];simp(disch:=omega) only[F1,go_sem,simprocAttr,BK,f,TK,b,IL,a,d,e,o5,rb,rc,o,g,i];rfl
end
theorem wrap64(n:Nat):IntKind.wrap .u64 (n:Int)=((n % mb:Nat):Int):=by rfl
theorem aky(n:Nat): ((n:Nat):Int).tmod 8=((n % 8:Nat):Int):=by rfl
section
variable{t:Task}{cv:AV}(hv:Rv cv 5 (t.code.map dm))(jW:lO t)
include hv jW
theorem awP(r:bt)(z:r.w<4294967296/\r.e<4294967296)(H:List ae)(lo:oN):
  D X0 (.fn (.func 145) [] []) [.agg (dn t cv),.agg (bE r)] ⟨H,lo⟩=some (.ret (.agg (dn (s8 t r) cv)) ⟨H,lo⟩):=by
 refine aH EW λN i=>?_
 have b:=λH lo=>Uq hv jW H lo
 have hw:=λH lo=>Ur hv jW H lo
 have e: [AV.int .u8 0,.int .u8 0,.int .u8 0,.int .u8 0,.int .u16 0]=dm Cx:=rfl;have d: [AV.int .u8 0,.int .u32 0,.int .u32 0,.int .u32 0,.int .u32 0,.int .u64 0]=bn jm:=rfl;have k: ∀c,(bn c).length=6:=λ_=>rfl
 have l: ∀c,List.drop 6 (bn c)=[]:=λ_=>rfl
 have j: ∀c,aL (bn c)=0:=λ_=>rfl
 have f:=λt:Task=>Ge (t:=t) (dj hv (bH (λ_=>rfl) _))
 have w:=jW.next;have u: (bE r)[0]?=some (.int .i64 r.e):=rfl;have s: (bE r)[1]?=some (.int .u64 r.v):=rfl;have q: (bE r)[2]?=some (.int .u32 r.w):=rfl;unfold Gg at b;unfold s8;cases hx:rH t with
 |none=>
  rw[hx]at b;simp only[axv,awG]at b;simp only[F1,go_sem,simprocAttr,EW,i,TK,b,hw,IL,e,d,k,l,j,f]
 |some x=>
  rw[hx]at b;simp only[akc,awF]at b;have ho:=Gi jW hx;cases g: (jn t).2 with
  |false=>
   rw[g]at hw;simp only[F1,go_sem,simprocAttr,EW,i,TK,b,hw,IL,e,d,k,l,j,f]
  |true=>
   rw[g]at hw;have h:x.a % 8<8:=by omega
   have y: (0:Int)<=(x.a % 8:Nat)/\ ((x.a % 8:Nat):Int)<8:=by omega
   have m:=λ (t:Task) (v:Nat)=>Gf (t:=t) (cv:=cv) (v:=v) h
   have p: ∀ (t:Task) (v:Nat),aO (dn t cv) 6 [.int .u64 v]=dn {t with aY:=ao t.aY 4 v} cv:=λ_ _=>rfl
   have o: ∀ (t:Task) (v:Nat),aO (dn t cv) 9 [.int .u64 v]=dn {t with aY:=ao t.aY 7 v} cv:=λ_ _=>rfl
   have s1: ∀ (t:Task) (n:Nat),aO (dn t cv) 1 [.int .i64 ((n:Int)+1)]=dn {t with next:=n+1} cv:=λ_ _=>rfl
   simp only[afK];simp(disch:=omega) only[F1,go_sem,simprocAttr,EW,i,TK,b,hw,IL,e,d,k,l,j,f,aky,y,m,p,o,s1,u,s,q];omega
end
section
variable{t:Task}{cv:AV}{x:ed}{n u5 u7 u8 a:Nat}{H:List ae}(hv:Rv cv 5 (t.code.map dm))(jW:lO t)(hx:Gd x)(ha:a<8)(hn:H[n]?=some (.box (dn t cv) none))(h5:H[u5]?=some (.box (dm x) none))(h7:H[u7]?=some (.box [.ptr n (2+a)] none))(h8:H[u8]?=some (.box [.int .i64 ((t.next:Int)+1)] none))(lo:oN)
abbrev Ma(t:Task)(a v:Nat):Task:={t with aY:=ao t.aY a v}
include ha hn h5 h7 hx in
theorem awQ:D X0 (.fn (.func 126) [] [.ptr u5 0,.ptr u7 0]) [] ⟨H,lo⟩=some (.ret (.az []) ⟨H.set n (.box (dn (Ma t a x.n) cv) none),lo⟩):=by
 refine fJ Qe λN c=>?_
 have b: ∀o,(H.set n o).take N=H.set n o:=λo=>adP (by simp[c])
 have e:=hx.n;have f:2+a<=9:=by omega
 have d:=λ (v:Nat)=>Gf (t:=t) (cv:=cv) (v:=v) ha
 simp(disch:=omega) only[F1,go_sem,simprocAttr,Qe,c,hn,h5,h7,IL,d,b,xR,f]
include ha hn h5 h7 hx in
theorem awR:D X0 (.fn (.func 127) [] [.ptr n 0,.ptr u5 0,.ptr u7 0]) [] ⟨H,lo⟩=some (.ret (.az []) ⟨H.set n (.box (dn (Ma t a ((t.aY x.b+t.aY x.c) % mb)) cv) none),lo⟩):=by
 refine fJ Qf λN c=>?_
 have b: ∀o,(H.set n o).take N=H.set n o:=λo=>adP (by simp[c])
 have e:2+a<=9:=by omega
 have d:=λ (v:Nat)=>Gf (t:=t) (cv:=cv) (v:=v) ha
 have rb:=λH lo=>Af (t:=t) (cv:=cv) H lo x.b hx.b
 have rc:=λH lo=>Af (t:=t) (cv:=cv) H lo x.c hx.c
 have hw:IntKind.wrap .u64 ((t.aY x.b:Int)+t.aY x.c)=(((t.aY x.b+t.aY x.c) % mb:Nat):Int):=wrap64 (t.aY x.b+t.aY x.c);simp(disch:=omega) only[F1,go_sem,simprocAttr,Qf,c,hn,h5,h7,IL,TK,rb,rc,hw,d,b,e]
include jW ha hn h5 h7 hx in
theorem awS:D X0 (.fn (.func 128) [] [.ptr n 0,.ptr u5 0,.ptr u7 0]) [] ⟨H,lo⟩=some (.ret (.az []) ⟨H.set n (.box (dn (Ma t a ((t.aY x.b+mb-t.aY x.c) % mb)) cv) none),lo⟩):=by
 refine fJ Qg λN c=>?_
 have b: ∀o,(H.set n o).take N=H.set n o:=λo=>adP (by simp[c])
 have e:2+a<=9:=by omega
 have d:=λ (v:Nat)=>Gf (t:=t) (cv:=cv) (v:=v) ha
 have rb:=λH lo=>Af (t:=t) (cv:=cv) H lo x.b hx.b
 have rc:=λH lo=>Af (t:=t) (cv:=cv) H lo x.c hx.c
 have g:=jW.aY x.b;have f:=jW.aY x.c;have hw:IntKind.wrap .u64 ((t.aY x.b:Int)-t.aY x.c)=(((t.aY x.b+mb-t.aY x.c) % mb:Nat):Int):=by
  unfold IntKind.wrap IntKind.bits IntKind.signed mb;simp;omega
 simp(disch:=omega) only[F1,go_sem,simprocAttr,Qg,c,hn,h5,h7,IL,TK,rb,rc,hw,d,b,e]
include ha hn h5 h7 hx in
theorem awT:D X0 (.fn (.func 129) [] [.ptr n 0,.ptr u5 0,.ptr u7 0]) [] ⟨H,lo⟩=some (.ret (.az []) ⟨H.set n (.box (dn (Ma t a (t.aY x.b*2^x.n % mb)) cv) none),lo⟩):=by
 refine fJ Qh λN d=>?_
 have b: ∀o,(H.set n o).take N=H.set n o:=λo=>adP (by simp[d])
 have f:2+a<=9:=by omega
 have e:=λ (v:Nat)=>Gf (t:=t) (cv:=cv) (v:=v) ha
 have rb:=λH lo=>Af (t:=t) (cv:=cv) H lo x.b hx.b
 have c:k9 .shl (.int .u64 (t.aY x.b)) (.int .u16 x.n)=some (.int .u64 ((t.aY x.b*2^x.n % mb:Nat))):=by
  rw[AU,adG (by omega)];have i: ∀k:Nat,((2:Int)^k)=((2^k:Nat):Int):=λk=>by rw[Int.natCast_pow];rfl
  rw[i,<-Int.natCast_mul,wrap64];have l:IntKind.u64.bits=64:=rfl;by_cases h:x.n<=64
  ·rw[show min ((x.n:Nat):Int).toNat IntKind.u64.bits=x.n by omega]
  ·rw[show min ((x.n:Nat):Int).toNat IntKind.u64.bits=64 by omega];have e1:t.aY x.b*2^64 % mb=0:=Nat.mul_mod_left _ _;have j:t.aY x.b*2^x.n % mb=0:=by
    obtain⟨k,g⟩:=Nat.exists_eq_add_of_le (show 64<=x.n by omega);rw[g,Nat.pow_add,<-Nat.mul_assoc,Nat.mul_right_comm];exact Nat.mul_mod_left _ _
   rw[e1,j]
 simp(disch:=omega) only[F1,go_sem,simprocAttr,Qh,d,hn,h5,h7,IL,TK,rb,c,e,b,f]
include h5 h8 hx in
theorem awU:D X0 (.fn (.func 130) [] [.ptr u5 0,.ptr u8 0]) [] ⟨H,lo⟩=some (.ret (.az []) ⟨H.set u8 (.box [.int .i64 x.n] none),lo⟩):=by
 refine fJ Qi λN c=>?_
 have b: ∀o,(H.set u8 o).take N=H.set u8 o:=λo=>adP (by simp[c])
 have d:=hx.n;simp(disch:=omega) only[F1,go_sem,simprocAttr,Qi,c,h5,h8,IL,b]
include ha hn h5 h7 h8 hx in
theorem awV:D X0 (.fn (.func 131) [] [.ptr u7 0,.ptr u5 0,.ptr u8 0]) [] ⟨H,lo⟩=some (.ret (.az []) ⟨H.set u8 (.box [.int .i64 ((if t.aY a≠0 then x.n else t.next+1:Nat))] none),lo⟩):=by
 refine fJ JV λN c=>?_
 have b: ∀o,(H.set u8 o).take N=H.set u8 o:=λo=>adP (by simp[c])
 have f:=hx.n;have g:2+a<=9:=by omega
 by_cases h:t.aY a=0
 ·have d: ((t.aY a:Nat):Int)=0:=by omega
  rw[adE (by omega)];have e:H.set u8 (.box [.int .i64 ((t.next+1:Nat):Int)] none)=H:=qb h8;rw[e];simp(disch:=omega) only[F1,go_sem,simprocAttr,JV,c,hn,h5,h7,h8,IL,Up ha,d,b]
 ·have d: ¬((t.aY a:Nat):Int)=0:=by omega
  rw[adG (by omega)];simp(disch:=omega) only[F1,go_sem,simprocAttr,JV,c,hn,h5,h7,h8,IL,Up ha,d,b]
end
def Us(N:Nat):List (AV×AV):=[(.int .u8 1,.fn (.func 126) [] [.ptr (N+3) 0,.ptr (N+4) 0]),(.int .u8 2,.fn (.func 127) [] [.ptr N 0,.ptr (N+3) 0,.ptr (N+4) 0]),(.int .u8 3,.fn (.func 128) [] [.ptr N 0,.ptr (N+3) 0,.ptr (N+4) 0]),(.int .u8 4,.fn (.func 129) [] [.ptr N 0,.ptr (N+3) 0,.ptr (N+4) 0]),(.int .u8 5,.fn (.func 130) [] [.ptr (N+3) 0,.ptr (N+5) 0]),(.int .u8 6,.fn (.func 131) [] [.ptr (N+4) 0,.ptr (N+3) 0,.ptr (N+5) 0])]
def oK(N k:Nat):List (AV×AV):=(Us N).take k
theorem awW(N:Nat):ae.map []= .map (oK N 0):=rfl
def Cy{N:Nat}{H:List ae}(a:H.length=N)(B:List ae)(b:B.length=6){key:Int}(d:v.refs<=N+7)(h:lS (.int .u8 key) v (oK N k)=some (oK N (k+1)))(lo:oN):
  ml ⟨H++(B++[.map (oK N k)]),lo⟩ .int (.mp (N+6)) (.int .u8 key) v=some ⟨H++(B++[.map (oK N (k+1))]),lo⟩:=by
 simp only[ml,kY,afK];have e: (H++(B++[ae.map (oK N k)]))[N+6]?=some (.map (oK N k)):=by grind
 simp only[e,h];have c: (H++(B++[ae.map (oK N k)])).set (N+6) (.map (oK N (k+1)))=H++(B++[.map (oK N (k+1))]):=by
  rw[apP _ _ (by omega),apP _ _ (by omega)];simp[a,b]
 simp only[AS.set,c]
 grind
def oL(N a:Nat):Option AV:=match a with
 |1=>some (.fn (.func 126) [] [.ptr (N+3) 0,.ptr (N+4) 0])
 |2=>some (.fn (.func 127) [] [.ptr N 0,.ptr (N+3) 0,.ptr (N+4) 0])
 |3=>some (.fn (.func 128) [] [.ptr N 0,.ptr (N+3) 0,.ptr (N+4) 0])
 |4=>some (.fn (.func 129) [] [.ptr N 0,.ptr (N+3) 0,.ptr (N+4) 0])
 |5=>some (.fn (.func 130) [] [.ptr (N+3) 0,.ptr (N+5) 0])
 |6=>some (.fn (.func 131) [] [.ptr (N+4) 0,.ptr (N+3) 0,.ptr (N+5) 0])
 |_=>none
def awX(N a:Nat):eB (.int .u8 a) (oK N 6)=some (oL N a):=by
 by_cases h:a<=6
 ·rcases(show a=0\/a=1\/a=2\/a=3\/a=4\/a=5\/a=6 by omega)with q|q|q|q|q|q|q<;>subst q<;>rfl
 ·have e:oL N a=none:=by unfold oL;grind
  rw[e];have b: ∀k:Int,k<=6->(((a:Nat):Int)==k)=false:=λk c=>by grind
  show eB (.int .u8 a) (Us N)=some none;unfold Us;simp only[eB,oR,afK,b 1 (by omega),b 2 (by omega),b 3 (by omega),b 4 (by omega),b 5 (by omega),b 6 (by omega)]
def awY{t:Task}{cv:AV}(X:Rv cv 5 (t.code.map dm))(g:lO t)(H:List ae)(lo:oN):
  D X0 (.fn (.func 96) [] []) [.agg (dn t cv)] ⟨H,lo⟩=some (.ret (.agg (dn (pX t) cv)) ⟨H,lo⟩):=by
 refine aH JO λN d=>?_
 have L:=λH lo=>Uq X g H lo
 have hw:=λH lo=>Ur X g H lo
 have U: [AV.int .u8 0,.int .u8 0,.int .u8 0,.int .u8 0,.int .u16 0]=dm Cx:=rfl;have G: [AV.int .u8 0,.int .u32 0,.int .u32 0,.int .u32 0,.int .u32 0,.int .u64 0]=bn jm:=rfl;have cl: ∀c,(bn c).length=6:=λ_=>rfl
 have cd: ∀c,List.drop 6 (bn c)=[]:=λ_=>rfl
 have cr: ∀c,aL (bn c)=0:=λ_=>rfl
 have a:=λt:Task=>Ge (t:=t) (dj X (bH (λ_=>rfl) _))
 have hnx:=g.next;unfold pX;cases s: (jn t).2 with
 |true=>
  rw[s]at hw;rw[adG rfl];simp only[F1,go_sem,simprocAttr,JO,d,TK,hw,G,cl,cd,cr,a]
 |false=>
  rw[s]at hw;rw[adE (by simp)];cases V:rH t with
  |none=>
   have: (jn t).2=true:=by unfold jn;rw[V]
   rw[s]at this;cases this
  |some x=>
   unfold Gg at L;rw[V]at L;simp only[akc,awF]at L;have ho:=Gi g V;have i:x.a % 8<8:=by omega
   have hb: (0:Int)<=(x.a % 8:Nat)/\ ((x.a % 8:Nat):Int)<8:=by omega
   obtain⟨B,hB⟩: ∃B:List ae,B=[.box (dn t cv) none,.box [.av,.int .i64 0,.int .u64 0,.int .u64 0,.int .u64 0,.int .u64 0,.int .u64 0,.int .u64 0,.int .u64 0,.int .u64 0] none,.box (bn (jn t).1) none,.box (dm x) none,.box [.ptr N (2+x.a % 8)] none,.box [.int .i64 ((t.next:Int)+1)] none]:=⟨_,rfl⟩;have hm:=awW N;have l4:N<=N+4:=by omega
   have S:=Cy (k:=0) (key:=1) (v:=.fn (.func 126) [] [.ptr (N+3) 0,.ptr (N+4) 0]) d B (by rw[hB];rfl) (by simp[AV.refs,aL]) rfl;have R:=Cy (k:=1) (key:=2) (v:=.fn (.func 127) [] [.ptr N 0,.ptr (N+3) 0,.ptr (N+4) 0]) d B (by rw[hB];rfl) (by simp[AV.refs,aL]) rfl;have Q:=Cy (k:=2) (key:=3) (v:=.fn (.func 128) [] [.ptr N 0,.ptr (N+3) 0,.ptr (N+4) 0]) d B (by rw[hB];rfl) (by simp[AV.refs,aL]) rfl;have P:=Cy (k:=3) (key:=4) (v:=.fn (.func 129) [] [.ptr N 0,.ptr (N+3) 0,.ptr (N+4) 0]) d B (by rw[hB];rfl) (by simp[AV.refs,aL]) rfl;have O:=Cy (k:=4) (key:=5) (v:=.fn (.func 130) [] [.ptr (N+3) 0,.ptr (N+5) 0]) d B (by rw[hB];rfl) (by simp[AV.refs,aL]) rfl;have M:=Cy (k:=5) (key:=6) (v:=.fn (.func 131) [] [.ptr (N+4) 0,.ptr (N+3) 0,.ptr (N+5) 0]) d B (by rw[hB];rfl) (by simp[AV.refs,aL]) rfl;rw[hB]at S R Q P O M;simp only[aii,ag8]at S R Q P O M;simp(disch:=omega) only[go_sem,simprocAttr,JO,d,TK,hw,L,IL,U,G,cl,cd,cr,aky,hb,hm,l4,S,R,Q,P,O,M];have Y: ∀E:AS,E.heap[N+6]?=some (.map (oK N 6))->jJ X0.gl E .int .dA (.mp (N+6)) (.int .u8 x.op) true=some (match oL N x.op with|some v=>.az [v,.bool true]|none=>.az [.dA,.bool false]):=by
    intro E h;simp only[jJ,kY,afK,mapOf,h,awX];cases oL N x.op<;>rfl
   rw[Y _ (by rw[bF d];rfl)];obtain⟨W,u⟩: ∃W,W=H++[.box (dn t cv) none,.box [.av,.int .i64 0,.int .u64 0,.int .u64 0,.int .u64 0,.int .u64 0,.int .u64 0,.int .u64 0,.int .u64 0,.int .u64 0] none,.box (bn (jn t).1) none,.box (dm x) none,.box [.ptr N (2+x.a % 8)] none,.box [.int .i64 ((t.next:Int)+1)] none,.map (oK N 6)]:=⟨_,rfl⟩;have w0:W[N]?=some (.box (dn t cv) none):=by rw[u,dI d];rfl
   have w1:W[N+1]?=some (.box [.av,.int .i64 0,.int .u64 0,.int .u64 0,.int .u64 0,.int .u64 0,.int .u64 0,.int .u64 0,.int .u64 0,.int .u64 0] none):=by rw[u,bF d];rfl
   have y:W[N+3]?=some (.box (dm x) none):=by rw[u,bF d];rfl
   have C:W[N+4]?=some (.box [.ptr N (2+x.a % 8)] none):=by rw[u,bF d];rfl
   have A:W[N+5]?=some (.box [.int .i64 ((t.next:Int)+1)] none):=by rw[u,bF d];rfl
   have wt:W.take N=H:=by rw[u,mw d]
   rw[<-u];have I:=λo=>de (o:=o) w0
   have f: ∀o,(W.set N o)[N+1]?=_:=λo=>(acT (by omega)).trans w1
   have m: ∀o,(W.set N o)[N+5]?=_:=λo=>(acT (by omega)).trans A
   have g5:=λo=>de (o:=o) A
   have w: ∀o,(W.set (N+5) o)[N]?=_:=λo=>(acT (by omega)).trans w0
   have Z: ∀o,(W.set (N+5) o)[N+1]?=_:=λo=>(acT (by omega)).trans w1
   have q:=λo o'=>de (o:=o') (w o)
   have l: ∀o o',((W.set (N+5) o).set N o')[N+1]?=_:=λo o'=>(acT (by omega)).trans (Z o)
   have b:=λo o'=>de (o:=o') (f o)
   have j:=λo o' J=>de (o:=J) (l o o')
   have t0: ∀o o',((W.set N o).set (N+1) o').take N=H:=λo o'=>by rw[apZ (by omega),apZ (by omega),wt]
   have t5: ∀o o' J,(((W.set (N+5) o).set N o').set (N+1) J).take N=H:=λo o' J=>by rw[apZ (by omega),apZ (by omega),apZ (by omega),wt]
   have s1: ∀ (t:Task) (n:Nat),aO (dn t cv) 1 [.int .i64 ((n:Int)+1)]=dn {t with next:=n+1} cv:=λ_ _=>rfl
   have t10: ∀t:Task,List.take 10 (dn t cv)=dn t cv:=λ_=>rfl
   have c1:=λlo=>awQ ho i w0 y C lo
   have c2:=λlo=>awR ho i w0 y C lo
   have c3:=λlo=>awS g ho i w0 y C lo
   have c4:=λlo=>awT ho i w0 y C lo
   have c5:=λlo=>awU ho y A lo
   have c6:=λlo=>awV ho i w0 y C A lo
   have eb:x.b % 8=x.b:=al2 ho.b;have ec:x.c % 8=x.c:=al2 ho.c;rw[eb,ec];by_cases p:x.op=1
   ·rw[adG p,p];simp only[oL];simp only[F1,go_sem,simprocAttr,c1,I,f,m,b,t0,akQ,TK,s1,t10,a]
   ·by_cases r:x.op=2
    ·rw[adE p,adG r,r];simp only[oL];simp only[F1,go_sem,simprocAttr,c2,I,f,m,b,t0,akQ,TK,s1,t10,a]
    ·by_cases z:x.op=3
     ·rw[adE p,adE r,adG z,z];simp only[oL];simp only[F1,go_sem,simprocAttr,c3,I,f,m,b,t0,akQ,TK,s1,t10,a]
     ·by_cases F:x.op=4
      ·rw[adE p,adE r,adE z,adG F,F];simp only[oL];simp only[F1,go_sem,simprocAttr,c4,I,f,m,b,t0,akQ,TK,s1,t10,a]
      ·by_cases K:x.op=5
       ·rw[adE p,adE r,adE z,adE F,adG K,K];simp only[oL];simp only[F1,go_sem,simprocAttr,c5,g5,w,q,l,j,t5,TK,t10,a]
       ·by_cases T:x.op=6
        ·rw[adE p,adE r,adE z,adE F,adE K,adG T,T];simp only[oL];simp only[F1,go_sem,simprocAttr,c6,g5,w,q,l,j,t5,TK,t10,a]
        ·rw[adE p,adE r,adE z,adE F,adE K,adE T];have e:oL N x.op=none:=by unfold oL;split<;>first|omega|rfl
         rw[e];simp only[F1,go_sem,simprocAttr,w0,A,I,f,b,t0,TK,s1,t10,a]
instance:Inhabited ed:=⟨Cx⟩
def awZ(v fv:AV)(l:List ed)(H:List ae)(c:Rd ⟨H,none⟩ v 5 (l.map dm))(s:l.length<2147483648)(p:ed->Bool)(lo:oN)
  (q: ∀x∈l,D X0 fv [.agg (dm x)] ⟨H,none⟩=some (.ret (.bool (p x)) ⟨H,none⟩)):D X0 (.fn (.func 163) [] []) [v,fv] ⟨H,lo⟩=some (.ret (.int .i64 (ke p l)) ⟨H,lo⟩):=by
 refine aH Qz λN w=>?_
 simp only[go_sem,simprocAttr,Qz,c.bY];refine eN l.length (λk e H'=>H'=H/\e 0=v/\e 1=fv/\e 7= .int .i64 l.length/\e 8= .int .i64 k/\ ∀j,j<k->p (l.getD j default)=false) 0 (by omega) ?_ ?_
 ·simp only[go_sem,simprocAttr];omega
 ·rintro k t e H' ⟨rfl,o,m,i,g,d⟩ n r;simp(disch:=omega) only[cb,F1,go_sem,simprocAttr,aeO,o,m,i,g];refine⟨λh=>?_,λh=>?_⟩
  ·have a:k<l.length:=by omega
   have b: ∀x,Den.part true 5 (dm x) 0=some (.agg (dm x)):=λ_=>rfl
   simp(disch:=omega) only[go_sem,simprocAttr,c.cD,c.di,↓b,q _ (fO a)];refine⟨by omega,?_⟩;cases f:p (l.getD k default)
   ·simp(disch:=omega) only[go_sem,simprocAttr,o,m,i,g];exact⟨a,p7 d f⟩
   ·simp(disch:=omega) only[F1,go_sem,simprocAttr];rw[zO a d f]
  ·rw[zP (λj u=>d j (by omega))]
def aw0(v fv:AV)(l:List ed)(H:List ae)(a:Rd ⟨H,none⟩ v 5 (l.map dm))(b:l.length<2147483648)(p:ed->Bool)(lo:oN)
  (c: ∀x∈l,D X0 fv [.agg (dm x)] ⟨H,none⟩=some (.ret (.bool (p x)) ⟨H,none⟩)):D X0 (.fn (.func 148) [] []) [v,fv] ⟨H,lo⟩=some (.ret (.bool (l.any p)) ⟨H,lo⟩):=by
 refine aH Qq λN d=>?_
 simp(disch:=omega) only[F1,go_sem,simprocAttr,Qq,awZ v fv l H a b p none c,zN]
def aw1(x:ed)(n:Nat)(f:x.op<256/\x.a<256/\x.b<256/\x.c<256/\x.n<65536)(k:n<2147483648)(H:List ae)(lo:oN):
  D X0 (.fn (.func 150) [] []) [.agg (dm x),.int .i64 n] ⟨H,lo⟩=some (.ret (.bool (rF x n)) ⟨H,lo⟩):=by
 refine aH Qs λN g=>?_
 obtain⟨q,p,o,m,l⟩:=f;simp only[go_sem,simprocAttr,Qs,g,IL];refine wz 5 (.bool (decide (16<x.op)&&decide (x.op<=38))) [1,2] rfl rfl ?_ λr=>?_
 ·simp(disch:=omega) only[R4,go_sem,simprocAttr,IL]
  (repeat' (first|apply And.intro|intro _))
  all_goals(refine ag3 AV.bool (al4.2 ?_);simp[];try(intros;omega))
 simp(disch:=omega) only[go_sem,simprocAttr,IL];refine wz 6 (.bool (decide (x.op=5)||decide (x.op=6))) [1,2,5] rfl rfl ?_ λe1=>?_
 ·simp(disch:=omega) only[R4,go_sem,simprocAttr,IL]
  (repeat' (first|apply And.intro|intro _))
  all_goals(refine ag3 AV.bool (al4.2 ?_);simp[];try(intros;omega))
 have a:gL qA [.int .u8 (x.a:Nat),.int .u8 (x.b:Nat),.int .u8 (x.c:Nat)]=some (.int .u8 ((max (max x.a x.b) x.c:Nat))):=by
  have e:gL qA [.int .u8 (x.a:Nat),.int .u8 (x.b:Nat),.int .u8 (x.c:Nat)]=some (.int .u8 (if(x.c:Int)>(if(x.b:Int)>x.a then(x.b:Int)else x.a)then(x.c:Int)else(if(x.b:Int)>x.a then(x.b:Int)else x.a))):=by simp[gL,qA]
  rw[e];congr 2;split<;>split<;>omega
 have b:decide (((max (max x.a x.b) x.c:Nat):Int)<8)=decide (x.a<8/\x.b<8/\x.c<8):=afB.2 (by omega);have d:decide ((x.op:Int)<=6)=decide (x.op<=6):=afB.2 (by omega);have c:decide ((x.n:Int)<n)=decide (x.n<n):=afB.2 (by omega);unfold rF;generalize decide (x.op<=6)=j at*;generalize decide (x.a<8/\x.b<8/\x.c<8)=i at*;generalize decide (x.n<n)=h at*;generalize(decide (16<x.op)&&decide (x.op<=38))=A at*;generalize(decide (x.op=5)||decide (x.op=6))=J at*;cases j<;>cases A<;>cases i<;>cases J<;>cases h<;>simp(disch:=omega) only[F1,go_sem,simprocAttr,IL,d,a,b,c,Bool.or_false,awD,aqb,Bool.or_true,avY,azJ]
def aw2(v:AV)(l:List ed)(p:l.length<2147483648)(q: ∀x∈l,x.op<256/\x.a<256/\x.b<256/\x.c<256/\x.n<65536)(N:Nat)(H:List ae)(f:Rd ⟨H,none⟩ v 5 (l.map dm))(lo:oN)(r:v.refs<=H.length)(t:v.cp=false/\v.cells=[v]):
  D X0 (.fn (.func 134) [] []) [v] ⟨H,lo⟩=some (.ret (.bool (pW l)) ⟨H,lo⟩):=by
 refine aH JW λN m=>?_
 have b: ∀lo,nU ⟨H,lo⟩ v none=some (.ptr N 0,⟨H++[.box [v] none],lo⟩):=λlo=>by
  have s:=f.kind;subst m;cases v<;>simp only[]at s<;>rfl
 have g:=f.bY;have a:Rd ⟨H++[.box [v] none],none⟩ v 5 (l.map dm):=f.ext;have j:=aw0 v (.fn (.func 149) [] [.ptr N 0]) l (H++[.box [v] none]) a p (λx=>!rF x l.length) none (λx h=>by
  refine fJ Qr λM n=>?_
  have k: ∀L,(H++(.box [v] none::L))[N]?=some (.box [v] none):=λL=>by rw[dI m];rfl
  have i: ∀L,gv ⟨H++(.box [v] none::L),none⟩ .sl v=some (.int .i64 l.length):=λL=>Rd.bY (f.ext (L:=.box [v] none::L))
  have hm:=λH lo=>aw1 x l.length (q x h) p H lo
  have c: ∀x,Den.part true 5 (dm x) 0=some (.agg (dm x)):=λ_=>rfl
  obtain rfl:M=N+1:=by rw[<-n];simp[m]
  simp(disch:=omega) only[F1,go_sem,simprocAttr,Qr,n,↓c,k,i,hm];refine dx rfl ?_;have e:H++[ae.box [v] none,.box (dm x) none]=(H++[.box [v] none])++[.box (dm x) none]:=by simp
  rw[e,aoe n])
 unfold pW;by_cases d:l.length<=64
 ·have o: ((l.length:Nat):Int)<=64:=by omega
  rw[aec d,al0];simp(disch:=omega) only[F1,go_sem,simprocAttr,JW,b,a.bY,o,j];rw[axu]
 ·have o: ¬((l.length:Nat):Int)<=64:=by omega
  rw[adO d,ag4];simp(disch:=omega) only[F1,go_sem,simprocAttr,JW,b,a.bY,o]
def qs(l:lB):ed:=⟨(l.getD 0 0).toNat,(l.getD 1 0).toNat,(l.getD 2 0).toNat,(l.getD 3 0).toNat,(l.getD 4 0).toNat+256*(l.getD 5 0).toNat⟩
def aw3{s:lB}(h:k+6<=s.length):rG (s.drop k)=qs (s.drop k)::rG (s.drop (k+6)):=by
 have e:s.drop (k+6)=(s.drop k).drop 6:=by simp
 rw[e];have g:6<=(s.drop k).length:=by grind
 generalize s.drop k=l at*
 match l,g with
 |a::b::c::d::e::f::r,_=>rfl
def aw4(e f:Nat)(a:e<256)(d:f<256):dB .or (.int .u16 e) (.int .u16 ((f*256:Nat)))=some (.int .u16 ((e+256*f:Nat))):=by
 rw[HE];have e1: ∀n:Nat,n<65536->(BitVec.ofInt IntKind.u16.bits (n:Int)).toNat=n:=by
  have:IntKind.u16.bits=16:=rfl
  grind
 have c:e|||f*256=e+256*f:=by
  have:=Nat.shiftLeft_add_eq_or_of_lt (b:=e) (i:=8) a f;rw[Nat.shiftLeft_eq]at this
  grind
 rw[BitVec.toNat_or,e1 e (by omega),e1 (f*256) (by omega),c];have:IntKind.wrap .u16 ((e+256*f:Nat):Int)=((e+256*f:Nat):Int):=by
  unfold IntKind.wrap IntKind.bits IntKind.signed;grind
 rw[this]
def aw5(f:Nat)(a:f<256):k9 .shl (.int .u16 f) (.int .u64 8)=some (.int .u16 ((f*256:Nat))):=by
 rw[AU,adG (by omega)];have:IntKind.wrap .u16 ((f:Int)*2^(min (8:Int).toNat IntKind.u16.bits))=((f*256:Nat):Int):=by
  have h:min (8:Int).toNat IntKind.u16.bits=8:=rfl;rw[h];unfold IntKind.wrap IntKind.bits IntKind.signed;grind
 rw[this]
def aw6{H:List ae}{n:Nat}{s:lB}(k:H[n]?=some (.box [.int .u8 0,.int .u8 0,.int .u8 0,.int .u8 0,.int .u8 0,.int .u8 0] none))(j:6<=s.length):
  r6 ⟨H,lo⟩ 1 (.fH n 1 0 6) (S s)=some (.int .i64 6,⟨H.set n (.box [.int .u8 (s.getD 0 0).toNat,.int .u8 (s.getD 1 0).toNat,.int .u8 (s.getD 2 0).toNat,.int .u8 (s.getD 3 0).toNat,.int .u8 (s.getD 4 0).toNat,.int .u8 (s.getD 5 0).toNat] none),lo⟩):=by
 match s,j with
 |a::b::c::d::e::f::r,_=>
  have l:CP ⟨H,lo⟩ 1 (S (a::b::c::d::e::f::r))=some ((a::b::c::d::e::f::r).map λx=>[.int .u8 x.toNat]):=by
   simp only[CP,S,afK];rfl
  have i:ca ((a::b::c::d::e::f::r).map λx:UInt8=>[AV.int .u8 x.toNat])=0:=bH (g:=λx:UInt8=>[AV.int .u8 x.toNat]) (λ_=>rfl) _;have h: ((a::b::c::d::e::f::r).map λx:UInt8=>[AV.int .u8 x.toNat]).all (λel=>el.length==1)=true:=by simp
  have m: ((a::b::c::d::e::f::r).map λx:UInt8=>[AV.int .u8 x.toNat]).length.min 6=6:=by
   show min _ 6=6;simp
  simp only[r6,l,k,m,i,AS.set,h];rw[adG ⟨trivial,by decide,trivial⟩,adG (aee _)];rfl
def aw7(l:lB): (qs l).op<256/\ (qs l).a<256/\ (qs l).b<256/\ (qs l).c<256/\ (qs l).n<65536:=by
 have h: ∀u:UInt8,u.toNat<256:=λu=>u.toNat_lt
 refine⟨h _,h _,h _,h _,?_⟩;have b:=h (l.getD 4 0);have a:=h (l.getD 5 0);show(l.getD 4 0).toNat+256*(l.getD 5 0).toNat<65536;omega
def gX(s:lB)(k:Nat):List ed:=(List.range k).map λi=>qs (s.drop (6*i))
def Ut(s:lB)(k:Nat):gX s (k+1)=gX s k++[qs (s.drop (6*k))]:=by unfold gX;rw[anC,afr];rfl
theorem akz{s:lB}: ∀m k,6*(k+m)=s.length->gX s k++rG (s.drop (6*k))=gX s (k+m)
 |0,k,h=>by
  have:s.drop (6*k)=[]:=ag5 (by omega);rw[this];simp[rG]
 |m+1,k,h=>by
  have hle:6*k+6<=s.length:=by omega
  rw[aw3 hle];have:=akz (s:=s) m (k+1) (by omega);rw[Ut]at this
  grind
def akA{s:lB}(h:s.length % 6=0):rG s=gX s (s.length/6):=by
 have:=akz (s:=s) (s.length/6) 0 (by omega);simpa[gX]using this
def akB(s:lB)(H:List ae)(lo:oN):
  ∃v,D X0 (.fn (.func 99) [] []) [S s] ⟨H,lo⟩=some (.ret (.az [v,.int .i64 (if(decode s).isSome then 0 else 3:Nat)]) ⟨H,lo⟩)/\Rv v 5 (((decode s).getD []).map dm):=by
 suffices B: ∃o,D X0 (.fn (.func 99) [] []) [S s] ⟨H,lo⟩=some o/\ (λo=> ∃v,o=aV.ret (.az [v,.int .i64 (if(decode s).isSome then 0 else 3:Nat)]) ⟨H,lo⟩/\Rv v 5 (((decode s).getD []).map dm)) o by grind
 refine cN ES λN A=>?_
 have tm: ((s.length:Nat):Int).tmod 6=((s.length % 6:Nat):Int):=by rfl
 by_cases G:s.length % 6=0
 ·have c:decide (((s.length % 6:Nat):Int)=0)=true:=aec (by omega);by_cases T:s.length<=384
  ·have g: ¬((s.length:Nat):Int)>384:=by omega
   simp only[go_sem,simprocAttr,ES,tm,c,g];refine eN (s.length/6) (λk e W=>e 0=S (s.drop (6*k))/\H<+:W/\aT N W (e 4) 5 ad8 ((gX s k).map dm)) 0 (by omega) ?_ ?_
   ·simp only[go_sem,simprocAttr];exact⟨aqe,aT.av⟩
   rintro k R e W ⟨d,a,h⟩ n C;have K: (s.drop (6*k)).length=s.length-6*k:=al3 ..;simp only[cb,go_sem,simprocAttr,aex,d,C];refine⟨λO=>?_,λO=>?_⟩
   ·have f:k<s.length/6:=by omega
    have P:6<=(s.drop (6*k)).length:=by omega
    have z:=λlo=>aw6 (lo:=lo) (H:=W++[.box [.int .u8 0,.int .u8 0,.int .u8 0,.int .u8 0,.int .u8 0,.int .u8 0] none]) (n:=n) (s:=s.drop (6*k)) (by rw[dI C];rfl) P
    have r:uB (S (s.drop (6*k))) (some (.int .i64 6)) none=some (S (s.drop (6*(k+1)))):=by
     rw[HF,adG ⟨by omega,by omega⟩,aor];rfl
    have E:qs (s.drop (6*k))=qs (s.drop (6*k)):=rfl;have F: ∀j,((s.drop (6*k)).getD j 0).toNat<256:=λj=>UInt8.toNat_lt _
    have Q:=F 4;have I:=F 5;have w:=aw4 _ _ Q I;have t:=aw5 _ I;simp(disch:=omega) only[go_sem,simprocAttr,d,ajr,z,w,t];have l: (gX s k).length=k:=by simp[gX]
    refine qQ (N:=N) (H0:=H) (bytes:=6) (ys:=[dm (qs (s.drop (6*k)))]) h.ext (a.trans (aqc _ _)) A (by omega) (by intro el y;rw[aeh.1 y];rfl) rfl (by rw[afm,l];show(k+1)*6<=room;unfold room;omega) λv' U p u=>?_
    simp only[go_sem,simprocAttr,d,r];refine⟨f,u,?_⟩;rw[Ut,afr];exact p
   ·have f:k=s.length/6:=by omega
    have m:rG s=gX s k:=by rw[f];exact akA G
    have l: (gX s k).length=k:=by simp[gX]
    have b:=λlo=>aw2 (e 4) (gX s k) (by omega) (λx B=>by
     obtain⟨i,_,rfl⟩:=afq.1 B;exact aw7 _) 0 W (kT h none) lo (by
     rcases h.2 with⟨q,_⟩| ⟨id,aj,_,q,J⟩
     ·rw[q];exact aee _
     ·rw[q];have:=eg J;simp only[AV.refs];omega) (qk (kT h none))
    have d:decode s=if pW (gX s k)then some (gX s k)else none:=by unfold decode;rw[adE (by omega),m]
    rw[d];cases hm:pW (gX s k)with
    |true=>
     rw[hm]at b;simp only[go_sem,simprocAttr,b];rw[h.acZ (by rw[bH (λ_=>rfl)];omega) (aee _)];exact⟨_,dx rfl (lJ A λi M=>by obtain⟨L,rfl⟩:=a;rw[acV (by omega)]),aT.ss h⟩
    |false=>
     rw[hm]at b;simp only[go_sem,simprocAttr,b];rw[rO rfl];exact⟨.av,dx rfl (lJ A λi M=>by obtain⟨L,rfl⟩:=a;rw[acV (by omega)]),.av⟩
  ·have g: ((s.length:Nat):Int)>384:=by omega
   have d:decode s=none:=by unfold decode;rw[adG (.inr (by omega))]
   rw[d];simp(disch:=omega) only[F1,go_sem,simprocAttr,ES,tm,c,g];exact⟨.av,rfl,.av⟩
 ·have c:decide (((s.length % 6:Nat):Int)=0)=false:=adO (by omega);have d:decode s=none:=by unfold decode;rw[adG (.inl G)]
  rw[d];simp(disch:=omega) only[F1,go_sem,simprocAttr,ES,tm,c];exact⟨.av,rfl,.av⟩
def aw8(b:UInt8)(H:List ae)(lo:oN):D X0 (.fn (.func 103) [] []) [.int .u8 b.toNat] ⟨H,lo⟩=some (.ret (.bool (lH b.toNat)) ⟨H,lo⟩):=by
 refine aH P3 λN h=>?_
 generalize b.toNat=n at*;have e1:decide ((n:Int)<8)=decide (n<8):=afB.2 (by omega);have c:decide ((n:Int)=8)=decide (n=8):=afB.2 (by omega);have e3:decide (16<=(n:Int))=decide (16<=n):=afB.2 (by omega);have a:decide ((n:Int)<24)=decide (n<24):=afB.2 (by omega);unfold lH;generalize decide (n<8)=g at*;generalize decide (n=8)=f at*;generalize decide (16<=n)=e at*;generalize decide (n<24)=d at*;cases g<;>cases f<;>cases e<;>cases d<;>simp(disch:=omega) only[F1,go_sem,simprocAttr,P3,e1,c,e3,a,Bool.or_false,awD,aqb,Bool.or_true]
def aw9(p:lB)(H:List ae)(lo:oN):D X0 (.fn (.func 98) [] []) [S p] ⟨H,lo⟩=some (.ret (.bool (!(decode p).isSome)) ⟨H,lo⟩):=by
 refine aH JP λN b=>?_
 obtain⟨v,d1,_⟩:=akB p H none;cases a: (decode p).isSome with
 |true=>
  rw[a]at d1;simp(disch:=omega) only[F1,go_sem,simprocAttr,JP,d1]
 |false=>
  rw[a]at d1;simp(disch:=omega) only[F1,go_sem,simprocAttr,JP,d1]
def axa(b:UInt8)(H:List ae)(lo:oN):D X0 (.fn (.func 102) [] []) [.int .u8 b.toNat] ⟨H,lo⟩=some (.ret (.bool (!lH b.toNat)) ⟨H,lo⟩):=by
 refine aH P2 λN a=>?_
 simp(disch:=omega) only[F1,go_sem,simprocAttr,P2,aw8]
structure Mb(aM:Int)(aK:List lB)(aX:lB)(pv kv:AV):Prop where
 pr:Rv pv 1 (aK.map sC)
 pk:Rv kv 1 (aX.map bC)
 np:aK.length<1099511627776
 nk:aX.length<1099511627776
def axb{a:Int}{aK:List lB}{c:lB}{pv kv:AV}(h:Mb a aK c pv kv)(o: -9223372036854775808<=a/\a<9223372036854775808)(H:List ae)(lo:oN):
  D X0 (.fn (.func 66) [] []) [.agg [.int .i64 a,pv,kv]] ⟨H,lo⟩=some (.ret (.bool (pZ ⟨a,aK,c.map UInt8.toNat⟩)) ⟨H,lo⟩):=by
 refine aH PK λN s=>?_
 have q:=dj h.pr (bH (λ_=>rfl) _);have r:=dj h.pk (bH (λ_=>rfl) _);have d:=λH lo=>arQ pv (.fn (.func 98) [] []) aK h.pr h.np (λp=>!(decode p).isSome) H lo (λx _=>aw9 x H none)
 have e:=λH lo=>arO kv (.fn (.func 102) [] []) c h.pk h.nk (λb=>!lH b.toNat) H lo (λx _=>axa x H none)
 have n: (!aK.any λp=>!(decode p).isSome)=aK.all λp=>(decode p).isSome:=axu.symm
 have m: (!c.any λb=>!lH b.toNat)=c.all λb=>lH b.toNat:=axu.symm
 have l:pZ ⟨a,aK,c.map UInt8.toNat⟩=(decide (1<=a/\a<=64/\1<=aK.length/\aK.length<=8/\c.length<=4000)&&aK.all (λp=>(decode p).isSome)&&c.all λb=>lH b.toNat):=by
  unfold pZ;simp only[afm,List.all_map];rfl
 have e1:decide (1<=a/\a<=64/\1<=aK.length/\aK.length<=8/\c.length<=4000)=(!decide (a<1)&& !decide (64<a)&& !decide ((aK.length:Int)<1)&& !decide (8< (aK.length:Int))&& !decide (4000< (c.length:Int))):=by
  rw[al4];simp;omega
 rw[l,e1,<-n,<-m];generalize k:decide (a<1)=A;generalize j:decide (64<a)=z;generalize i:decide ((aK.length:Int)<1)=y;generalize g:decide (8< (aK.length:Int))=w;generalize f:decide (4000< (c.length:Int))=v;generalize(aK.any λp=>!(decode p).isSome)=u at*;generalize(c.any λb=>!lH b.toNat)=t at*;clear n m l e1;cases A<;>cases z<;>cases y<;>cases w<;>cases v<;>simp only[F1,go_sem,simprocAttr,PK,s,h.pr.bY,h.pk.bY,k,j,i,g,f,ag4,aqb,avY,azJ,awD,al0];cases u<;>cases t<;>simp(disch:=omega) only[F1,go_sem,simprocAttr,d,e,aqb,avY,azJ,awD]
def axc(p:lB)(H:List ae)(lo:oN):
  ∃cv,D X0 (.fn (.func 68) [] []) [S p] ⟨H,lo⟩=some (.ret (.az [.agg (dn {vH with code:=(decode p).getD []} cv),.int .i64 (if(decode p).isSome then 0 else 3:Nat)]) ⟨H,lo⟩)/\Rv cv 5 (((decode p).getD []).map dm):=by
 obtain⟨N,c⟩: ∃N,H.length=N:=⟨_,rfl⟩;obtain⟨v,d1,d2⟩:=akB p (H++[.box [.av,.int .i64 0,.int .u64 0,.int .u64 0,.int .u64 0,.int .u64 0,.int .u64 0,.int .u64 0,.int .u64 0,.int .u64 0] none]) none;have a:=dj d2 (bH (λ_=>rfl) _);obtain⟨t1,t2⟩:=qk (d2 ⟨[],none⟩);cases b:decode p with
 |some l=>
  rw[b]at d1 d2;refine⟨v,?_,d2⟩;refine aH EN λM d=>?_
  obtain rfl:M=N:=by omega
  simp only[F1,go_sem,simprocAttr,EN,c,d1,t1,t2,a,o5];rfl
 |none=>
  rw[b]at d1 d2;simp only[awG,afp,aha]at d1;refine⟨.av,?_,.av⟩;refine aH EN λM d=>?_
  obtain rfl:M=N:=by omega
  simp only[F1,go_sem,simprocAttr,EN,c,d1,o5];rfl
def xS(r:Runner)(cv rv:AV):lA:=dn r.t cv++(bL r.c rv++[.bool r.busy,.int .i64 r.fr])
def kj(e:Event):lA:=[.int .i64 e.aa]++(bn e.c++(aA e.run++(bE e.r++[.int .i64 e.fr,.int .i64 e.to])))
def cH(m:aQ)(p:Nat)(aE aP:Nat->AV)(ev:AV):lA:=[.ptr p 0]++(arr 8 (λi=>xS (m.aB i) (aE i) (aP i))++[.int .i64 m.now,ev])
section
variable{m:aQ}{p:Nat}{aE aP:Nat->AV}{ev:AV}{i:Nat}
theorem Mc: (arr 8 (λi=>xS (m.aB i) (aE i) (aP i))).length=192:=by rfl
theorem oM: (cH m p aE aP ev).length=195:=by rfl
def Gj{ag:Bool}{o:Nat}(h:i<8)(ho:o+k<=24)(a:0<k):Den.part ag k (cH m p aE aP ev) (1+i*24+o)=Den.part ag k (xS (m.aB i) (aE i) (aP i)) o:=by
 unfold cH;rw[j6 (by grind),show 1+i*24+o- [AV.ptr p 0].length=i*24+o by grind,nd (by rw[Mc];omega) a];exact kM (k:=24) (f:=λi=>xS (m.aB i) (aE i) (aP i)) (λ_=>rfl) h ho a
theorem rU: (cH m p aE aP ev)[0]?=some (.ptr p 0):=rfl
theorem Cz: (cH m p aE aP ev)[193]?=some (.int .i64 m.now):=by rfl
theorem akC: (cH m p aE aP ev)[194]?=some ev:=by rfl
def xT(h:i<8): (cH m p aE aP ev)[1+i*24+22]?=some (.bool (m.aB i).busy):=Gj (ag:=false) (k:=1) h (by omega) (by omega)
def axd(h:i<8): (cH m p aE aP ev)[1+i*24+23]?=some (.int .i64 (m.aB i).fr):=Gj (ag:=false) (k:=1) h (by omega) (by omega)
def Md(h:i<8):Den.part true 10 (cH m p aE aP ev) (1+i*24)=some (.agg (dn (m.aB i).t (aE i))):=Gj (o:=0) h (by omega) (by omega)
def CA(h:i<8):Den.part true 12 (cH m p aE aP ev) (1+i*24+10)=some (.agg (bL (m.aB i).c (aP i))):=Gj h (by omega) (by omega)
def Me(h:i<8):Den.part true 2 (cH m p aE aP ev) (1+i*24+19)=some (.agg (aA (m.aB i).c.run)):=Gj h (by omega) (by omega)
theorem akD{n:Nat}:aO (cH m p aE aP ev) 193 [.int .i64 n]=cH {m with now:=n} p aE aP ev:=by rfl
def akE:aO (cH m p aE aP ev) 194 [v]=cH m p aE aP v:=by
 unfold cH;rw[hY (by simp),hY (by rw[Mc];simp),Mc];rfl
def Gk{o:Nat}{vs:lA}{r:Runner}{cv:AV}(h:i<8)(ho:o+vs.length<=24)(a:aO (xS (m.aB i) (aE i) (aP i)) o vs=xS r cv rv):
  aO (cH m p aE aP ev) (1+i*24+o) vs=cH {m with aB:=ao m.aB i r} p (ao aE i cv) (ao aP i rv) ev:=by
 unfold cH;rw[hY (by grind),show 1+i*24+o- [AV.ptr p 0].length=i*24+o by grind,rq (by rw[Mc];omega),nf (k:=24) (f:=λi=>xS (m.aB i) (aE i) (aP i)) (λ_=>rfl) h ho,a]
 congr 2
 refine Fo λj _=>?_
 by_cases e:j=i
 ·subst e;simp only[bS]
 ·simp only[bT e]
def Uu{b:Bool}(h:i<8):aO (cH m p aE aP ev) (1+i*24+22) [.bool b]=cH {m with aB:=ao m.aB i {m.aB i with busy:=b}} p aE aP ev:=by
 have:=Gk (m:=m) (p:=p) (aE:=aE) (aP:=aP) (ev:=ev) (o:=22) (vs:=[.bool b]) (r:={m.aB i with busy:=b}) (cv:=aE i) (rv:=aP i) h (by simp) rfl;rwa[mC,mC]at this
def axe{n:Nat}(h:i<8):aO (cH m p aE aP ev) (1+i*24+23) [.int .i64 n]=cH {m with aB:=ao m.aB i {m.aB i with fr:=n}} p aE aP ev:=by
 have:=Gk (m:=m) (p:=p) (aE:=aE) (aP:=aP) (ev:=ev) (o:=23) (vs:=[.int .i64 n]) (r:={m.aB i with fr:=n}) (cv:=aE i) (rv:=aP i) h (by simp) rfl;rwa[mC,mC]at this
def akF{t:Task}(h:i<8):aO (cH m p aE aP ev) (1+i*24) (dn t (aE i))=cH {m with aB:=ao m.aB i {m.aB i with t:=t}} p aE aP ev:=by
 have:=Gk (m:=m) (p:=p) (aE:=aE) (aP:=aP) (ev:=ev) (o:=0) (vs:=dn t (aE i)) (r:={m.aB i with t:=t}) (cv:=aE i) (rv:=aP i) h (by rw[xR];omega) rfl;rwa[mC,mC]at this
def Ag{c:Call}(h:i<8):aO (cH m p aE aP ev) (1+i*24+10) (bL c rv)=cH {m with aB:=ao m.aB i {m.aB i with c:=c}} p aE (ao aP i rv) ev:=by
 have:=Gk (m:=m) (p:=p) (aE:=aE) (aP:=aP) (ev:=ev) (o:=10) (vs:=bL c rv) (r:={m.aB i with c:=c}) (cv:=aE i) (rv:=rv) h (by rw[show(bL c rv).length=12 from rfl];omega) rfl;rwa[mC]at this
theorem aDb{x:Core}:cH {m with ai:=x} p aE aP ev=cH m p aE aP ev:=rfl
end
def Mu2(o:ae):Prop:=Mu o\/ ∃a d,o= .row a 14 qU d
structure Fm(n:Nat)(S:lN)(H H':List ae):Prop where
 len:H.length<=H'.length
 low: ∀i,i<n->H'[i]?=H[i]?
 box: ∀i o,i∉S-> ¬Mu2 o->H[i]?=some o->H'[i]?=some o
section
variable{n:Nat}{S T:lN}{A B C H W:List ae}
theorem Fm.refl:Fm n S A A:=⟨aef _,λ_ _=>rfl,λ_ _ _ _ h=>h⟩
theorem Fm.trans(h:Fm n S A B)(g:Fm n S B C):Fm n S A C:=⟨ag2 h.len g.len,λi a=>(g.low i a).trans (h.low i a),λi o a ho b=>g.box i o a ho (h.box i o a ho b)⟩
def Fq.fm(h:Fq n S A B)(a: ∀i∈S,i∈T):Fm n T A B:=⟨h.len,h.low,λi o b ho c=>h.box i o (λq=>b (a i q)) (λq=>ho (.inl q)) c⟩
theorem Fm.set(a:p∈S)(b:n<=p)(o:ae):Fm n S A (A.set p o):=(Fq.set a b o).fm λ_ h=>h
theorem Fm.app(L:List ae)(a:n<=A.length):Fm n S A (A++L):=(Fq.app L a).fm λ_ h=>h
theorem Fm.take{N:Nat}(h:Fm n S A B)(d:A.length=N)(c:n<=N):Fm n S A (B.take N):=⟨by rw[afC];have:=h.len;omega,λi a=>by rw[afD (by omega)];exact h.low i a,λi o a ho b=>by
 have:=eg b;rw[afD (by omega)];exact h.box i o a ho b⟩
def Fm.own{cs:lA}(h:Fm n S A B)(b:p∉S)(c:A[p]?=some (.box cs tg)):B[p]?=some (.box cs tg):=h.box p _ b (λq=>by rcases q with⟨a,d,q⟩| ⟨a,d,q⟩<;>cases q) c
def Fm.out(h:Fm n T H W)(e:H.length<=i)(c:n<=H.length)(o:ae):Fm n T H (W.set i o):=⟨by rw[afw];exact h.len,λj a=>by rw[acT (by omega)];exact h.low j a,λj o a ho b=>by
 have d:=eg b;rw[acT (by omega)];exact h.box j o a ho b⟩
def Fm.pre{L:List ae}(h:Fm n S (H++L) W)(a:n<=H.length):Fm n S H W:=(Fm.app L a).trans h
end
structure bQ(n M p q:Nat)(m:aQ)(qv ev:AV)(aE aP:Nat->AV)(H:List ae):Prop where
 nM:n<=M
 Mq:M<q
 co:dQ n p q m.ai qv H
 box:H[M]?=some (.box (cH m p aE aP ev) none)
 xU:dE (M+1) H ev 14 qU (m.c8.map kj)
 cv: ∀i,Rv (aE i) 5 ((m.aB i).t.code.map dm)
 rv: ∀i,Rv (aP i) 1 ((m.aB i).c.aY.map hC)
section
variable{n M p q:Nat}{m:aQ}{qv ev:AV}{aE aP:Nat->AV}{H:List ae}
def bQ.lt(h:bQ n M p q m qv ev aE aP H):M<H.length:=eg h.box
theorem bQ.app(h:bQ n M p q m qv ev aE aP H)(L:List ae):bQ n M p q m qv ev aE aP (H++L):=⟨h.nM,h.Mq,h.co.app L,bf h.box,h.xU.app L,h.cv,h.rv⟩
def bQ.Mn(h:bQ n M p q m qv ev aE aP H):M∉[p,q]:=by have:=h.Mq;have:=h.co.qp;grind
def bQ.ai{W:List ae}{c:Core}{b:AV}(h:bQ n M p q m qv ev aE aP H)(g:dQ n p q c b W)(e:Fq n [p,q] H W):bQ n M p q {m with ai:=c} b ev aE aP W:=
 ⟨h.nM,h.Mq,g,e.own h.Mn h.box,h.xU.sf λid aj all f=>e.box id _ (by
   have k:=h.co.box;have j:=h.co.ik
   grind) (λq=>by obtain⟨a,d,q⟩:=q;cases q) f,h.cv,h.rv⟩
theorem bQ.set(h:bQ n M p q m qv ev aE aP H){m':aQ}{nI a:Nat->AV}(d:m'.ai=m.ai)(e:m'.c8=m.c8)(c: ∀i,Rv (nI i) 5 ((m'.aB i).t.code.map dm))(b: ∀i,Rv (a i) 1 ((m'.aB i).c.aY.map hC)):
  bQ n M p q m' qv ev nI a (H.set M (.box (cH m' p nI a ev) none)):=
 ⟨h.nM,h.Mq,d ▸ h.co.set h.box (by have:=h.Mq;have:=h.co.qp;omega) (by have:=h.Mq;omega) _,de h.box,e ▸ h.xU.set h.box _,c,b⟩
def bQ.fM(h:bQ n M p q m qv ev aE aP H)(o:ae):Fm n [M,p,q] H (H.set M o):=Fm.set (by simp) h.nM o
def bQ.fc{W:List ae}(h:Fq n [p,q] H W):Fm n [M,p,q] H W:=h.fm λi a=>by grind
def bQ.other(h:bQ n M p q m qv ev aE aP H){cs:lA}(a:H[i]?=some (.box cs tg))(d:i≠p)(c:i≠q)(b:i≠M)(o:ae):bQ n M p q m qv ev aE aP (H.set i o):=
 ⟨h.nM,h.Mq,h.co.set a d c o,(acT b).trans h.box,h.xU.set a _,h.cv,h.rv⟩
theorem bQ.oJ{W j:List ae}{N:Nat}{b c:AV}{d a:Nat->AV}{l:aQ}(h:bQ n M p q m qv ev aE aP W)(e:j=W\/ (j=W.take N/\Q))(k:Q->qv=b/\ev=c)(g:bQ n M p q l b c d a H0)(f:H0.length=N):bQ n M p q m qv ev aE aP j:=
 ⟨h.nM,h.Mq,h.co.oJ e (λq=>(k q).1) g.co f,L6 e (by rw[<-f];exact g.lt) h.box,dE.oJ h.xU e (λq=>(k q).2) g.xU f,h.cv,h.rv⟩
end
def il(n M p q:Nat)(H:List ae)(lo:oN)(m':aQ)(qv ev:AV)(r:AV)(d:aV):Prop:=
 ∃b c nI a H' ak,d= .ret r ⟨H',ak⟩/\bQ n M p q m' b c nI a H'/\Fm n [M,p,q] H H'/\gH (b=qv/\c=ev) p H H' lo ak
def il.fin{n N:Nat}{o m:aQ}{c:AV}{e d:Nat->AV}{H W:List ae}(f:bQ n M p q o a c e d H)(l:H.length=N)(h:bQ n M p q m qv ev aE aP W)(g:Fm n [M,p,q] H W)(s:fY (qv=a/\ev=c) p b)(r:v.refs<=N):
  il n M p q H lo m a c v (.ret (finish N lo v ⟨W,b⟩).1 (finish N lo v ⟨W,b⟩).2):=by
 have x:=f.lt;have w:=f.nM;have u:=f.co.lt;rcases s with⟨rfl,k⟩| ⟨j,t,rfl⟩
 ·rw[jD (.inl rfl) r];refine⟨qv,ev,aE,aP,_,lo,rfl,h.oJ (.inr ⟨rfl,k⟩) id f l,g.take l (by omega),.inl ⟨rfl,?_,k⟩⟩;rw[afC];have:=g.len;omega
 ·rw[vU (by omega)];exact⟨qv,ev,aE,aP,W,cJ lo j,rfl,h,g,.inr ⟨j,t,rfl⟩⟩
structure dv(m:aQ):Prop where
 ai:jH m.ai
 t: ∀i,lO (m.aB i).t
 c: ∀i,fS (m.aB i).c
 fr: ∀i,(m.aB i).fr<2147483648
 now:m.now<2147483648
 ev:m.c8.length<2147483648
 run: ∀i,(m.aB i).c.run.1<=64/\ (m.aB i).c.run.2<=64
def akG{n:Nat}{m:aQ}{H:List ae}(h:bQ n M p q m qv ev aE aP H)(t:Nat)(lo:oN):D XC (.fn (.func 60) [] []) [.ptr M 0,.int .i64 t] ⟨H,lo⟩=some (.ret (.bool (rI m t)) ⟨H,lo⟩):=by
 refine aH JI λN e=>?_
 have d: (t:Int)>=0:=by omega
 unfold rI;by_cases c:t<8
 ·have a: (t:Int)<8:=by omega
  have b: (bK m.ai q qv)[936+t]?=some (.bool (m.ai.S.alive t)):=by
   have:Den.part false 1 (bK m.ai q qv) (936+t)=some (.bool (m.ai.S.alive t)):=by
    unfold bK;rw[nd (by rw[eP];omega) (by omega)];exact agc c
   exact this
  rw[aec c,al0];simp(disch:=omega) only[F1,go_sem,simprocAttr,JI,d,a,h.box,h.co.box,rU,b]
 ·have a: ¬(t:Int)<8:=by omega
  rw[adO c,ag4];simp(disch:=omega) only[F1,go_sem,simprocAttr,JI,d,a]
def akH:gE jm:=⟨by decide,by decide,by decide,by decide,by decide,by decide⟩
def CB:fS gu:=⟨by decide,akH,(λh a=>by cases a),⟨by decide,by decide⟩,by decide⟩
def bQ.Gl{n:Nat}{m:aQ}{H:List ae}(h:bQ n M p q m qv ev aE aP H)(i:Nat)(r:Runner)(cv rv:AV)(b:Rv cv 5 (r.t.code.map dm))(a:Rv rv 1 (r.c.aY.map hC)):
  bQ n M p q {m with aB:=ao m.aB i r} qv ev (ao aE i cv) (ao aP i rv) (H.set M (.box (cH {m with aB:=ao m.aB i r} p (ao aE i cv) (ao aP i rv) ev) none)):=
 h.set rfl rfl (λj=>by
  show Rv (ao aE i cv j) 5 ((ao m.aB i r j).t.code.map dm);by_cases e:j=i
  ·subst e;rw[bS,bS];exact b
  ·rw[bT e,bT e];exact h.cv j) λj=>by
  show Rv (ao aP i rv j) 1 ((ao m.aB i r j).c.aY.map hC);by_cases e:j=i
  ·subst e;rw[bS,bS];exact a
  ·rw[bT e,bT e];exact h.rv j
def jH.queue(b:jH x){r:aD}(c:r.1<=64/\r.2<=64)(d:x.Q.length+r.2<8589934592):jH (b8 x r):=by
 have f: (b8 x r).Q.length=x.Q.length+r.2:=by simp[b8,fi]
 refine⟨b.S,b.P,b.M,λk a=>?_,by omega⟩;rcases aeg.1 a with a|a
 ·exact b.Q k a
 ·obtain⟨i,e,rfl⟩:=afq.1 a
  grind
def jH.cut(a:jH x){c:Call}(b:c.run.1<=64/\c.run.2<=64)(d:x.Q.length+c.run.2<8589934592):jH (oA x c):=by
 have:=a.queue b d;exact⟨this.S,this.P,TV this.M _,this.Q,this.Ql⟩
def akI(x:Core)(c:Call): (oA x c).Q.length=x.Q.length+c.run.2:=by simp[oA,b8,fi]
def dv.Uv{m:aQ}(h:dv m)(i:Nat)(b:m.ai.Q.length<4294967296):dv (kb m i)/\ (kb m i).ai.Q.length<=m.ai.Q.length+64:=by
 unfold kb;split
 ·have a:=h.run i;refine⟨⟨h.ai.cut a (by omega),λj=>?_,λj=>?_,λj=>?_,h.now,h.ev,λj=>?_⟩,?_⟩
  ·show lO (ao m.aB i _ j).t;unfold ao;split
   ·exact h.t i
   ·exact h.t j
  ·show fS (ao m.aB i _ j).c;unfold ao;split
   ·exact CB
   ·exact h.c j
  ·show(ao m.aB i _ j).fr<_;unfold ao;split
   ·exact h.fr i
   ·exact h.fr j
  ·show(ao m.aB i _ j).c.run.1<=64/\ (ao m.aB i _ j).c.run.2<=64;unfold ao;split
   ·exact⟨by show 0<=64;omega,by show 0<=64;omega⟩
   ·exact h.run j
  ·show(oA _ _).Q.length<=_;rw[akI];omega
 grind
def fZ(m:aQ)(k:Nat):aQ:=(List.range k).foldl kb m
def Ah(m:aQ)(k:Nat):fZ m (k+1)=kb (fZ m k) k:=by unfold fZ;rw[anC,amu];rfl
theorem Uw{m:aQ}(h:dv m)(a:m.ai.Q.length<1073741824): ∀k,k<=8->dv (fZ m k)/\ (fZ m k).ai.Q.length<=m.ai.Q.length+64*k
 |0,_=>⟨h,by show m.ai.Q.length<=_;omega⟩
 |k+1,c=>by
  obtain⟨b,f⟩:=Uw h a k (by omega);obtain⟨e,d⟩:=b.Uv k (by omega);rw[Ah]
  grind
def axg{n:Nat}{m:aQ}{H:List ae}(u:bQ n M p q m qv ev aE aP H)(Y:dv m)(hQ:m.ai.Q.length<1073741824)(lo:oN):
  ∃P,D XC (.fn (.func 63) [] []) [.ptr M 0] ⟨H,lo⟩=some P/\il n M p q H lo (jT m) qv ev (.az []) P:=by
 have ho:Old M H (.box (cH m p aE aP ev) none):=⟨u.box⟩;refine cN PJ λN O=>?_
 have Gm:M<N:=by rw[<-O];exact u.lt
 have V:p<N:=by rw[<-O];exact u.co.lt
 have X:=u.nM;have hMq:=u.Mq;have T:=u.co.qp;simp only[go_sem,simprocAttr,PJ];refine ja 8 (λk e W ak=> ∃i h d g,e 0= .ptr M 0/\e 4= .int .i64 k/\bQ n M p q (fZ m k) i h d g W/\fY (i=qv/\h=ev) p ak/\Fm n [M,p,q] H W) 0 (by omega) ?_ ?_
 ·refine⟨qv,ev,aE,aP,?_⟩;simp only[go_sem,simprocAttr];exact⟨u,fY.no trivial,Fm.refl⟩
 rintro k hk e W ak ⟨i,h,d,g,C,B,l,r,A⟩ nn hn;simp only[cb,go_sem,simprocAttr,aev,C,B];refine⟨λZ=>?_,λZ=>?_⟩
 ·have f:k<8:=by omega
  have w: (0:Int)<=k/\ (k:Int)<8:=by omega
  obtain⟨x,U⟩:=Uw Y hQ k (by omega);have s:=λlo=>akG l k lo
  have G:=Ah m k;cases y: ((fZ m k).aB k).busy with
  |false=>
   have e1:kb (fZ m k) k=fZ m k:=adE (by rw[y];simp);simp(disch:=omega) only[go_sem,simprocAttr,C,B,w,l.box,xT f,y];exact⟨f,i,h,d,g,by rw[G,e1];exact l,r,A⟩
  |true=>
   cases z:rI (fZ m k) k with
   |true=>
    rw[z]at s;have e1:kb (fZ m k) k=fZ m k:=adE (by rw[z];simp);simp(disch:=omega) only[go_sem,simprocAttr,C,B,w,l.box,xT f,y,s];exact⟨f,i,h,d,g,by rw[G,e1];exact l,r,A⟩
   |false=>
    rw[z]at s;have e1:kb (fZ m k) k={fZ m k with ai:=oA (fZ m k).ai ((fZ m k).aB k).c,aB:=ao (fZ m k).aB k {(fZ m k).aB k with busy:=false,c:=gu}}:=adG ⟨y,z⟩;obtain⟨P,g1,E,W3,R,rfl,g2,Q,g4⟩:=ajG l.co x.ai _ (x.c k) _ (dj (l.rv k) (bH (λ_=>rfl) _)) ak;have j:=l.ai g2 Q;have S: [AV.int .i64 0,.int .u8 0,.int .u32 0,.int .u32 0,.int .u32 0,.int .u32 0,.int .u64 0,.bool false,.av,.int .i64 0,.int .i64 0,.int .i64 0]=bL gu .av:=rfl;have K:aL (bL gu .av)=0:=rfl;have L: (bL gu .av).length=12:=rfl;have J:1+k*24+22+1<=195:=by omega
    have I:1+k*24+10+12<=195:=by omega
    have F:=λo=>de (o:=o) j.box
    simp(disch:=omega) only[go_sem,simprocAttr,C,B,w,l.box,xT f,rU,↓CA f,y,s,g1,j.box,oM,Uu f,Ag f,S,K,L,J,I,F,akQ,rp,bS];have t:=j.Gl k {(fZ m k).aB k with busy:=false,c:=gu} (d k) .av (j.cv k) .av;rw[mC]at t;refine⟨f,E,h,d,ao g k .av,?_,r.step g4 (λa b=>⟨b.trans a.1,a.2⟩),(A.trans (bQ.fc Q)).trans (j.fM _)⟩;rw[G,e1];exact t
 ·obtain rfl:k=8:=by omega
  exact il.fin (v:=.az []) u O l A r (aee _)
def Ux(a:aD)(b n:Nat)(j:a.2<4294967296)(m:b<17179869184/\n<17179869184)(H:List ae)(lo:oN):
  D XC (.fn (.func 125) [] []) [.agg (aA a),.int .i64 b,.int .i64 n] ⟨H,lo⟩=some (.ret (.agg (aA (handed a b n))) ⟨H,lo⟩):=by
 refine aH BM λN f=>?_
 have o: (aA a)[1]?=some (.int .i64 a.2):=rfl;have k: ∀r,List.take 2 (aA r)=aA r:=λ_=>rfl
 have l: ∀r,List.drop 2 (aA r)=[]:=λ_=>rfl
 have h: ∀r:aD,(aA r).length=2:=λ_=>rfl
 have g: ∀r,aL (aA r)=0:=λ_=>rfl
 unfold handed;by_cases i:0<a.2
 ·have d:decide (0< ((a.2:Nat):Int))=true:=aec (by omega);by_cases e:a.2<=n-b
  ·have c:decide (((a.2:Nat):Int)<=(n:Int)-b)=true:=aec (by omega);rw[adG ⟨e,i⟩];simp(disch:=omega) only[F1,go_sem,simprocAttr,BM,f,d,c,A2];rfl
  ·have c:decide (((a.2:Nat):Int)<=(n:Int)-b)=false:=adO (by omega);rw[adE (λq=>e q.1)];simp(disch:=omega) only[F1,go_sem,simprocAttr,BM,f,c,h,g,A2]
 ·have d:decide (0< ((a.2:Nat):Int))=false:=adO (by omega);rw[adE (λq=>i q.2)];by_cases e: ((a.2:Nat):Int)<=(n:Int)-b
  ·have c:decide (((a.2:Nat):Int)<=(n:Int)-b)=true:=aec e;simp(disch:=omega) only[F1,go_sem,simprocAttr,BM,f,d,c,h,g,A2]
  ·have c:decide (((a.2:Nat):Int)<=(n:Int)-b)=false:=adO e;simp(disch:=omega) only[F1,go_sem,simprocAttr,BM,f,c,h,g,A2]
def bQ.akK{n:Nat}{m:aQ}{H W:List ae}(h:bQ n M p q m qv ev aE aP H){e:Event}(j:dE (M+1) W v 14 qU ((m.c8++[e]).map kj))(b: ∀ (i:Nat) (o:ae),(∀a d,o≠ae.row a 14 qU d)->H[i]?=some o->W[i]?=some o):
  bQ n M p q {m with c8:=m.c8++[e]} qv v aE aP (W.set M (.box (cH {m with c8:=m.c8++[e]} p aE aP v) none)):=by
 have c: ∀cs tg,∀a d,ae.box cs tg≠ .row a 14 qU d:=λ_ _ _ _ e=>by cases e
 have f:=b M _ (c _ _) h.box;have l:=h.Mq;have k:=h.co.qp;refine⟨h.nM,h.Mq,⟨h.co.mp,h.co.mq,h.co.qp,(acT (by omega)).trans (b p _ (c _ _) h.co.box),(acT (by omega)).trans (b q _ (c _ _) h.co.ik),?_⟩,de f,j.set f _,h.cv,h.rv⟩;exact(h.co.jX.sf λid aj all g=>b id _ (λa d e=>by cases e) g).set f _
def akL{n:Nat}{m:aQ}{H W:List ae}(h:bQ n M p q m qv ev aE aP H)(j:H.length<=W.length)(k: ∀i,i<M+1->W[i]?=H[i]?)(f: ∀ (i:Nat) (o:ae),(∀a d,o≠ae.row a 14 qU d)->H[i]?=some o->W[i]?=some o)(o:ae):Fm n [M,p,q] H (W.set M o):=by
 have g:=h.nM;refine⟨by grind,λi b=>by grind,λi o' b ho c=>?_⟩;rw[acT (by grind)];exact f i o' (λa d e=>ho (.inr ⟨a,d,e⟩)) c
def axh(t:Task)(r:bt): (s8 t r).code=t.code:=by
 unfold s8;grind
def Uy{n:Nat}{m:aQ}{H:List ae}(f:bQ n M p q m qv ev aE aP H)(Y:dv m)(t:Nat)(i:t<8)(c:Call)(rv:AV)(LY:rv.refs=0)(run:aD)(r:bt)(hr:r.w<4294967296/\r.e<4294967296)(lo:oN):
  ∃Z,D XC (.fn (.func 124) [] []) [.ptr M 0,.int .i64 t,.agg (bL c rv),.agg (aA run),.agg (bE r)] ⟨H,lo⟩=some Z/\il n M p q H lo (KZ m t c run r) qv ev (.az []) Z:=by
 refine cN Qd λN l=>?_
 have Gm:M<N:=by rw[<-l];exact f.lt
 have oI:p<N:=by rw[<-l];exact f.co.lt
 have hb:=λL=>bf (L:=L) f.box
 have I: (0:Int)<=t/\ (t:Int)<8:=by omega
 have K:Den.part true 6 (bL c rv) 1=some (.agg (bn c.c)):=rfl;have hlr: ∀r:aD,List.take 2 (aA r)=aA r:=λ_=>rfl
 have K6: ∀r:aD,(aA r).length=2:=λ_=>rfl
 have hls: ∀r:bt,List.take 3 (bE r)=bE r:=λ_=>rfl
 have T: ∀c:cn,bn c=[.int .u8 c.op,.int .u32 c.r,.int .u32 c.s,.int .u32 c.a,.int .u32 c.b,.int .u64 c.v]:=λ_=>rfl
 have j: ∀r:aD,aA r=[.int .i64 r.1,.int .i64 r.2]:=λ_=>rfl
 have h: ∀r:bt,bE r=[.int .i64 r.e,.int .u64 r.v,.int .u32 r.w]:=λ_=>rfl
 have R: ∀a b:Nat,[AV.int .i64 (t:Int),.int .u8 c.c.op,.int .u32 c.c.r,.int .u32 c.c.s,.int .u32 c.c.a,.int .u32 c.c.b,.int .u64 c.c.v,.int .i64 run.1,.int .i64 run.2,.int .i64 r.e,.int .u64 r.v,.int .u32 r.w,.int .i64 a,.int .i64 b]=kj ⟨t,c.c,run,r,a,b⟩:=λ_ _=>rfl
 obtain⟨B,hB⟩: ∃B:List ae,B=[.box (bL c rv) none,.box (aA run) none,.box (bE r) none]:=⟨_,rfl⟩;have w:=f.app B;obtain⟨v',W,g1,g2,g3,g4,x,g6,g7,g8⟩:=dE.append (bytes:=96) (lo:=none) (y:=kj ⟨t,c.c,run,r,(m.aB t).fr,m.now⟩) w.xU (by have:=w.lt;omega) (by omega) rfl rfl (by rw[afm];have:=Y.ev;unfold room;omega);have eE:m.c8.map kj++[kj ⟨t,c.c,run,r,(m.aB t).fr,m.now⟩]=(m.c8++[(⟨t,c.c,run,r,(m.aB t).fr,m.now⟩:Event)]).map kj:=by rw[afr];rfl
 rw[eE]at g2;have u:=w.akK g2 x;have U:=akL w g3 g4 x (.box (cH {m with c8:=m.c8++[⟨t,c.c,run,r,(m.aB t).fr,m.now⟩]} p aE aP v') none);rw[hB]at g1;rw[j,h]at g1;have S: ∀e,(kj e).length=14:=λ_=>rfl
 have het: ∀e,List.take 14 (kj e)=kj e:=λ_=>rfl
 have X: ∀cs tg,∀a d,ae.box cs tg≠ .row a 14 qU d:=λ_ _ _ _ e=>by cases e
 have V:=x M _ (X _ _) w.box;have wr:=x (N+2) _ (X _ _) (show(H++B)[N+2]?=some (.box (bE r) none) by rw[hB,bF l];rfl);rw[h]at wr;have J:=λo=>de (o:=o) V
 have z: ∀o,(W.set M o)[N+2]?=_:=λo=>(acT (by omega)).trans wr
 have E: ¬v'.refs<=M+1:=by omega
 have G: ∀H lo,D XC (.fn (.func 145) [] []) [.agg (dn (m.aB t).t (aE t)),.agg [.int .i64 r.e,.int .u64 r.v,.int .u32 r.w]] ⟨H,lo⟩=some (.ret (.agg (dn (s8 (m.aB t).t r) (aE t))) ⟨H,lo⟩):=λH lo=>c0 (awP (f.cv t) (Y.t t) r hr H lo)
 have k:=dj (f.cv t) (bH (λ_=>rfl) _);have F:=λt'=>Ge (t:=t') k
 have hz: [AV.int .i64 0,.int .u8 0,.int .u32 0,.int .u32 0,.int .u32 0,.int .u32 0,.int .u64 0,.bool false,.av,.int .i64 0,.int .i64 0,.int .i64 0]=bL gu .av:=rfl;have A:aL (bL gu .av)=0:=rfl;have C: (bL gu .av).length=12:=rfl;have Q:1+t*24+10<=195:=by omega
 have P:1+t*24+22+1<=195:=by omega
 have O:1+t*24+10+12<=195:=by omega
 simp only[go_sem,simprocAttr,Qd,l,I,hb,Cz,akC,axd i,↓K,T,j,h,R,S,het,g1,g6,g7,E,V,z,J,akE,oM,↓Md i,G,F,akF i,Uu i,Ag i,hz,A,C,Q,P,O,akQ,rp,bS,xR];have g:=u.Gl t {m.aB t with t:=s8 (m.aB t).t r,busy:=false,c:=gu} (aE t) .av (by rw[axh];exact f.cv t) .av;rw[mC,akQ]at g;have s:=(Fm.app B (by have:=f.nM;omega)).trans (U.trans (u.fM (.box (cH {m with c8:=m.c8++[⟨t,c.c,run,r,(m.aB t).fr,m.now⟩],aB:=ao m.aB t {m.aB t with t:=s8 (m.aB t).t r,busy:=false,c:=gu}} p aE (ao aP t .av) v') none)));rw[akQ]at s;exact il.fin (v:=.az []) f l g s (.inr ⟨M,by have:=f.Mq;have:=f.co.qp;omega,rfl⟩) (aee _)
def xV(m:aQ)(t:Nat):aQ:={m with ai:=(fw m.ai (m.aB t).c).x,aB:=ao m.aB t {m.aB t with c:=(fw m.ai (m.aB t).c).c}}
def Uz(m:aQ)(t:Nat):aD:=if(fw m.ai (m.aB t).c).r.e≠0\/ (fw m.ai (m.aB t).c).c.c.op≠2 then(0,0)else(m.aB t).c.run
theorem akM(m:aQ)(t:Nat):pY m t=if(fw m.ai (m.aB t).c).ended then KZ (xV m t) t (fw m.ai (m.aB t).c).c (handed (Uz m t) m.ai.Q.length (fw m.ai (m.aB t).c).x.Q.length) (fw m.ai (m.aB t).c).r else xV m t:=rfl
def akN{n:Nat}{m:aQ}{H:List ae}(hD: ∀op,qm op)(g:bQ n M p q m qv ev aE aP H)(hm:dv m)(t:Nat)(j:t<8)(hQ:m.ai.Q.length<2147483648)
  (hd:rT (dg (fj ⟨m.ai,(m.aB t).c,bD,false⟩).x.S (fj ⟨m.ai,(m.aB t).c,bD,false⟩).c.aa (fj ⟨m.ai,(m.aB t).c,bD,false⟩).c.c (fj ⟨m.ai,(m.aB t).c,bD,false⟩).c.run) (m.aB t).c.c)
  (B:dv (xV m t)) (hr: (fw m.ai (m.aB t).c).r.w<4294967296/\ (fw m.ai (m.aB t).c).r.e<4294967296) (oY: (fw m.ai (m.aB t).c).c.c.op<256) (lo:oN):
  ∃cr,D XC (.fn (.func 95) [] []) [.ptr M 0,.int .i64 t] ⟨H,lo⟩=some cr/\il n M p q H lo (pY m t) qv ev (.az []) cr:=by
 refine cN BL λN z=>?_
 have Gm:M<N:=by rw[<-z];exact g.lt
 have oI:p<N:=by rw[<-z];exact g.co.lt
 have hMq:=g.Mq;have Ul:=g.co.qp;have UA:=g.nM;have P: (0:Int)<=t/\ (t:Int)<8:=by omega
 have hb:=λL=>bf (L:=L) g.box
 have hcb:=λL=>bf (L:=L) g.co.box
 have NG:=λL lo=>((g.app L).co.jX.rd (lo:=lo)).bY
 have hrz:=dj (g.rv t) (bH (λ_=>rfl) _);obtain⟨cr,g1,qv2,h,W,G,rfl,g2,g3,g4,g5⟩:=awN hD (g.co.app [.box (aA (m.aB t).c.run) none,.box vX none,.box nH none]) hm.ai (hm.c t) (g.rv t) hd hQ none;rw[akM];have R: ∀r:aD,(aA r).length=2:=λ_=>rfl
 have hrt: ∀r:aD,List.take 2 (aA r)=aA r:=λ_=>rfl
 have mY: ∀r:aD,List.drop 2 (aA r)=[]:=λ_=>rfl
 have Q: ∀r:aD,aL (aA r)=0:=λ_=>rfl
 have O: [AV.int .i64 0,.int .u8 0,.int .u32 0,.int .u32 0,.int .u32 0,.int .u32 0,.int .u64 0,.bool false,.av,.int .i64 0,.int .i64 0,.int .i64 0]=vX:=rfl;have I: [AV.int .i64 0,.int .u64 0,.int .u32 0]=nH:=rfl;generalize hs:fw m.ai (m.aB t).c=s at*;have e:=λlo=>(g.co.jX.rd (lo:=lo)).bY
 have nM1:N∉[p,q]:=by simp;omega
 have nM2:N+1∉[p,q]:=by simp;omega
 have nM3:N+2∉[p,q]:=by simp;omega
 have v0:=g4.own nM1 (by rw[dI z];rfl);have v1:=g4.own nM2 (by rw[bF z];rfl);have v2:=g4.own nM3 (by rw[bF z];rfl);have hA:=(g.app [.box (aA (m.aB t).c.run) none,.box vX none,.box nH none]).ai g2 g4;have J:vX.length=12:=rfl;have l:nH.length=3:=rfl;have K:List.drop 12 vX=[]:=rfl;have u:List.drop 3 nH=[]:=rfl;have Z: ∀c rv,(bL c rv).length=12:=λ_ _=>rfl
 have X: ∀c rv,List.take 12 (bL c rv)=bL c rv:=λ_ _=>rfl
 have w:=dj g3 (bH (λ_=>rfl) _);have Y:=Ua s.c w;have s1:=λo=>de (o:=o) v1
 have y: ∀o,(W.set (N+1) o)[N+2]?=_:=λo=>(acT (by omega)).trans v2
 have vM: ∀o o',((W.set (N+1) o).set (N+2) o')[M]?=_:=λo o'=>(acT (by omega)).trans ((acT (by omega)).trans hA.box)
 have A: ∀o o':ae,((W.set (N+1) o).set (N+2) o')[N+1]?=some o:=λo o'=>(acT (by omega)).trans (s1 o)
 have T:1+t*24+10+12<=195:=by omega
 have Mf:=((hA.other v1 (by omega) (by omega) (by omega) (.box (bL s.c h) none)).other (y _) (by omega) (by omega) (by omega) (.box (bE s.r) none));have k:=Mf.Gl t {m.aB t with c:=s.c} (aE t) h (g.cv t) g3;rw[mC]at k;have F:Fm n [M,p,q] H (((W.set (N+1) (.box (bL s.c h) none)).set (N+2) (.box (bE s.r) none)).set M (.box (cH {m with ai:=s.x,aB:=ao m.aB t {m.aB t with c:=s.c}} p aE (ao aP t h) ev) none)):=by
  have h1:=((bQ.fc (M:=M) g4).pre (by omega)).out (i:=N+1) (by omega) (by omega) (.box (bL s.c h) none);exact(h1.out (i:=N+2) (by omega) (by omega) (.box (bE s.r) none)).trans (Mf.fM _)
 have S:fY (qv2=qv/\ev=ev) p G:=(gH.n g5).imp (λq=>⟨q.1,q.2,rfl⟩) id;obtain⟨W3,C⟩: ∃W3,W3=((W.set (N+1) (.box (bL s.c h) none)).set (N+2) (.box (bE s.r) none)).set M (.box (cH {m with ai:=s.x,aB:=ao m.aB t {m.aB t with c:=s.c}} p aE (ao aP t h) ev) none):=⟨_,rfl⟩;have x:=C.symm;have CD:N+1+1=N+2:=rfl;have w0:W3[N]?=some (.box (aA (m.aB t).c.run) none):=by rw[C,acT (by omega),acT (by omega),acT (by omega)];exact v0
 have w1:W3[N+1]?=some (.box (bL s.c h) none):=by rw[C,acT (by omega)];exact A _ _
 have w2:W3[N+2]?=some (.box (bE s.r) none):=by rw[C,acT (by omega)];exact de (y _)
 rw[<-C]at k F;have Gn: (bE s.r)[0]?=some (.int .i64 s.r.e):=rfl;have Mg: (bL s.c h)[1]?=some (.int .u8 s.c.c.op):=rfl;have eM:xV m t={m with ai:=s.x,aB:=ao m.aB t {m.aB t with c:=s.c}}:=by unfold xV;rw[hs]
 have eR:Uz m t=if s.r.e≠0\/s.c.c.op≠2 then(0,0)else(m.aB t).c.run:=by unfold Uz;rw[hs]
 rw[eM]at B⊢;rw[eR];have hqb:s.x.Q.length<8589934592:=B.ai.Ql;have wo:=hm.run t;cases U:s.ended with
 |false=>
  simp only[go_sem,simprocAttr,BL,z,P,g.box,g.co.box,hb,rU,KL,↓KL,e,↓Me j,R,Q,↓CA j,O,I,g1,v1,y,vM,A,J,l,K,u,Z,X,Y,uk,rR,oM,Ag j,T,U,CD,x];exact il.fin (v:=.az []) g z k F S (aee _)
 |true=>
  by_cases he:s.r.e=0
  ·have V:decide (((s.r.e:Nat):Int)=0)=true:=aec (by omega);by_cases ho:s.c.c.op=2
   ·have UB:decide (((s.c.c.op:Nat):Int)=2)=true:=aec (by omega);rw[adG rfl,adE (by omega)];have f:=k;have E:=F;have d:=λlo=>(f.co.jX.rd (lo:=lo)).bY
    have hh:=λH lo=>Ux (m.aB t).c.run m.ai.Q.length s.x.Q.length (by skip;omega) (by omega) H lo
    obtain⟨cr,g6,qv6,ev6,akR,akS,W6,lo6,rfl,g7,g8,g9⟩:=Uy f B t j s.c h w (handed (m.aB t).c.run m.ai.Q.length s.x.Q.length) s.r hr G;simp only[go_sem,simprocAttr,BL,z,P,g.box,g.co.box,hb,rU,KL,↓KL,e,↓Me j,R,Q,↓CA j,O,I,g1,v1,y,vM,A,J,l,K,u,Z,X,Y,uk,xN,rR,oM,Ag j,T,U,CD,x,w0,w1,w2,Gn,Mg,V,UB,k.box,f.co.box,d,hh,g6];exact il.fin (v:=.az []) g z g7 (E.trans g8) (S.step g9 λa b=>⟨b.1.trans a.1,b.2.trans a.2⟩) (aee _)
   ·have UB:decide (((s.c.c.op:Nat):Int)=2)=false:=adO (by omega);rw[adG rfl,adG (.inr ho)];have f:=k.other w0 (by omega) (by omega) (by omega) (.box [.int .i64 0,.int .i64 0] none);have E:=F.out (i:=N) (by omega) (by omega) (.box [.int .i64 0,.int .i64 0] none);have u0:=λo=>de (o:=o) w0
    have u1: ∀o,(W3.set N o)[N+1]?=_:=λo=>(acT (by omega)).trans w1
    have u2: ∀o,(W3.set N o)[N+2]?=_:=λo=>(acT (by omega)).trans w2
    have d:=λlo=>(f.co.jX.rd (lo:=lo)).bY
    have hh: ∀H lo,D XC (.fn (.func 125) [] []) [.agg [.int .i64 0,.int .i64 0],.int .i64 m.ai.Q.length,.int .i64 s.x.Q.length] ⟨H,lo⟩=some (.ret (.agg (aA (handed (0,0) m.ai.Q.length s.x.Q.length))) ⟨H,lo⟩):=λH lo=>Ux (0,0) m.ai.Q.length s.x.Q.length (by show 0<4294967296;omega) (by omega) H lo
    obtain⟨cr,g6,qv6,ev6,akR,akS,W6,lo6,rfl,g7,g8,g9⟩:=Uy f B t j s.c h w (handed (0,0) m.ai.Q.length s.x.Q.length) s.r hr G;simp only[go_sem,simprocAttr,BL,z,P,g.box,g.co.box,hb,rU,KL,↓KL,e,↓Me j,R,mY,Q,↓CA j,O,I,g1,v1,y,vM,A,J,l,K,u,Z,X,Y,uk,xN,rR,oM,Ag j,T,U,CD,x,w0,w1,w2,Gn,Mg,V,UB,u0,u1,u2,f.box,f.co.box,d,hh,g6];exact il.fin (v:=.az []) g z g7 (E.trans g8) (S.step g9 λa b=>⟨b.1.trans a.1,b.2.trans a.2⟩) (aee _)
  ·have V:decide (((s.r.e:Nat):Int)=0)=false:=adO (by omega);rw[adG rfl,adG (.inl he)];have f:=k.other w0 (by omega) (by omega) (by omega) (.box [.int .i64 0,.int .i64 0] none);have E:=F.out (i:=N) (by omega) (by omega) (.box [.int .i64 0,.int .i64 0] none);have u0:=λo=>de (o:=o) w0
   have u1: ∀o,(W3.set N o)[N+1]?=_:=λo=>(acT (by omega)).trans w1
   have u2: ∀o,(W3.set N o)[N+2]?=_:=λo=>(acT (by omega)).trans w2
   have d:=λlo=>(f.co.jX.rd (lo:=lo)).bY
   have hh: ∀H lo,D XC (.fn (.func 125) [] []) [.agg [.int .i64 0,.int .i64 0],.int .i64 m.ai.Q.length,.int .i64 s.x.Q.length] ⟨H,lo⟩=some (.ret (.agg (aA (handed (0,0) m.ai.Q.length s.x.Q.length))) ⟨H,lo⟩):=λH lo=>Ux (0,0) m.ai.Q.length s.x.Q.length (by show 0<4294967296;omega) (by omega) H lo
   obtain⟨cr,g6,qv6,ev6,akR,akS,W6,lo6,rfl,g7,g8,g9⟩:=Uy f B t j s.c h w (handed (0,0) m.ai.Q.length s.x.Q.length) s.r hr G;simp only[go_sem,simprocAttr,BL,z,P,g.box,g.co.box,hb,rU,KL,↓KL,e,↓Me j,R,mY,Q,↓CA j,O,I,g1,v1,y,vM,A,J,l,K,u,Z,X,Y,uk,xN,rR,oM,Ag j,T,U,CD,x,w0,w2,Gn,V,u0,u1,u2,f.box,f.co.box,d,hh,g6];exact il.fin (v:=.az []) g z g7 (E.trans g8) (S.step g9 λa b=>⟨b.1.trans a.1,b.2.trans a.2⟩) (aee _)
structure akU(m:aQ)(t:Nat):Prop where
 d:rT (dg (fj ⟨m.ai,(m.aB t).c,bD,false⟩).x.S (fj ⟨m.ai,(m.aB t).c,bD,false⟩).c.aa (fj ⟨m.ai,(m.aB t).c,bD,false⟩).c.c (fj ⟨m.ai,(m.aB t).c,bD,false⟩).c.run) (m.aB t).c.c
 m':dv (xV m t)
 r: (fw m.ai (m.aB t).c).r.w<4294967296/\ (fw m.ai (m.aB t).c).r.e<4294967296
 op: (fw m.ai (m.aB t).c).c.c.op<256
def axn{t:Task}(h:lO t):gE (jn t).1:=by
 unfold jn;split
 ·exact⟨by decide,by decide,by decide,by decide,by decide,by decide⟩
 ·rename_i x a;have ho:=Gi h a;split
  ·exact⟨by decide,by decide,by decide,by decide,by decide,by decide⟩
  ·split
   ·exact akH
   ·have c:=ho.op;have b:=ho.n;exact⟨by grind,anS _ (by omega),anS _ (by omega),anS _ (by omega),by grind,h.aY 5⟩
def axo(t:Task): (pX t).code=t.code:=by
 unfold pX
 grind
def CE(m:aQ)(t:Nat):aQ:={m with aB:=ao m.aB t {m.aB t with c:={gu with aa:=t,c:=(jn (m.aB t).t).1},busy:=true,fr:=m.now}}
def dv.wanted{m:aQ}(h:dv m){t:Nat}(a:t<8):dv (CE m t):=by
 refine⟨h.ai,λj=>?_,λj=>?_,λj=>?_,h.now,h.ev,λj=>?_⟩
 ·show lO (ao m.aB t _ j).t;unfold ao;split
  ·exact h.t t
  ·exact h.t j
 ·show fS (ao m.aB t _ j).c;unfold ao;split
  ·exact⟨by grind,axn (h.t t),CB.aY,CB.run,CB.fF⟩
  ·exact h.c j
 ·show(ao m.aB t _ j).fr<_;unfold ao;split
  ·exact h.now
  ·exact h.fr j
 ·show(ao m.aB t _ j).c.run.1<=64/\ (ao m.aB t _ j).c.run.2<=64;unfold ao;split
  ·exact⟨by show 0<=64;omega,by show 0<=64;omega⟩
  ·exact h.run j
def axp{n:Nat}{m:aQ}{H:List ae}(hD: ∀op,qm op)(b:bQ n M p q m qv ev aE aP H)(y:dv m)(t:Nat)(d:t<8)(F:m.ai.Q.length<2147483648)
  (A: ∀m,dv m->m.ai.Q.length<2147483648->akU m t) (lo:oN):
  ∃s,D XC (.fn (.func 62) [] []) [.ptr M 0,.int .i64 t] ⟨H,lo⟩=some s/\il n M p q H lo (rJ m t) qv ev (.az []) s:=by
 refine cN EM λN i=>?_
 have Gm:M<N:=by rw[<-i];exact b.lt
 have oI:p<N:=by rw[<-i];exact b.co.lt
 have UA:=b.nM;have k: (0:Int)<=t/\ (t:Int)<8:=by omega
 have E:=λL=>bf (L:=L) b.box
 have hw:=λH lo=>c0 (Ur (b.cv t) (y.t t) H lo)
 have j: [AV.int .u8 0,.int .u32 0,.int .u32 0,.int .u32 0,.int .u32 0,.int .u64 0]=bn jm:=rfl;have Y: ∀c,(bn c).length=6:=λ_=>rfl
 have Z: ∀c,List.drop 6 (bn c)=[]:=λ_=>rfl
 have ct: ∀c,List.take 6 (bn c)=bn c:=λ_=>rfl
 have s: ∀c,aL (bn c)=0:=λ_=>rfl
 have z:=dj (b.cv t) (bH (λ_=>rfl) _);have B:=b.app [.box (bn (jn (m.aB t).t).1) none];unfold rJ;dsimp only;cases h: (m.aB t).busy with
 |true=>
  have g:=A m y F;obtain⟨X,g1,G,W,C,u,W6,I,rfl,V,U,T⟩:=akN hD B y t d F g.d g.m' g.r g.op none;simp only[go_sem,simprocAttr,EM,i,k,b.box,E,↓Md d,xT d,h,hw,j,Y,Z,s,g1];exact il.fin (v:=.az []) b i V (U.pre (by omega)) (gH.n T) (aee _)
 |false=>
  cases w: (jn (m.aB t).t).2 with
  |true=>
   rw[w]at hw;have x:=y.wanted d;have g:=A (CE m t) x F;have a:=B.Gl t {m.aB t with c:={gu with aa:=t,c:=(jn (m.aB t).t).1},busy:=true,fr:=m.now} (aE t) .av (b.cv t) .av;rw[mC]at a;obtain⟨X,g1,G,W,C,u,W6,I,rfl,V,U,T⟩:=akN hD a x t d F g.d g.m' g.r g.op none;have P:1+t*24+10+12<=195:=by omega
   have Q:1+t*24+22+1<=195:=by omega
   have l:1+t*24+23+1<=195:=by omega
   have O:=λL o=>de (o:=o) (E L)
   have r:AV.int .i64 (t:Int):: (bn (jn (m.aB t).t).1++[.bool false,.av,.int .i64 0,.int .i64 0,.int .i64 0])=bL {gu with aa:=t,c:=(jn (m.aB t).t).1} .av:=rfl;have R: ∀c,aL (bL c .av)=0:=λ_=>rfl
   have S: ∀c,(bL c .av).length=12:=λ_=>rfl
   have f:AV.bool (m.aB t).busy= .bool false:=by rw[h]
   simp only[go_sem,simprocAttr,EM,i,k,b.box,E,Cz,↓Md d,xT d,f,hw,j,Y,Z,ct,s,O,akQ,r,R,S,Ag d,Uu d,axe d,rp,bS,oM,l,Q,P,g1];have hf:Fm n [M,p,q] H ((H++[ae.box (bn (jn (m.aB t).t).1) none]).set M (ae.box (cH (CE m t) p aE (ao aP t .av) ev) none)):=(Fm.app _ (by omega)).trans (B.fM _);exact il.fin (v:=.az []) b i V (hf.trans U) (gH.n T) (aee _)
  |false=>
   rw[w]at hw;have K:=λH lo=>c0 (awY (b.cv t) (y.t t) H lo)
   have a:=B.Gl t {m.aB t with t:=pX (m.aB t).t} (aE t) (aP t) (by rw[axo];exact b.cv t) (b.rv t);rw[mC,mC]at a;have J:=λt'=>Ge (t:=t') z
   have l:1+t*24+10<=195:=by omega
   have f:AV.bool (m.aB t).busy= .bool false:=by rw[h]
   simp only[go_sem,simprocAttr,EM,i,k,b.box,E,↓Md d,xT d,f,hw,j,Y,Z,s,K,J,akF d,oM,l,xR];have e: (⟨pX (m.aB t).t,(m.aB t).c,false,(m.aB t).fr⟩:Runner)={m.aB t with t:=pX (m.aB t).t}:=by rw[<-h]
   rw[e];exact il.fin (v:=.az []) b i a ((Fm.app _ (by omega)).trans (B.fM _)) (fY.no ⟨rfl,rfl⟩) (aee _)
def dQ.axq{n:Nat}{H W:List ae}(h:dQ n p q x qv H)(r:dE (p+1) W v 1 qT ((x.Q++[k]).map iD))(s:H.length<=W.length)(t: ∀i,i<p+1->W[i]?=H[i]?)(b: ∀ (i:Nat) (o:ae),(∀a d,o≠ae.row a 1 qT d)->H[i]?=some o->W[i]?=some o):
  dQ n p q {x with Q:=x.Q++[k]} v (W.set p (.box (bK x q v) none))/\Fq n [p,q] H (W.set p (.box (bK x q v) none)):=by
 have c: ∀cs tg,∀a d,ae.box cs tg≠ .row a 1 qT d:=λ_ _ _ _ e=>by cases e
 have f:=b p _ (c _ _) h.box;have g:=h.qp;have j:=h.mp;refine⟨⟨h.mp,h.mq,h.qp,de f,(acT (by omega)).trans (b q _ (c _ _) h.ik),r.set f _⟩,⟨by grind,λi l=>?_,λi o l ho m=>?_⟩⟩
 ·grind
 ·rw[acT (by grind)];exact b i o (λa d e=>ho ⟨a,d,e⟩) m
theorem akV: ∀ (l:List aD) (x:Core) (s:bm),l.foldl b8 {x with S:=s}={l.foldl b8 x with S:=s}
 | [],_,_=>rfl
 |r::l,x,s=>akV l (b8 x r) s
def ga:cn:={jm with op:=20}
def km(m:aQ)(d:bm×bt×List aD)(k:Nat):Core:=(d.2.2.take k).foldl b8 {m.ai with S:=d.1}
def axr{n:Nat}{m:aQ}{H:List ae}(hD: ∀op,qm op)(x:bQ n M p q m qv ev aE aP H)(hm:dv m)(t:Nat)(ht:t<8)(hQ:m.ai.Q.length<2147483648)
  (hd:rT (dg m.ai.S t ga (0,0)) ga) (lo:oN):
  ∃cr,D XC (.fn (.func 61) [] []) [.ptr M 0,.int .i64 t] ⟨H,lo⟩=some cr/\il n M p q H lo (vI m t) qv ev (.az []) cr:=by
 refine cN PI λN hN=>?_
 have Gm:M<N:=by rw[<-hN];exact x.lt
 have oI:p<N:=by rw[<-hN];exact x.co.lt
 have UA:=x.nM;have hMq:=x.Mq;have Ul:=x.co.qp;have hb:=λL=>bf (L:=L) x.box
 have hcb:=λL=>bf (L:=L) x.co.box
 have hcx:gE ga:=⟨by decide,by decide,by decide,by decide,by decide,by decide⟩;obtain⟨bv,d1,d2⟩:=TS m.ai.S hm.ai.S t (by omega) ga hcx (0,0) ⟨show 0<4294967296 by omega,show 0<4294967296 by omega⟩ (hD _) (H++[.box (bn ga) none,.box m2 none,.box nH none]) none;have d1:=cB d1;have eS:vI m t={m with ai:=km m (dg m.ai.S t ga (0,0)) (dg m.ai.S t ga (0,0)).2.2.length,c8:=m.c8++[⟨t,ga,(0,0),(dg m.ai.S t ga (0,0)).2.1,m.now,m.now⟩]}:=by
  unfold km;rw[aft,akV];rfl
 rw[eS];generalize dg m.ai.S t ga (0,0)=d at*;have hz: [AV.int .u8 20,.int .u32 0,.int .u32 0,.int .u32 0,.int .u32 0,.int .u64 0]=bn ga:=rfl;have Gn:aA (0,0)=[.int .i64 0,.int .i64 0]:=rfl;rw[Gn]at d1;have hzr: [AV.int .i64 0,.int .u64 0,.int .u32 0]=nH:=rfl;have cl: ∀c,(bn c).length=6:=λ_=>rfl
 have cd: ∀c,List.drop 6 (bn c)=[]:=λ_=>rfl
 have ct: ∀c,List.take 6 (bn c)=bn c:=λ_=>rfl
 have cr: ∀c,aL (bn c)=0:=λ_=>rfl
 have U:nH.length=3:=rfl;have V:List.drop 3 nH=[]:=rfl;have hA:=(x.app [.box (bn ga) none,.box (bz d.1) none,.box (bE d.2.1) none]);have I:=hA.ai (hA.co.ajD d.1) (hA.co.fp _);have G:=bQ.fc (M:=M) (hA.co.fp (.box (bK {m.ai with S:=d.1} q qv) none));have CD:N+1+1=N+2:=rfl;simp only[go_sem,simprocAttr,PI,hN,CD,hb,hcb,rU,KL,↓KL,KS,hz,hzr,cl,ct,cr,d1,DZ,ou,rR,U,V,d2.bY];refine ja d.2.2.length (λk e W ak=> ∃o,e 0= .ptr M 0/\e 1= .int .i64 t/\e 4= .ptr N 0/\e 6= .ptr (N+2) 0/\e 34=bv/\e 35= .int .i64 d.2.2.length/\e 36= .int .i64 k/\bQ n M p q {m with ai:=km m d k} o ev aE aP W/\fY (o=qv/\ev=ev) p ak/\W[N]?=some (.box (bn ga) none)/\W[N+2]?=some (.box (bE d.2.1) none)/\Fm n [M,p,q] H W) 0 (by omega) ?_ ?_
 ·refine⟨qv,?_⟩;simp(disch:=omega) only[go_sem,simprocAttr];exact⟨I,fY.no trivial,(Fm.app _ (by omega)).trans G⟩
 rintro k hk e W ak ⟨o,B,e1,R,e6,l,i,h,s,g,J,K,P⟩ nn hn;simp only[cb,go_sem,simprocAttr,aeu,B,l,i,h];refine⟨λhh=>?_,λhh=>?_⟩
 ·have w:k<d.2.2.length:=by omega
  generalize F:d.2.2.getD k default=f at*;have wo:=hd.runs f (by rw[<-F];exact fO w);have wF: ∀r:aD,(aA r).length=2:=λ_=>rfl
  have A1: ∀r,aL (aA r)=0:=λ_=>rfl
  have hrt: ∀r,List.take 2 (aA r)=aA r:=λ_=>rfl
  have mY: ∀r,List.drop 2 (aA r)=[]:=λ_=>rfl
  have hr1: (aA f)[1]?=some (.int .i64 f.2):=rfl;have aDf: (aA f)[0]?=some (.int .i64 f.1):=rfl;simp(disch:=omega) only[go_sem,simprocAttr,d2.cD,d2.di,F,hn,wF,A1];have X:=Cv (d.2.2.take k) {m.ai with S:=d.1} (λz hz=>(hd.runs z (ag9 hz)).2);have X: (km m d k).Q.length<=m.ai.Q.length+64*(d.2.2.take k).length:=X;have TO: (d.2.2.take k).length<=k:=by simp;omega
  have hdl:=hd.len;refine⟨by omega,?_⟩;refine ja f.2 (λj e T E=> ∃u,e 0= .ptr M 0/\e 1= .int .i64 t/\e 4= .ptr N 0/\e 6= .ptr (N+2) 0/\e 34=bv/\e 35= .int .i64 d.2.2.length/\e 36= .int .i64 k/\e 9= .ptr nn 0/\e 41= .int .i64 f.2/\e 42= .int .i64 j/\bQ n M p q {m with ai:=jG (km m d k) f j} u ev aE aP T/\fY (u=qv/\ev=ev) p E/\T[nn]?=some (.box (aA f) none)/\T[N]?=some (.box (bn ga) none)/\T[N+2]?=some (.box (bE d.2.1) none)/\Fm n [M,p,q] H T) 0 (by omega) ?_ ?_
  ·refine⟨o,?_⟩;simp(disch:=omega) only[go_sem,simprocAttr,B,e1,R,e6,l,i,h];refine⟨?_,by simpa using g,bf J,bf K,P.trans (Fm.app _ (by have:=s.lt;omega))⟩;have e1:jG (km m d k) f 0=km m d k:=by unfold jG;simp
   rw[e1];exact s.app _
  have hK0:=s.co.box;have aDi:p<nn:=by rw[<-hn];exact s.co.lt
  clear g J K B e1 R e6 l i h s P hn;rintro j hj e T E ⟨u,B,e1,R,e6,l,i,h,e9,e41,e42,C,g,wn,J,K,P⟩ n2 hn2;simp(disch:=omega) only[cb,go_sem,simprocAttr,aet,B,e1,R,e6,l,i,h,e41,e42];refine⟨λhh=>?_,λhh=>?_⟩
  ·have Y:j<f.2:=by omega
   have hwl:=C.co.lt;have NG: (jG (km m d k) f j).Q.length<=m.ai.Q.length+64*k+f.2:=by
    have: (jG (km m d k) f j).Q.length=(km m d k).Q.length+((fi f).take j).length:=by simp[jG]
    have h2: ((fi f).take j).length<=f.2:=by simp[fi];omega
    omega
   obtain⟨v',W3,g1,g2,g3,g4,A,g6,g7,g8⟩:=dE.append (bytes:=8) (lo:=E) (y:=[.int .i64 ((f.1:Int)+j)]) C.co.jX (by omega) (by omega) rfl rfl (by rw[afm];unfold room;show((jG (km m d k) f j).Q.length+1)*8<=_;omega);have eQ: (jG (km m d k) f j).Q.map iD++[[.int .i64 ((f.1:Int)+j)]]=((jG (km m d k) f j).Q++[f.1+j]).map iD:=by rw[afr];rfl
   rw[eQ]at g2;obtain⟨c1,c2⟩:=C.co.axq g2 g3 g4 A;have Z:=C.ai c1 c2;have eT: {jG (km m d k) f j with Q:=(jG (km m d k) f j).Q++[f.1+j]}=jG (km m d k) f (j+1):=by
    unfold jG;rw[ajF Y,<-adK]
   rw[eT]at Z;have O: ∀cs tg,∀a d,ae.box cs tg≠ .row a 1 qT d:=λ_ _ _ _ e=>by cases e
   have wp':=A p _ (O _ _) C.co.box;have g8': ¬v'.refs<=p+1:=by omega
   simp(disch:=omega) only[go_sem,simprocAttr,B,e1,R,e6,l,i,h,e9,e41,e42,C.box,C.co.box,rU,KL,↓KL,wn,g1,wp',KS,g6,g7,g8'];refine⟨Y,v',Z,?_,A nn _ (O _ _) wn,A N _ (O _ _) J,A (N+2) _ (O _ _) K,P.trans (bQ.fc c2)⟩;rcases g with⟨rfl,_⟩| ⟨j2,hj2,rfl⟩
   ·exact .inr ⟨p,aef _,rfl⟩
   ·exact .inr ⟨min p j2,by omega,rfl⟩
  ·obtain rfl:j=f.2:=by omega
   have B:km m d (k+1)=jG (km m d k) f f.2:=by
    rw[ajE];unfold km;rw[<-F,agR,adM w,amu,afA,adM w];rfl
   exact⟨w,u,by rw[B];exact C,g.imp (λq=>⟨q.1,q.2.1⟩) id,J,K,P⟩
 ·obtain rfl:k=d.2.2.length:=by omega
  have g:fY (o=qv/\ev=ev) p ak:=g;obtain⟨v',W3,g1,g2,g3,g4,A,g6,g7,g8⟩:=dE.append (bytes:=96) (lo:=ak) (y:=kj ⟨t,ga,(0,0),d.2.1,m.now,m.now⟩) s.xU (by have:=s.lt;omega) (by omega) rfl rfl (by rw[afm];unfold room;have:=hm.ev;show(m.c8.length+1)*96<=_;omega);have eE:m.c8.map kj++[kj ⟨t,ga,(0,0),d.2.1,m.now,m.now⟩]=(m.c8++[(⟨t,ga,(0,0),d.2.1,m.now,m.now⟩:Event)]).map kj:=by rw[afr];rfl
  have g2:dE (M+1) W3 v' 14 qU ((m.c8++[(⟨t,ga,(0,0),d.2.1,m.now,m.now⟩:Event)]).map kj):=eE ▸ g2;have I:=s.akK g2 A;have G:=akL s g3 g4 A (.box (cH {m with c8:=m.c8++[⟨t,ga,(0,0),d.2.1,m.now,m.now⟩]} p aE aP v') none);have O: ∀cs tg,∀a d,ae.box cs tg≠ .row a 14 qU d:=λ_ _ _ _ e=>by cases e
  have wM:=A M _ (O _ _) s.box;have hv': ¬v'.refs<=M+1:=by omega
  have Te: ∀c:cn,bn c=[.int .u8 c.op,.int .u32 c.r,.int .u32 c.s,.int .u32 c.a,.int .u32 c.b,.int .u64 c.v]:=λ_=>rfl
  have hse: ∀r:bt,bE r=[.int .i64 r.e,.int .u64 r.v,.int .u32 r.w]:=λ_=>rfl
  have hev: ∀a b:Nat,[AV.int .i64 (t:Int),.int .u8 ga.op,.int .u32 ga.r,.int .u32 ga.s,.int .u32 ga.a,.int .u32 ga.b,.int .u64 ga.v,.int .i64 0,.int .i64 0,.int .i64 d.2.1.e,.int .u64 d.2.1.v,.int .u32 d.2.1.w,.int .i64 a,.int .i64 b]=kj ⟨t,ga,(0,0),d.2.1,a,b⟩:=λ_ _=>rfl
  have qG: ∀e,(kj e).length=14:=λ_=>rfl
  have het: ∀e,List.take 14 (kj e)=kj e:=λ_=>rfl
  simp only[go_sem,simprocAttr,s.box,B,e1,R,e6,Cz,akC,J,K,Te,hse,hev,qG,het,g1,g6,g7,hv',wM,akE,oM];refine il.fin (v:=.az []) x hN I (P.trans G) ?_ (aee _);rcases g with⟨rfl,_⟩| ⟨j2,hj2,rfl⟩
  ·exact .inr ⟨M,by omega,rfl⟩
  ·exact .inr ⟨min M j2,by omega,rfl⟩
end Go.Proofs.YteplichagkpciaaGreatDoor
