/- A part. -/
import Derived.Test.YtcdeobefbpnfeaaGreatDoorM2
set_option linter.all false
set_option maxRecDepth 10000
set_option maxHeartbeats 1000000
namespace Go.Proofs.YtcdeobefbpnfeaaGreatDoor
open Go Go.Den
variable{aa k i sz p q m M:Nat}{c:cx}{a v qv rv ev:AV}{b lo:oN}{af:List lA}{l:List aD}{tg:Option TypeId}{H0:List ae}{Q:Prop}{x:Core}{r:bF}{aF aQ:Nat->AV}
def aqp:=@List.take_set_of_le
def axD:=@List.all_eq_not_any_not
def Me(m:Marks)(a aa:Nat):Marks:=if jl a aa then av m a (Ca (m a) aa)else m
def av3(m:Marks)(r: ∀i,iI (m i))(a aa:Nat)(s:aa<4294967296)(H:List ae)(lo:oN):
  D X0 (.fn (.func 176) [] []) [.agg (cR m),.int .i64 a,.int .i64 aa] ⟨H,lo⟩=some (.ret (.agg (cR (Me m a aa))) ⟨H,lo⟩):=by
 refine aH Fg λN l=>?_
 have g:pn.length=320:=by rfl
 have d:List.drop 320 pn=[]:=ahl (by omega);have q: ∀m:Marks,List.take 320 (cR m)=cR m:=λm=>ael (by rw[ep];omega)
 have b:=λH lo=>Uf a aa H lo
 unfold Me;cases c:jl a aa with
 |false=>
  rw[c]at b;simp only[F1,go_sem,simprocAttr,Fg,l,b,↓rJ,ep,j0,g,d]
  try rfl
 |true=>
  rw[c]at b;obtain⟨j,t⟩:a<32/\aa<8:=by unfold jl at c;simpa using c
  have f: (0:Int)<=a/\ (a:Int)<32:=by omega
  have k:a*10<=319:=by omega
  have n:=(r a).has;simp only[af1];unfold Ca;by_cases p: (m a).has=aa+1
  ·have e: (((m a).has:Nat):Int)=(aa:Int)+1:=by omega
   have h:aK (cR m) (a*10) [.int .u8 0]=cR (av m a {m a with has:=0}):=Cz (o:=0) j (by simp) rfl;rw[adV p];simp only[F1,go_sem,simprocAttr,Fg,l,b,f,↓vI j,e,h,k,↓rJ,ep,j0,g,d]
  ·have e: ¬(((m a).has:Nat):Int)=(aa:Int)+1:=by omega
   rw[ada p,mE];simp(disch:=omega) only[F1,go_sem,simprocAttr,Fg,l,b,f,↓vI j,e,↓rJ,ep,j0,g,d]
def qe(m:Marks)(aa k:Nat):Marks:=λi=>if i<k then rl m aa i else m i
def av4(m:Marks)(a:aa<8)(b:k<32):qe m aa (k+1)=av (qe m aa k) k (xh (Ca (m k) aa) aa):=by
 funext i
 unfold qe av;by_cases e:i=k
 ·subst e;rw[adV (by omega),adV rfl];unfold rl;rw[adV (by unfold jl;grind)]
 grind
def av5(m:Marks)(aa:Nat):qe m aa 32=rl m aa:=by
 funext i
 unfold qe;by_cases h:i<32
 ·grind
 ·rw[ada h];unfold rl;rw[ada (by unfold jl;grind)]
def av6(m:Marks)(k:Nat)(a: ¬aa<8):qe m aa k=m:=by
 funext i
 unfold qe rl;split
 ·rw[ada (by unfold jl;grind)]
 ·rfl
def ajB{l:fw}(h:iI l)(aa:Nat):iI (Ca l aa):=by
 unfold Ca;split
 ·exact⟨by simp,h.n,h.lt,h.inj⟩
 omega
def av7{l:fw}(h:iI l)(n:i<l.n):iI (S1 l i):=by
 have m:=h.n;have f:=h.lt;unfold S1;refine⟨h.has,by grind,λj=>?_,λa b k g c=>?_⟩
 ·show(if j=l.n-1 then 0 else if i<=j/\j<7 then l.wait (j+1)else l.wait j)<8
  grind
 ·have e:a<l.n-1:=k;have d:b<l.n-1:=g;simp only[av,ada (show a≠l.n-1 by omega),ada (show b≠l.n-1 by omega)]at c;have key: ∀j,j<l.n-1->(if i<=j/\j<7 then l.wait (j+1)else l.wait j)=l.wait (if i<=j then j+1 else j):=by grind
  rw[key a e,key b d]at c;have:=h.inj _ _ (by grind) (by grind) c
  grind
def ajC{l:fw}(h:iI l)(aa:Nat):iI (xh l aa):=by
 unfold xh;split
 ·exact h
 ·rename_i i a;exact av7 h (ajv a).1
def Ug{m:Marks}(a: ∀i,iI (m i))(aa:Nat): ∀i,iI (rl m aa i):=by
 intro i;unfold rl;split
 ·exact ajC (ajB (a i) aa) aa
 grind
def av8{m:Marks}(a: ∀i,iI (m i))(aa k:Nat): ∀i,iI (qe m aa k i):=by
 intro i;unfold qe;split
 ·exact Ug a aa i
 grind
def av9{m:Marks}(g: ∀i,iI (m i))(c:Nat): ∀i,iI ((jm m c aa).1 i):=by
 unfold jm;split
 ·omega
 rename_i h;obtain⟨v,p⟩:c<32/\aa<8:=by unfold jl at h;grind
 split
 ·omega
 split
 ·intro i;show iI (av _ _ _ _);unfold av;split
  ·have:=ajC (g c) aa;exact⟨by show aa+1<=8;omega,this.n,this.lt,this.inj⟩
  grind
 split
 ·rename_i f;intro i;show iI (av _ _ _ _);unfold av;split
  ·have w:=ajA (g c) p f;have k:=g c;have e: ∀j,j< (m c).n->(m c).wait j≠aa:=by
    intro j q he;unfold rk at f;rw[awX]at f;have:=f j (alJ.2 q);simp at this;omega
   refine⟨k.has,by show(m c).n+1<=8;omega,λj=>?_,λa b u s l=>?_⟩
   ·show(if j=(m c).n then aa else(m c).wait j)<8;split
    ·exact p
    ·exact k.lt j
   ·have t:a< (m c).n+1:=u;have r:b< (m c).n+1:=s;have d: (if a=(m c).n then aa else(m c).wait a)=(if b=(m c).n then aa else(m c).wait b):=l;by_cases o:a=(m c).n<;>by_cases n:b=(m c).n
    ·omega
    ·rw[adV o,ada n]at d;exact absurd d.symm (e b (by omega))
    ·rw[ada o,adV n]at d;exact absurd d (e a (by omega))
    ·rw[ada o,ada n]at d;exact k.inj a b (by omega) (by omega) d
  ·exact g i
 omega
def awa(m:Marks)(z: ∀i,iI (m i))(aa:Nat)(y:aa<4294967296)(H:List ae)(lo:oN):
  D X0 (.fn (.func 155) [] []) [.agg (cR m),.int .i64 aa] ⟨H,lo⟩=some (.ret (.agg (cR (rl m aa))) ⟨H,lo⟩):=by
 refine aH QJ λN E=>?_
 have x:pn.length=320:=by rfl
 have j:List.drop 320 pn=[]:=ahl (by rw[x];omega);have f: ∀m:Marks,List.take 320 (cR m)=cR m:=λm=>ael (by rw[ep];omega)
 have g: ∀m:Marks,List.drop 320 (cR m)=[]:=λm=>ahl (by rw[ep];omega)
 simp only[go_sem,simprocAttr,QJ,E];refine dP 32 (λk e H'=>H'=H++[.box (cR (qe m aa k)) none,.box pn none]/\e 1= .int .i64 aa/\e 2= .ptr N 0/\e 4= .ptr (N+1) 0/\e 6= .int .i64 k) 0 (by omega) ?_ ?_
 ·simp only[go_sem,simprocAttr];rfl
 rintro k G e H' ⟨rfl,w,v,u,t⟩ n F;simp(disch:=omega) only[bQ,go_sem,simprocAttr,ae0,w,v,u,t];refine⟨λC=>?_,λC=>?_⟩
 ·have d:k<32:=by omega
  have h: (0:Int)<=k/\ (k:Int)<32:=by omega
  have r:k*10+10<=320:=by omega
  have a:=λH lo=>av3 _ (av8 z aa k) k aa y H lo
  have b:=λH lo=>Uf k aa H lo
  have s:qe m aa k k=m k:=by unfold qe;rw[ada (by omega)]
  by_cases A:aa<8
  ·have c:jl k aa=true:=by unfold jl;simp;omega
   have B:=av4 m A d;unfold Me at a;rw[c,s,adV rfl]at a;rw[c]at b;have p:=λH lo=>ajz _ (ajB (z k) aa) aa y H lo
   have q: ∀ (m:Marks) (l:fw),aK (cR m) (k*10) (fx l)=cR (av m k l):=λm l=>Cz (o:=0) d (by rw[Ag];omega) rfl
   simp(disch:=omega) only[go_sem,simprocAttr,w,v,u,t,b,a,h,r,↓xB d,p,q,ch,sJ,ep,j0,Ag,Ga,f,g,afZ];rw[B];exact⟨d,rfl⟩
  ·have c:jl k aa=false:=by unfold jl;simp;omega
   unfold Me at a;rw[c,ada (by simp)]at a;rw[c]at b;simp only[av6 m _ A]at a⊢;simp(disch:=omega) only[go_sem,simprocAttr,w,v,u,t,b,a,h,ep,j0,f,g,afZ];exact d
 ·obtain rfl:k=32:=by omega
  rw[av5];simp(disch:=omega) only[F1,go_sem,simprocAttr,ep,j0,x,j,f]
noncomputable def Gc:lA->AS->Option aX:=nZ XB (D XB) Lw 207 Km
def CA(args:lA)(E:AS):Option aX:=match args with
 | [.aq,.int .i64 n]=>if n=0 then some (.ret .aq E)else if 0<n/\n<=1024 then some (.ret (.ref E.heap.length 0 2 0 0 false) (E.push (.row 0 2 eL [])))else none
 |_=>none
noncomputable def XC:Ctx:={XB with b8:=λf=>if f=207 then some Gc else if f=226 then some CA else XB.b8 f}
theorem Uh:Ext XB XC where
 dJ:=rfl
 fU:=rfl
 code:=rfl
 b8:=λf=>by
  by_cases b:f=207
  ·subst b;exact .inr ⟨rfl,rfl⟩
  ·by_cases a:f=226
   ·subst a;exact .inr ⟨rfl,rfl⟩
   ·left;show(if f=207 then some Gc else if f=226 then some CA else XB.b8 f)=XB.b8 f
    grind
section
variable{v:AV}{args:lA}{E:AS}{r:aX}
def cB(h:D XB v args E=some r):D XC v args E=some r:=vy Uh h
def cX(h:D X v args E=some r):D XC v args E=some r:=vy Uh (lX h)
def c0(h:D X0 v args E=some r):D XC v args E=some r:=vy Uh (lz h)
end
def awb{X:Ctx}{f:FuncId}{p:lA->AS->Option aX}{args a:lA}{E:AS}{b:aX}(c:X.b8 f=some p)(h:p (args++a) E=some b):D X (.fn (.func f) [] a) args E=some b:=by
 refine HB ?_;simp only[Go.Den.step,c,ahk];exact h
def Ui{s:bu}(f:bf s)(l:iH c){a b:Nat}{H:List ae}(n:H[a]?=some (.box (bo s) none))(m:H[b]?=some (.box (bp c) none))(N:Nat)(o:H.length=N)(lo:oN):
  ∃v J ak,D XC (.fn (.func 207) [] [.ptr a 0,.ptr b 0]) [] ⟨H,lo⟩=some (.ret v ⟨H++J,ak⟩)/\aT N (H++J) v 1 cb ((under s.T c.r).map hC)/\ (ak=lo\/ ∃j,N<=j/\ak=cL lo j):=by
 suffices i: ∃d,Gc [.ptr a 0,.ptr b 0] ⟨H,lo⟩=some d/\ (λd=> ∃v J ak,d=aX.ret v ⟨H++J,ak⟩/\aT N (H++J) v 1 cb ((under s.T c.r).map hC)/\ (ak=lo\/ ∃j,N<=j/\ak=cL lo j)) d by
  obtain⟨d,t,v,J,ak,rfl,q⟩:=i;exact⟨v,J,ak,awb (p:=Gc) rfl t,q⟩
 refine wq (X:=XB) Km rfl λM u=>?_
 obtain⟨v,J,ak,e,h,g⟩:=FV s.T f.T f.tr c.r l.r N H o none;have e:=lX e;simp only[go_sem,simprocAttr,Km,n,m,↓SL,gn,e,si];refine⟨_,_,_,rfl,h,?_⟩;rcases g with rfl| ⟨j,k,rfl⟩
 ·exact .inl rfl
 ·exact .inr ⟨j,k,rfl⟩
def awc(n:Nat)(c:n<=1024)(H:List ae)(lo:oN):
  D XC (.fn (.func 226) [] []) [.aq,.int .i64 n] ⟨H,lo⟩=some (.ret (if n=0 then .aq else .ref H.length 0 2 0 0 false) ⟨H++(if n=0 then[]else[.row 0 2 eL []]),lo⟩):=by
 refine DK (p:=CA) rfl ?_;unfold CA;by_cases h:n=0
 ·grind
 ·have b: ¬((n:Nat):Int)=0:=by omega
  have a: (0:Int)<n/\ (n:Int)<=1024:=by omega
  simp only[ada h,ada b,adV a];rfl
abbrev VR:=AV×List aD
def fD(l:List VR):List aD:=l.flatMap (·.2)
def Ai(x:VR):lA:=[x.1]
def Mf{l:List VR}(h:k<l.length):fD (l.take (k+1))=fD (l.take k)++(l.getD k default).2:=by
 unfold fD;rw[afP,al7,afK,adR h];simp
def awd{N:Nat}{H:List ae}{bytes:Nat}{ty:TypeId}(h:aT N H v sz ty af)(a:0<sz)(d:af.length*bytes<=room):du ⟨H,lo⟩ ty sz bytes v []=some (v,⟨H,lo⟩):=by
 unfold du;rw[adV ⟨a,rfl⟩];rcases h.2 with⟨rfl,_⟩| ⟨id,aj,c,rfl,b⟩
 ·rfl
 grind
def awe(l:List VR)(hl:l.length<=3)(P: ∀x∈l,x.2.length<=64)(H:List ae)(R: ∀x∈l,Rd ⟨H,none⟩ x.1 2 (x.2.map aA))(lo:oN):
  D XC (.fn (.func 223) [] []) [.sl (l.map Ai) true] ⟨H,lo⟩=some (.ret (ed (fD l)) ⟨H,lo⟩):=by
 refine aH Rm λN X=>?_
 have s:Rv (.sl (l.map Ai) true) 1 (l.map Ai):=.sl (by intro el d;obtain⟨x,_,rfl⟩:=afJ.1 d;rfl);have y: ∀k,(fD (l.take k)).length<=64*k:=by
  intro k
  induction k with
  |zero=>simp[fD]
  |succ k ih=>
   by_cases h:k<l.length
   ·rw[Mf h,aem];have:=P _ (eo h);omega
   ·rw[ael (by omega)];rw[ael (by omega)]at ih;omega
 generalize(AV.sl (l.map Ai) true)=V at*;simp only[go_sem,simprocAttr,Rm,s.bN];refine dP l.length (λk e H'=>H'=H/\e 0=V/\e 3= .int .i64 (fD (l.take k)).length/\e 9=V/\e 10= .int .i64 l.length/\e 11= .int .i64 k) 0 (by omega) ?_ ?_
 ·simp only[go_sem,simprocAttr];rfl
 rintro k hk e H' ⟨rfl,h0,O,Y,B,A⟩ n hn;simp only[bQ,go_sem,simprocAttr,afh,O,Y,B,A];refine⟨λK=>?_,λK=>?_⟩
 ·have a:k<l.length:=by omega
  have j:=(R _ (eo a)).bN;have w:=y (k+1);have U:=y k;rw[Mf a,aem]at w;have u: ((fD (l.take k)).length:Int)+(l.getD k default).2.length=((fD (l.take (k+1))).length:Nat):=by rw[Mf a,aem];omega
  have I: ¬(((fD (l.take (k+1))).length:Nat):Int)<0:=by omega
  have g: (Ai (l.getD k default))[0]?=some (l.getD k default).1:=rfl;have T:=y (k+1);simp(disch:=omega) only[go_sem,simprocAttr,h0,O,Y,B,A,s.ca,s.cD,g,j,u,I];exact⟨by omega,a⟩
 ·obtain rfl:k=l.length:=by omega
  have c:fD (l.take l.length)=fD l:=by rw[afH]
  rw[c]at O;have M:=awc (fD l).length (by have:=y l.length;rw[c]at this;omega);simp only[go_sem,simprocAttr,c,h0,M,s.bN];obtain⟨v0,t⟩: ∃v0,v0=(if(fD l).length=0 then .aq else AV.ref H'.length 0 2 0 0 false):=⟨_,rfl⟩;obtain⟨W0,z⟩: ∃W0,W0=H'++(if(fD l).length=0 then[]else[ae.row 0 2 eL []]):=⟨_,rfl⟩;rw[<-t,<-z];have F:aT N W0 v0 2 eL ([].map aA)/\ ((fD l).length=0->v0= .aq)/\H'<+:W0:=by
   rw[t,z];by_cases h: (fD l).length=0
   ·rw[adV h,adV h];exact⟨aT.aq,λ_=>rfl,by simp⟩
   ·rw[ada h,ada h];exact⟨⟨by simp,.inr ⟨H'.length,0,by omega,rfl,by simp⟩⟩,λq=>absurd q h,anZ _ _⟩
  refine dP l.length (λk e W=>(∃v,e 6=v/\aT N W v 2 eL ((fD (l.take k)).map aA)/\ ((fD l).length=0->v= .aq))/\H'<+:W/\e 25=V/\e 26= .int .i64 l.length/\e 27= .int .i64 k) 0 (by omega) ?_ ?_
  ·simp only[go_sem,simprocAttr];exact⟨⟨_,rfl,F.1,F.2.1⟩,F.2.2⟩
  rintro k hk e W ⟨⟨v,Z,r,f⟩,b,p,o,m⟩ n hn;simp only[bQ,F1,go_sem,simprocAttr,afg,Z,p,o,m];refine⟨λK=>?_,λK=>?_⟩
  ·have a:k<l.length:=by omega
   have j:=Rd.mono (ak:=none) (R _ (eo a)) b;have g: (Ai (l.getD k default))[0]?=some (l.getD k default).1:=rfl;have d:=j.eq;have w:=y k;have hzk:=P _ (eo a);have C:=Mf a;simp(disch:=omega) only[go_sem,simprocAttr,Z,s.ca,s.cD,g,d];generalize A8: (l.getD k default).2=rr at*;by_cases Q:rr=[]
   ·subst Q;rw[afZ]at C;rw[awk,awd r (by omega) (by rw[aer];unfold room;omega)];simp(disch:=omega) only[go_sem,simprocAttr,p,o,m];rw[C];exact⟨by omega,a,⟨v,rfl,r,f⟩,b⟩
   ·have J: ¬(fD l).length=0:=by
      intro q;have q2:fD l=[]:=ak2.1 q;have:fD l=fD (l.take (k+1))++fD (l.drop (k+1)):=by
       unfold fD;rw[<-al7,al5]
      rw[C]at this;rw[q2]at this;simp[Q]at this
    refine⟨by omega,?_⟩;refine o7 (bytes:=16) (ys:=rr.map aA) r b X (by omega) (by intro el d;obtain⟨x,_,rfl⟩:=afJ.1 d;rfl) (bB (λ_=>rfl) _) (by rw[aer,aer];unfold room;omega) λv' W2 E G=>?_
    simp(disch:=omega) only[go_sem,simprocAttr,p,o,m];rw[C,afI];exact⟨a,⟨v',rfl,E,λq=>absurd q J⟩,G⟩
  ·obtain rfl:k=l.length:=by omega
   rw[c]at r;have S:=r.DJ (lo:=lo) (by rw[bB (λ_=>rfl)];omega);rw[yB]at S;rw[S];refine dj ?_ (lv X λi hi=>?_)
   ·unfold ed;by_cases h: (fD l).length=0
    ·rw[f h,ak2.1 h];rfl
    ·have h1: (fD l).isEmpty=false:=by
       cases hq:fD l with
       |nil=>rw[hq]at h;exact absurd rfl h
       |cons=>rfl
     rw[h1];rcases r.2 with⟨_,q⟩| ⟨id,aj,_,rfl,_⟩
     ·rw[aqq]at q;rw[q]at h;exact absurd rfl h
     ·rfl
   ·obtain⟨L,rfl⟩:=b;rw[ac7 (by omega)]
def awf(x y:aD)(c:x.1+x.2<4294967296)(b:y.1+y.2<4294967296)(p:Nat)(H:List ae)(lo:oN)(d:H[p]?=some (.box (aA x) none)):
  D X0 (.fn (.func 222) [] [.ptr p 0]) [.agg (aA y)] ⟨H,lo⟩=some (.ret (.bool (holds y x)) ⟨H,lo⟩):=by
 refine eY Rl λN e=>?_
 have a: ∀L,(H++L)[p]?=some (.box (aA x) none):=λL=>bc d
 simp only[F1,go_sem,simprocAttr,Rl,e,a,agZ y x b c]
def awg(b:Rv v 2 (l.map aA))(d:l≠[]): ∃c,v= .sl (l.map aA) c:=by
 obtain⟨e,a,f⟩:=b ⟨[],none⟩;cases v<;>simp only[]at e
 ·simp only[Den.elems]at a;simp_all
 ·simp only[Den.elems]at a
  grind
 ·trivial
def awh(b: ∀el∈af,el.length=sz){c:Bool}(f:i<=af.length): ∃w,gu sz (.sl af c) none (some (.int .i64 i)) none=some w/\Rv w sz (af.take i):=by
 refine⟨.sl (af.take i) (c&&i==af.length),?_,.sl λel a=>b el (ahz a)⟩;have d:gr af.length none (some (.int .i64 i))=some (0,i):=by
  have e: (i:Int)<=af.length:=by omega
  simp[gr,lH,e]
 simp only[gu,d,lI]
 grind
def ajD(b: ∀el∈af,el.length=sz){c:Bool}(g:i<=af.length): ∃w,gu sz (.sl af c) (some (.int .i64 i)) none none=some w/\Rv w sz (af.drop i):=by
 refine⟨.sl (af.drop i) (c&&af.length==af.length),?_,.sl λel a=>b el (aoq a)⟩;have d:gr af.length (some (.int .i64 i)) none=some (i,af.length):=by
  have f: (i:Int)<=af.length:=by omega
  simp[gr,lH,f]
 have e:af.all (λel=>el.length==sz)=true:=by grind
 simp only[gu,d,lI];rw[adV e,ael (by simp)]
def ajE(l:List aD): ∀el∈l.map aA,el.length=2:=by intro el a;obtain⟨x,_,rfl⟩:=afJ.1 a;rfl
def Uj(v:AV)(l:List aD)(x:aD):AV:=match rm l x with
 |some a=>.ay [.agg [ed a],.bool true]
 |none=>.ay [.agg [v],.bool false]
def nF{E:AS}(h:Rd E v sz af):v.cq=false/\v.cells=[v]:=by
 have a:=h.kind;cases v<;>simp only[]at a<;>exact⟨rfl,rfl⟩
def awi(v:AV)(l:List aD)(E:Rv v 2 (l.map aA))(G:Ce l)(x:aD)(FN:x.1<4294967296)(Ta:x.2<4294967296)(H:List ae)(lo:oN):
  D XC (.fn (.func 213) [] []) [.agg [v],.int .i64 (x.1:Nat),.int .i64 (x.2:Nat)] ⟨H,lo⟩=some (.ret (Uj v l x) ⟨H,lo⟩):=by
 refine aH Fl λN p=>?_
 have hm:=λH lo=>c0 (S6 x FN Ta H lo)
 have hr:aA x=[.int .i64 (x.1:Nat),.int .i64 (x.2:Nat)]:=rfl;rw[hr]at hm;have F:v.refs=0:=cK E (bB (λ_=>rfl) l);unfold Uj;cases f:ld x with
 |false=>
  have e0:rm l x=none:=by unfold rm;rw[adV f]
  rw[e0];rw[f]at hm;simp only[F1,go_sem,simprocAttr,Fl,p,hm,F]
 |true=>
  rw[f]at hm;have hx:1<=x.2/\x.1+x.2<=64:=by simpa[ld]using f
  have d:=λH lo h=>c0 (agU v (.fn (.func 222) [] [.ptr (N+2) 0]) l E (by have:=G.1;omega) (λy=>holds y x) H lo h)
  have d:=d (H++[.box [v] none,.box [.aq] none,.box (aA x) none]) none (λy Z=>awf x y (by omega) (by have:=G.2 y Z;omega) (N+2) _ none (by rw[bA p];rfl));rw[hr]at d;have e1:rm l x=match l.findIdx? λy=>holds y x with
   |none=>none
   |some i=>some (l.take i++((if(l.getD i (0,0)).1<x.1 then[((l.getD i (0,0)).1,x.1- (l.getD i (0,0)).1)]else[])++(if x.1+x.2< (l.getD i (0,0)).1+(l.getD i (0,0)).2 then[(x.1+x.2,(l.getD i (0,0)).1+(l.getD i (0,0)).2- (x.1+x.2))]else[]))++l.drop (i+1)):=by
   unfold rm;rw[ada (by rw[f];simp)];rfl
  rw[e1];unfold kC at d;cases hi:l.findIdx? (λy=>holds y x)with
  |none=>
   rw[hi]at d;simp only at d;simp only[F1,go_sem,simprocAttr,Fl,p,hm,d,F]
  |some i=>
   rw[hi]at d;simp only at d⊢;have I:i<l.length:=by
    obtain⟨h,_⟩:=ass.1 hi;exact h
   have hi0: ¬((i:Nat):Int)<0:=by omega
   have Ba:=G.1;have Mg:=λl=>cK (mG l) (bB (g:=aA) (λ_=>rfl) l)
   have gy:l.getD i (0,0)=l.getD i default:=rfl;rw[gy];have hyb:=G.2 _ (eo I);have aCS:=E.ca (k:=.i64) (a:=i);obtain⟨c,hvc⟩:=awg E (by rintro rfl;simp at I);obtain⟨w1,s1,U⟩:=awh (c:=c) (ajE l) (i:=i) (by rw[aer];omega);obtain⟨R,s2,T⟩:=ajD (c:=c) (ajE l) (i:=i+1) (by rw[aer];omega);rw[<-hvc]at s1 s2;rw[<-List.map_take]at U;rw[<-List.map_drop]at T;generalize Z:l.getD i default=y at*;obtain⟨B,hB⟩: ∃B:List ae,B=[.box [v] none,.box [.aq] none,.box (aA x) none,.box (aA y) none]:=⟨_,rfl⟩;have O: (H++B).length=N+4:=by rw[hB];simp[p]
   have il: ∀W,(H++B)<+:W->W[N]?=some (.box [v] none)/\W[N+1]?=some (.box [.aq] none)/\W[N+2]?=some (.box (aA x) none)/\W[N+3]?=some (.box (aA y) none):=by
    rintro W ⟨L,rfl⟩;rw[hB,adW];refine⟨by rw[dv p];rfl,by rw[bA p];rfl,by rw[bA p];rfl,by rw[bA p];rfl⟩
   have Dx: (aA x)[0]?=some (.int .i64 x.1):=rfl;have wa: (aA y)[0]?=some (.int .i64 y.1):=rfl;have hex:=λH lo=>c0 (Cd x (by omega) H lo)
   have J:=λH lo=>c0 (Cd y (by omega) H lo)
   have tx:List.take 2 (aA x)=aA x:=rfl;have ty:List.take 2 (aA y)=aA y:=rfl;have dz: ∀r:aD,List.drop 2 (aA r)=[]:=λ_=>rfl
   have lx: ∀r:aD,(aA r).length=2:=λ_=>rfl
   have bl: ∀a b:Nat,[AV.int .i64 (a:Int),AV.int .i64 (b:Int)]=aA (a,b):=λ_ _=>rfl
   simp(disch:=omega) only[go_sem,simprocAttr,Fl,p,hm,d,hi0,E.ca,E.cD,Z,lx];refine⟨by omega,?_⟩;refine aaJ (λe W ak=>ak=none/\ (H++B)<+:W/\aT (N+4) W (e 12) 2 eL ((if y.1<x.1 then[(y.1,x.1-y.1)]else[]).map aA)/\e 3= .ptr N 0/\e 6= .ptr (N+1) 0/\e 8= .ptr (N+2) 0/\e 10= .int .i64 i/\e 11= .ptr (N+3) 0) ?_ ?_
   ·simp(disch:=omega) only[bQ,go_sem,simprocAttr];refine⟨λa=>?_,λa=>?_⟩
    ·have V: (x.1:Int)-y.1=((x.1-y.1:Nat):Int):=by omega
     simp only[go_sem,simprocAttr,V];refine o7 (N:=N+4) (H0:=H++B) (af:=[]) (bytes:=16) (ys:=[aA (y.1,x.1-y.1)]) aT.aq (by rw[hB];exact aqO) O (by omega) (by intro el t;rw[afD.1 t];rfl) rfl (by simp[room]) λv' W2 Y X=>?_
     simp only[go_sem,simprocAttr,HO];rw[adV (by omega)];exact⟨X,Y⟩
    ·simp only[go_sem,simprocAttr,HO];rw[ada (by omega)];exact⟨by rw[hB];exact aqO,aT.aq⟩
   ·rintro e W ak ⟨rfl,s,q,e3,e6,e8,n,m⟩;obtain⟨C,M⟩: ∃C,C=(if y.1<x.1 then[(y.1,x.1-y.1)]else[]):=⟨_,rfl⟩;have aCT:C.length<=1:=by rw[M];split<;>simp
    rw[<-M]at q⊢;obtain⟨g0,g1,g2,Q⟩:=il W s;simp only[go_sem,simprocAttr,g2,Q,e8,m,hex,J];refine aaJ (λe W ak=>ak=none/\ (H++B)<+:W/\aT (N+4) W (e 12) 2 eL ((C++(if x.1+x.2<y.1+y.2 then[(x.1+x.2,y.1+y.2- (x.1+x.2))]else[])).map aA)/\e 3= .ptr N 0/\e 6= .ptr (N+1) 0/\e 8= .ptr (N+2) 0/\e 10= .int .i64 i/\e 11= .ptr (N+3) 0) ?_ ?_
    ·simp only[bQ,go_sem,simprocAttr];refine⟨λa=>?_,λa=>?_⟩
     ·have V: (y.1:Int)+y.2- ((x.1:Int)+x.2)=((y.1+y.2- (x.1+x.2):Nat):Int):=by omega
      have q2: (x.1:Int)+x.2=((x.1+x.2:Nat):Int):=by omega
      simp(disch:=omega) only[go_sem,simprocAttr,g2,Q,e8,m,hex,J,V];rw[q2];refine o7 (H0:=H++B) (bytes:=16) (ys:=[aA (x.1+x.2,y.1+y.2- (x.1+x.2))]) q s O (by omega) (by intro el t;rw[afD.1 t];rfl) rfl (by rw[aer];simp[room];omega) λv' W2 Y X=>?_
      simp only[go_sem,simprocAttr,HO,e3,e6,e8,n,m];rw[adV (by omega),afI];exact⟨X,Y⟩
     ·simp only[go_sem,simprocAttr,HO,e3,e6,e8,n,m];rw[ada (by omega),afZ];exact⟨s,q⟩
    ·clear g0 g1 g2 Q s q e3 e6 e8 n m e W;rintro e W ak ⟨rfl,s,q,e3,e6,e8,n,m⟩;obtain⟨P,A⟩: ∃P,P=C++(if x.1+x.2<y.1+y.2 then[(x.1+x.2,y.1+y.2- (x.1+x.2))]else[]):=⟨_,rfl⟩;have aCU:P.length<=2:=by rw[A];split<;>simp<;>omega
     rw[<-A]at q;generalize hw:e 12=w at*;obtain⟨g0,g1,g2,Q⟩:=il W s;have u:=λlo=>awe [(w1,l.take i),(w,P),(R,l.drop (i+1))] (by simp) (by have:=G.1;simp;omega) W (by
      intro z hz;simp only[ag6,List.not_mem_nil,or_false]at hz;rcases hz with rfl|rfl|rfl
      ·exact U _
      ·exact q.rd
      ·exact T _) lo
     have K:fD [(w1,l.take i),(w,P),(R,l.drop (i+1))]=l.take i++(C++((if x.1+x.2<y.1+y.2 then[(x.1+x.2,y.1+y.2- (x.1+x.2))]else[])++l.drop (i+1))):=by simp[fD,A]
     rw[K]at u;generalize(l.take i++(C++((if x.1+x.2<y.1+y.2 then[(x.1+x.2,y.1+y.2- (x.1+x.2))]else[])++l.drop (i+1))))=LL at*;obtain⟨t7,t8⟩:=nF (mG LL ⟨[],none⟩);have oE:W.take N=H:=lv p λj hj=>by
      obtain⟨L,rfl⟩:=s;rw[adW,ac7 (by omega)]
     have uK: ∀o,(W.set (N+1) o).take N=H:=λo=>by rw[aqp (by omega),oE]
     simp only[al0,awk,Ai]at u;obtain⟨t1,t2⟩:=nF (U ⟨[],none⟩);obtain⟨t3,t4⟩:=nF (T ⟨[],none⟩);obtain⟨t5,t6⟩:=nF (q.rd (lo:=none));have S:gu 2 v (some (.int .i64 ((i:Int)+1))) none none=some R:=s2;simp(disch:=omega) only[F1,go_sem,simprocAttr,g0,g1,e3,e6,n,hw,s1,S,t1,t2,t3,t4,t5,t6,t7,t8,cO g1,uK,u,Mg]
abbrev xC(a b:aD):Prop:=a.1+a.2<b.1
structure eI(l:List aD):Prop where
 pw:l.Pairwise xC
 bd: ∀x∈l,1<=x.2/\x.1+x.2<=64
def eI.ok(h:eI l):Ce l:=by
 refine⟨?_,λx c=>(h.bd x c).2⟩;have f: (l.map (·.1)).Nodup:=by
  rw[avm,aAo];refine h.pw.imp λ {a b} d he=>?_
  omega
 have:=LV 64 _ f (by
  intro a e;obtain⟨x,c,rfl⟩:=afJ.1 e;have:=h.bd x c;omega)
 grind
def eI.nil:eI []:=⟨.nil,by simp⟩
def eI.app{a b:List aD}(e:eI a)(d:eI b)(c: ∀x∈a,∀y∈b,xC x y):eI (a++b):=
 ⟨anY.2 ⟨e.pw,d.pw,c⟩,λx f=>(aeq.1 f).elim (e.bd x) (d.bd x)⟩
def eI.one{x:aD}(c:1<=x.2)(b:x.1+x.2<=64):eI [x]:=⟨List.pairwise_singleton _ _,λy a=>by grind⟩
def awl: ∀ (l:List aD) (x:aD) (put:Bool) (out k:List aD),1<=x.2->x.1+x.2<=64->eI l->eI out->(∀a∈out,∀b∈l,xC a b)->(put=false-> ∀a∈out,xC a x)->(put=true-> ∀b∈l,xC x b)->
  iw x put out l=some k->eI k:=by
 intro l
 induction l with
 |nil=>
  intro x put out k s r _ ho _ p _ h;unfold iw at h;cases h;cases put with
  |true=>grind
  |false=>exact ho.app (eI.one s r) λa d b e=>by rw[afD.1 e];exact p rfl a d
 |cons y ys t=>
  intro x put out k s r A ho j p w h;have i:=aoh.1 A.pw;have g:eI ys:=⟨i.2,λz B=>A.bd z (afU _ B)⟩;have u:=A.bd y (ai4 ..);have m: ∀a∈out,xC a y:=λa d=>j a d y (ai4 ..)
  unfold iw at h;split at h
  ·rename_i c;refine t x put (out++[y]) k s r g (ho.app (eI.one u.1 u.2) λa d b e=>by rw[afD.1 e];exact m a d) ?_ ?_ (λq b e=>w q b (afU _ e)) h
   ·intro a d b e;rcases aeq.1 d with d|d
    ·exact j a d b (afU _ e)
    ·rw[afD.1 d];exact i.1 b e
   ·intro q a d;rcases aeq.1 d with d|d
    ·exact p q a d
    ·rw[afD.1 d];exact c
  ·split at h
   ·rename_i c;have v:eI (out++(if put then[]else[x])):=by
     cases put with
     |true=>simpa using ho
     |false=>
      refine ho.app (eI.one s r) λa d b e=>?_
      have:b=x:=by simpa using e
      rw[this];exact p rfl a d
    have o: ∀a∈out++(if put then[]else[x]),xC a y:=by
     intro a d;rcases aeq.1 d with d|d
     ·exact m a d
     ·cases put with
      |true=>simp at d
      |false=>
       have:a=x:=by simpa using d
       rw[this];exact c
    refine t x true (out++(if put then[]else[x])++[y]) k s r g (v.app (eI.one u.1 u.2) λa d b e=>by rw[afD.1 e];exact o a d) ?_ (λq=>by cases q) ?_ h
    ·intro a d b e;have n:xC y b:=i.1 b e;rcases aeq.1 d with d|d
     ·have:=o a d;have D:y.1+y.2<b.1:=n;have C:a.1+a.2<y.1:=this;show a.1+a.2<b.1;omega
     ·rw[afD.1 d];exact n
    ·intro _ b e;have D:y.1+y.2<b.1:=i.1 b e;have C:x.1+x.2<y.1:=c;show x.1+x.2<b.1;omega
   ·split at h
    ·rename_i G F E;have f:put=false:=by
      cases put with
      |false=>rfl
      |true=>
       have:x.1+x.2<y.1:=w rfl y (ai4 ..);omega
     refine t (y.1,y.2+x.2) put out k (by show 1<=y.2+x.2;omega) (by show y.1+(y.2+x.2)<=64;omega) g ho (λa d b e=>j a d b (afU _ e)) (λ_ a d=>m a d) (λq=>by rw[f]at q;cases q) h
    ·split at h
     ·rename_i G F E H;have f:put=false:=by
       cases put with
       |false=>rfl
       |true=>
        have:x.1+x.2<y.1:=w rfl y (ai4 ..);omega
      refine t (x.1,x.2+y.2) put out k (by show 1<=x.2+y.2;omega) (by show x.1+(x.2+y.2)<=64;omega) g ho (λa d b e=>j a d b (afU _ e)) (λq a d=>p q a d) (λq=>by rw[f]at q;cases q) h
     ·cases h
theorem eI.iT{a:List aD}{x:aD}(h:eI l)(b:iT l x=some a):eI a:=by
 unfold Go.Proofs.YtcdeobefbpnfeaaGreatDoor.iT at b;split at b
 ·rename_i hm;have c:1<=x.2/\x.1+x.2<=64:=by simpa[ld]using hm
  exact awl l x false [] a c.1 c.2 h eI.nil (by simp) (λ_=>by simp) (λq=>by cases q) b
 grind
theorem eI.take{s:List aD}{x:aD}(h:eI l)(j:rm l x=some s):eI s:=by
 unfold rm at j;split at j
 ·cases j
 rename_i hm;have J:1<=x.2/\x.1+x.2<=64:=by simpa[ld]using hm
 split at j
 ·cases j
 rename_i i E;cases j;obtain⟨m,g,_⟩:=ass.1 E;have p:l.getD i (0,0)=l[i]:=by simp[afK,adR m]
 rw[p];have d:l=l.take i++(l[i]::l.drop (i+1)):=by rw[<-an1 m,al5]
 generalize I:l[i]=y at*;generalize l.take i=A at*;generalize l.drop (i+1)=B at*;have k:=h.pw;have e:=h.bd;rw[d]at k e;obtain⟨w,v,r⟩:=anY.1 k;obtain⟨u,t⟩:=aoh.1 v;have C:=e y (by simp);have F:x=y\/ (y.1<=x.1/\x.1+x.2<=y.1+y.2):=by simpa using g
 have D:y.1<=x.1/\x.1+x.2<=y.1+y.2:=by
  rcases F with rfl|q
  ·exact⟨aen _,aen _⟩
  ·exact q
 have H:eI A:=⟨w,λz o=>e z (by simp[o])⟩;have hB:eI B:=⟨t,λz o=>e z (by simp[o])⟩;have G:eI ((if y.1<x.1 then[(y.1,x.1-y.1)]else[])++(if x.1+x.2<y.1+y.2 then[(x.1+x.2,y.1+y.2- (x.1+x.2))]else[])):=by
  refine eI.app ?_ ?_ ?_
  ·split
   ·exact eI.one (by show 1<=x.1-y.1;omega) (by show y.1+(x.1-y.1)<=64;omega)
   ·exact eI.nil
  ·split
   ·exact eI.one (by show 1<=y.1+y.2- (x.1+x.2);omega) (by show x.1+x.2+(y.1+y.2- (x.1+x.2))<=64;omega)
   ·exact eI.nil
  ·intro a c b f;split at c<;>split at f<;>simp at c f;rw[c,f];show y.1+(x.1-y.1)<x.1+x.2;omega
 have n: ∀a∈((if y.1<x.1 then[(y.1,x.1-y.1)]else[])++(if x.1+x.2<y.1+y.2 then[(x.1+x.2,y.1+y.2- (x.1+x.2))]else[])),y.1<=a.1/\a.1+a.2<=y.1+y.2:=by
  intro a c;rcases aeq.1 c with c|c
  ·split at c
   ·rw[afD.1 c];exact⟨aen _,by show y.1+(x.1-y.1)<=_;omega⟩
   ·cases c
  ·split at c
   ·rw[afD.1 c];exact⟨by show y.1<=x.1+x.2;omega,by show x.1+x.2+(y.1+y.2- (x.1+x.2))<=_;omega⟩
   ·cases c
 refine(H.app G λa c b f=>?_).app hB λa c b f=>?_
 ·have L:a.1+a.2<y.1:=r a c y (by simp);have:=n b f;show a.1+a.2<b.1;omega
 ·have K:y.1+y.2<b.1:=u b f;rcases aeq.1 c with c|c
  ·exact r a c b (by simp[f])
  ·have:=n a c;show a.1+a.2<b.1;omega
def qf(f:Nat->Nat):lA:=arr 32 λj=>[.int .u8 (f j)]
theorem Uk(f:Nat->Nat): (qf f).length=32:=by rfl
def nG(p:cT):AV:=if p.free.isEmpty then .aq else .sl (p.free.map aA) p.cH
def xD(p:cT):Rv (nG p) 2 (p.free.map aA):=by
 unfold nG;split
 ·rename_i h;rw[aAT.1 h];exact .aq
 ·exact .sl (by intro el h;obtain⟨x,_,rfl⟩:=afJ.1 h;rfl)
def cg(p:cT):lA:=[.int .i64 p.n,nG p]++arr 64 λi=>qf (p.bytes i)
def xE(p:cT): (cg p).length=2050:=by
 unfold cg;rw[aem,zr (k:=32) (λi=>Uk (p.bytes i))];rfl
structure fZ(p:cT):Prop where
 n:p.n<=64
 free:eI p.free
 bytes: ∀i j,p.bytes i j<256
theorem Ul{p:cT}:Den.part false 1 (cg p) 0=some (.int .i64 p.n):=rfl
def xF{p:cT}:Den.part true 1 (cg p) 1=some (.agg [nG p]):=by
 unfold cg;rw[l7 (by simp) (by omega)];rfl
def awm{p:cT}{j:Nat}(b:i<64)(a:j<32):Den.part false 1 (cg p) (2+i*32+j)=some (.int .u8 (p.bytes i j)):=by
 unfold cg;rw[jg (by grind),show 2+i*32+j- [AV.int .i64 p.n,nG p].length=i*32+j by grind,jF (k:=32) (f:=λi=>qf (p.bytes i)) (λi=>Uk _) b (by omega) (by omega)];have:=jF (ag:=false) (m:=1) (n:=32) (k:=1) (i:=j) (o:=0) (f:=λj=>[AV.int .u8 (p.bytes i j)]) (λ_=>rfl) a (by omega) (by omega);rw[Nat.mul_one,afM]at this;exact this
theorem ajF{p:cT}{l:List aD}:aK (cg p) 1 [ed l]=cg {p with free:=l,cH:=false}:=by rfl
theorem ajG{p:cT}:aK (cg p) 1 [nG p]=cg p:=by rfl
def ajH{p:cT}{o:Nat}{vs:lA}{f:Nat->Nat}(a:i<64)(ho:o+vs.length<=32)(b:aK (qf (p.bytes i)) o vs=qf f):aK (cg p) (2+i*32+o) vs=cg {p with bytes:=av p.bytes i f}:=by
 unfold cg;rw[fo (by grind),show 2+i*32+o- [AV.int .i64 p.n,nG p].length=i*32+o by grind,l8 (k:=32) (f:=λi=>qf (p.bytes i)) (λi=>Uk _) a ho,b,ou qf];rfl
def awn{p:cT}{j v:Nat}(b:i<64)(a:j<32):aK (cg p) (2+i*32+j) [.int .u8 v]=cg {p with bytes:=av p.bytes i (av (p.bytes i) j v)}:=by
 refine ajH b (by grind) ?_;unfold qf;have:=l8 (n:=32) (k:=1) (i:=j) (o:=0) (vs:=[AV.int .u8 v]) (f:=λj=>[AV.int .u8 (p.bytes i j)]) (λ_=>rfl) a (by simp);rw[Nat.mul_one,afM]at this;rw[this];have e:aK [AV.int .u8 (p.bytes i j)] 0 [AV.int .u8 v]=[AV.int .u8 v]:=rfl;rw[e,ou (λx:Nat=>[AV.int .u8 x])]
def awo{p:cT}{H:List ae}(a:i<64)(h:H[q]?=some (.box (cg p) none)):
  rU ⟨H,lo⟩ [.int .u8 0] (.fj q 1 (2+i*32) 32)=some ⟨H.set q (.box (cg {p with bytes:=av p.bytes i λ_=>0}) none),lo⟩:=by
 have e:aK (cg p) (2+i*32) (List.replicate 32 [AV.int .u8 0]).flatten=cg {p with bytes:=av p.bytes i λ_=>0}:=by
  have:=ajH (p:=p) (i:=i) (o:=0) (vs:=(List.replicate 32 [AV.int .u8 0]).flatten) (f:=λ_=>0) a (by decide) (by rfl);omega
 simp only[rU,h,AS.set];rw[adV ⟨rfl,by rw[xE];omega,rfl⟩,e];simp
def ajI{X:Ctx}{n id off:Nat}:qt X n sz (.ptr id off) none none=some (.fj id sz off n):=by
 simp[qt,gr,lH]
def awp{p:cT}{H:List ae}(c:i<64)(h:H[q]?=some (.box (cg p) none))(lo:oN):
  D X0 (.fn (.func 214) [] []) [.ptr q (2+i*32)] ⟨H,lo⟩=some (.ret (.ay []) ⟨H.set q (.box (cg {p with bytes:=av p.bytes i λ_=>0}) none),lo⟩):=by
 refine aH Rf λN d=>?_
 have b:=λlo=>awo (lo:=lo) c h
 have a: ∀o,(H.set q o).take N=H.set q o:=λo=>ael (by grind)
 simp only[F1,go_sem,simprocAttr,Rf,ajI,b,a]
theorem vJ{o:Nat}:dE .ptr (.ptr q o) .dD=some false:=rfl
def Um{p:cT}(k:fZ p){H:List ae}(m:i<2147483648)(h:H[q]?=some (.box (cg p) none)){fv:AV}{H':List ae}(r:H'.length=H.length)
  (n:gE p i=0->i<64->D X0 fv [.ptr q (2+i*32)] ⟨H,none⟩=some (.ret (.ay []) ⟨H',none⟩)) (lo:oN):
  D X0 (.fn (.func 140) [] []) [.ptr q 0,.int .i64 i,fv] ⟨H,lo⟩=some (.ret (.int .i64 (gE p i)) ⟨if gE p i=0 then H' else H,lo⟩):=by
 have ho:Old q H (.box (cg p) none):=⟨h⟩;refine aH Fb λN s=>?_
 have o:=k.n;have c: ¬((i:Nat):Int)<0:=by omega
 have a:=asd (nG p) p.free (xD _) k.free.ok i m;have f:Ld p.free i=S2 p.free i:=rfl;rw[f]at a;by_cases l:p.n<=i
 ·have b: (i:Int)>=p.n:=by omega
  have d:gE p i=2:=by unfold gE;grind
  rw[d];simp(disch:=omega) only[F1,go_sem,simprocAttr,Fb,vJ,c,h,↓Ul,b]
 ·have b: ¬(i:Int)>=p.n:=by omega
  cases g:S2 p.free i with
  |true=>
   rw[g]at a;have d:gE p i=12:=by unfold gE;rw[ada l,adV g]
   rw[d];simp(disch:=omega) only[F1,go_sem,simprocAttr,Fb,vJ,c,h,↓Ul,↓xF,b,a]
  |false=>
   rw[g]at a;have d:gE p i=0:=by unfold gE;rw[ada l,g];rfl
   rw[d];have j:=n d (by omega);have e: (0:Int)<=i/\ (i:Int)<64:=by omega
   simp(disch:=omega) only[F1,go_sem,simprocAttr,Fb,vJ,c,h,↓Ul,↓xF,b,a,e,j]
theorem Gd{E:AS}{o:Nat}:nV E (.ptr i o) tg=some (.ptr E.heap.length 0,E.push (.box [.ptr i o] tg)):=rfl
theorem ajJ{E:AS}{f:Fn}{bs cs:lA}:nV E (.fn f bs cs) tg=some (.ptr E.heap.length 0,E.push (.box [.fn f bs cs] tg)):=rfl
theorem ajK(n:Nat): ((n:Nat):Int).tdiv 32=((n/32:Nat):Int):=by rfl
theorem awq(n:Nat): ((n:Nat):Int).tmod 32=((n % 32:Nat):Int):=by rfl
section
variable{p:cT}(hp:fZ p){i q:Nat}{H:List ae}(h:H[q]?=some (.box (cg p) none))(lo:oN)
include hp h
theorem awr(e:i<2147483648):D X0 (.fn (.func 192) [] []) [.ptr q 0,.int .i64 i] ⟨H,lo⟩=some (.ret (.int .i64 (gE p i)) ⟨H.set q (.box (cg (rn p i)) none),lo⟩):=by
 have ho:Old q H (.box (cg p) none):=⟨h⟩;refine aH Ki λN g=>?_
 have a:=λlo=>Um hp e h (fv:=.fn (.func 214) [] []) (H':=H.set q (.box (cg (rn p i)) none)) (by simp) (λd c=>by
  rw[awp c h];unfold rn;grind) lo
 have b: ∀o,(H.set q o).take N=H.set q o:=λo=>ael (by grind)
 by_cases d:gE p i=0
 ·rw[d]at a;simp only[F1,go_sem,simprocAttr,Ki,a,b]
  grind
 ·simp only[ada d]at a;have f:rn p i=p:=by unfold rn;grind
  rw[f,qb h];simp(disch:=omega) only[F1,go_sem,simprocAttr,Ki,a]
theorem aws(t:i<64){a b:Nat}(r:H[a]?=some (.box [.ptr q 0] none))(n:H[b]?=some (.box [.int .i64 i] none))(v:AV):
  D X0 (.fn (.func 141) [] [.ptr a 0,.ptr b 0]) [v] ⟨H,lo⟩=some (.ret (.ay []) ⟨H.set q (.box (cg (K8 p i)) none),lo⟩):=by
 refine eY J7 λN s=>?_
 have f: ∀H lo,D X0 (.fn (.func 142) [] []) [.agg [nG p],.int .i64 i,.int .i64 1] ⟨H,lo⟩=some (.ret (p7 (nG p) p.free (i,1)) ⟨H,lo⟩):=λH lo=>ag5 (nG p) p.free (xD _) hp.free.ok (i,1) (by omega) (by simp) H lo
 have c: ∀o,(H.set q o).take N=H.set q o:=λo=>ael (by grind)
 unfold p7 at f;have j:= @ajF p;have d:= @ajG p;have k:=λl=>cK (mG l) (bB (g:=aA) (λ_=>rfl) l)
 have m:=cK (xD p) (bB (g:=aA) (λ_=>rfl) _);unfold K8;cases e:iT p.free (i,1)with
 |some l=>
  simp only[e]at f⊢;simp only[F1,go_sem,simprocAttr,J7,s,r,n,h,↓xF,f,j,c,xE,k]
 |none=>
  simp only[e]at f⊢;simp only[F1,go_sem,simprocAttr,J7,s,r,n,h,↓xF,f,d,c,xE,m]
theorem awt(g:i<2147483648):D X0 (.fn (.func 99) [] []) [.ptr q 0,.int .i64 i] ⟨H,lo⟩=some (.ret (.int .i64 (gE p i)) ⟨H.set q (.box (cg (rp p i)) none),lo⟩):=by
 have ho:Old q H (.box (cg p) none):=⟨h⟩;refine aH JZ λN e=>?_
 have f:q<N:=by grind
 obtain⟨B,hB⟩: ∃B:List ae,B=[.box [.ptr q 0] none,.box [.int .i64 i] none]:=⟨_,rfl⟩;have a:=λlo=>Um hp g (bc (L:=B) h) (fv:=.fn (.func 141) [] [.ptr N 0,.ptr (N+1) 0]) (H':=(H++B).set q (.box (cg (rp p i)) none)) (by simp) (λc d=>by
  rw[aws hp (bc (L:=B) h) none d (by grind) (by grind)];unfold rp;grind) lo
 have b: ∀o,((H++B).set q o).take N=H.set q o:=λo=>by grind
 rw[hB]at a b;by_cases c:gE p i=0
 ·rw[c]at a;simp only[af1]at a;simp only[F1,go_sem,simprocAttr,JZ,Gd,e,a,b];rw[c];rfl
 ·simp only[ada c]at a;have j:rp p i=p:=by unfold rp;rw[ada c]
  rw[j,qb h];simp only[F1,go_sem,simprocAttr,JZ,Gd,e,a]
theorem ajL{at':Nat}(r:at'<68719476736){f:Fn}{cs:lA}{H':List ae}(o:H'.length=H.length)
  (m: ∀L,gE p (at'/32)=0->at'/32<64->D X0 (.fn f [] cs) [.ptr q (2+at'/32*32+at' % 32)] ⟨H++L,none⟩=some (.ret (.ay []) ⟨H'++L,none⟩)):
  D X0 (.fn (.func 217) [] []) [.ptr q 0,.int .i64 at',.fn f [] cs] ⟨H,lo⟩=some (.ret (.int .i64 (gE p (at'/32))) ⟨if gE p (at'/32)=0 then H' else H,lo⟩):=by
 have ho:Old q H (.box (cg p) none):=⟨h⟩;refine aH Ks λN g=>?_
 have l:q<N:=by rw[<-g];exact ho.lt
 have n:H'.length=N:=by omega
 have e:gE p (at'/32)=0->at'/32<64->D X0 (.fn (.func 225) [] [.ptr (N+1) 0,.ptr N 0]) [.ptr q (2+at'/32*32)] ⟨H++[.box [.int .i64 at'] none,.box [.fn f [] cs] none],none⟩=some (.ret (.ay []) ⟨H'++[.box [.int .i64 at'] none,.box [.fn f [] cs] none],none⟩):=by
  intro b j;refine eY Ro λM k=>?_
  have d:=m [.box [.int .i64 at'] none,.box [.fn f [] cs] none] b j;simp(disch:=omega) only[F1,go_sem,simprocAttr,Ro,awq,k,d];exact⟨by omega,dj rfl (ael (by simp at k⊢;omega))⟩
 have a:=λlo=>Um hp (i:=at'/32) (by omega) (bc (L:=[.box [.int .i64 at'] none,.box [.fn f [] cs] none]) h) (H':=H'++[.box [.int .i64 at'] none,.box [.fn f [] cs] none]) (by simp;omega) e lo
 have c: ¬((at':Nat):Int)<0:=by omega
 by_cases b:gE p (at'/32)=0
 ·rw[b]at a;simp only[af1]at a;simp(disch:=omega) only[F1,go_sem,simprocAttr,Ks,ajJ,vJ,ajK,g,c,a];rw[b,adV rfl];rfl
 ·simp only[ada b]at a;simp(disch:=omega) only[F1,go_sem,simprocAttr,Ks,ajJ,vJ,ajK,g,c,a];rw[ada b]
theorem awu{at':Nat}(k:at'<68719476736):D X0 (.fn (.func 198) [] []) [.ptr q 0,.int .i64 at'] ⟨H,lo⟩=some (.ret (.ay [.int .u8 (sV p at'),.int .i64 (gE p (at'/32))]) ⟨H,lo⟩):=by
 have ho:Old q H (.box (cg p) none):=⟨h⟩;refine aH Kk λN d=>?_
 have g:q<N:=by grind
 have a:=λlo=>ajL hp (bc (L:=[.box [.int .u8 0] none]) h) lo k (f:=.func 219) (cs:=[.ptr N 0]) (H':=H++[.box [.int .u8 (p.bytes (at'/32) (at' % 32))] none]) (by simp) (λL c b=>by
  refine eY Ri λM l=>?_
  have j: ∀L,(H++L)[q]?=some (.box (cg p) none):=λL=>bc h
  have e:=awm (p:=p) b (show at' % 32<32 by omega);simp(disch:=omega) only[F1,go_sem,simprocAttr,Ri,j,↓e];exact dj rfl (ael (by simp at l⊢;omega)))
 unfold sV;by_cases c:gE p (at'/32)=0
 ·rw[c]at a⊢;simp only[af1]at a⊢;simp only[F1,go_sem,simprocAttr,Kk,d,a,o9]
 ·simp only[ada c]at a⊢;simp only[F1,go_sem,simprocAttr,Kk,d,a,o9]
theorem awv{at' b:Nat}(m:at'<68719476736):D X0 (.fn (.func 196) [] []) [.ptr q 0,.int .i64 at',.int .u8 b] ⟨H,lo⟩=some (.ret (.int .i64 (gE p (at'/32))) ⟨H.set q (.box (cg (vx p at' b)) none),lo⟩):=by
 have ho:Old q H (.box (cg p) none):=⟨h⟩;refine aH Kj λN d=>?_
 have k:q<N:=by grind
 have a:=λlo=>ajL hp (bc (L:=[.box [.int .u8 b] none]) h) lo m (f:=.func 218) (cs:=[.ptr N 0]) (H':=(H++[ae.box [.int .u8 b] none]).set q (.box (cg {p with bytes:=av p.bytes (at'/32) (av (p.bytes (at'/32)) (at' % 32) b)}) none)) (by simp) (λL g e=>by
  refine eY Rh λM n=>?_
  have l: ∀L,(H++L)[q]?=some (.box (cg p) none):=λL=>bc h
  have j:=awn (p:=p) (v:=b) e (show at' % 32<32 by omega);simp(disch:=omega) only[F1,go_sem,simprocAttr,Rh,l,j,xE]
  grind)
 unfold vx;have c: ∀L o,((H++L).set q o).take N=H.set q o:=λL o=>by
  rw[aqU _ _ (by omega),kb (by simp[d])]
 by_cases g:gE p (at'/32)=0
 ·rw[g]at a⊢;simp only[af1]at a⊢;simp only[F1,go_sem,simprocAttr,Kj,d,a,c]
 ·simp only[ada g]at a⊢;rw[qb h];simp only[F1,go_sem,simprocAttr,Kj,d,a]
theorem aww{n:Nat}(w:n<=1024):D XC (.fn (.func 191) [] []) [.ptr q 0,.int .i64 n] ⟨H,lo⟩=some (.ret (.ay [.int .i64 (jH p n).2.1,.int .i64 (jH p n).2.2]) ⟨H.set q (.box (cg (jH p n).1) none),lo⟩):=by
 have ho:Old q H (.box (cg p) none):=⟨h⟩;refine aH BU λN y=>?_
 have u:q<N:=by grind
 have k:=λl=>cK (mG l) (bB (g:=aA) (λ_=>rfl) l)
 have j:= @ajF p;have e:= @ajG p;have m:=cK (xD p) (bB (g:=aA) (λ_=>rfl) _);have c: ∀o,(H.set q o).take N=H.set q o:=λo=>ael (by grind)
 by_cases s:n<1
 ·have a: ((n:Nat):Int)<1:=by omega
  have v:jH p n=(p,0,2):=by unfold jH;rw[adV s]
  rw[v,qb h];simp(disch:=omega) only[F1,go_sem,simprocAttr,BU,vJ,a]
 ·have a: ¬((n:Nat):Int)<1:=by omega
  have b:=λH lo=>c0 (asg (nG p) p.free (xD _) hp.free.ok n H lo)
  unfold Le at b;have e1:jH p n=match p.free.find? (fits n)with
   |none=>(p,0,6)
   |some x=>(match rm p.free (x.1,n)with|some l=>{p with free:=l,cH:=false}|none=>p,x.1,0):=by unfold jH;rw[ada s];rfl
  rw[e1];cases f:p.free.find? (fits n)with
  |none=>
   simp only[f]at b⊢;rw[qb h];simp(disch:=omega) only[F1,go_sem,simprocAttr,BU,vJ,a,h,↓xF,b]
  |some x=>
   simp only[f]at b⊢;have t:=hp.free.bd x (aqV f);have d:=λH lo=>awi (nG p) p.free (xD _) hp.free.ok (x.1,n) (by simp;omega) (by simp;omega) H lo
   unfold Uj at d;cases r:rm p.free (x.1,n)with
   |none=>
    simp only[r]at d⊢;simp only[F1,go_sem,simprocAttr,BU,vJ,a,h,↓xF,b,d,e,c,xE,m]
   |some l=>
    simp only[r]at d⊢;simp only[F1,go_sem,simprocAttr,BU,vJ,a,h,↓xF,b,d,j,c,xE,k]
end
def kE(a:Nat):Prop:= ∀E,jv XA.fU E .int .ds (.lG uR) (.int .u8 a) true=some (match rI a with|some f=>.ay [.fn (.func f) [] [],.bool true]|none=>.ay [.ds,.bool false])
theorem rK{r:bF}:aI (bG r)=0:=rfl
def ajM(s:bu)(g:bf s)(aa:Nat)(f:aa<4294967296)(c:cx)(i:iH c)(k:kE c.op)(H:List ae)(lo:oN):
  D XC (.fn (.func 111) [] []) [.agg (bo s),.int .i64 aa,.agg (bp c)] ⟨H,lo⟩=some (.ret (.int .i64 (oB s aa c)) ⟨H,lo⟩):=by
 refine aH J4 λN j=>?_
 have h:=λH lo=>cB (Ue s g aa f c i k H lo)
 unfold oB;by_cases l:0<fa s aa c
 ·have a: ((fa s aa c:Nat):Int)>0:=by omega
  rw[adV l];simp only[F1,go_sem,simprocAttr,J4,j,DZ,h,a]
 ·have a: ¬((fa s aa c:Nat):Int)>0:=by omega
  rw[ada l];obtain⟨v,d1,d2⟩:=Ud s g aa f c i (0,0) ⟨show 0<4294967296 by omega,show 0<4294967296 by omega⟩ k (H++[.box (bo s) none,.box (bp c) none]) none;have d1:=cB d1;have b:aA (0,0)=[.int .i64 0,.int .i64 0]:=rfl;rw[b]at d1;generalize dx s aa c (0,0)=d at*;have e: (bG d.2.1)[0]?=some (.int .i64 d.2.1.e):=rfl;simp only[F1,go_sem,simprocAttr,J4,j,DZ,h,a,d1,e,mF,rK]
def ajN(s:bu)(f:bf s)(aa:Nat)(e:aa<4294967296)(c:cx)(h:iH c)(i:kE c.op)(H:List ae)(lo:oN):
  D XC (.fn (.func 75) [] []) [.agg (bo s),.int .i64 aa,.agg (bp c)] ⟨H,lo⟩=some (.ret (.bool (B9 s aa c)) ⟨H,lo⟩):=by
 refine aH JU λN b=>?_
 have g:=ajM s f aa e c h i;unfold B9;by_cases d:c.op=15
 ·have a: (c.op:Int)=15:=by omega
  have j:decide (oB s aa c=10)=decide (((oB s aa c:Nat):Int)=10):=afS.2 (by omega);rw[ad0 d,al1,j];simp only[F1,go_sem,simprocAttr,JU,b,DZ,gn,a,g]
 ·have a: ¬(c.op:Int)=15:=by omega
  rw[adZ d,ahj];simp only[F1,go_sem,simprocAttr,JU,b,gn,a]
def Ge(s:bu)(h:Nat):AV:=if s.T.au h then .sl [hC h] true else .aq
def ajO(s:bu)(g:bf s)(h:Nat)(f:h<4294967296)(H:List ae)(lo:oN):
  D XC (.fn (.func 206) [] []) [.agg (bo s),.int .u32 h] ⟨H,lo⟩=some (.ret (Ge s h) ⟨H,lo⟩):=by
 refine aH Kl λN d=>?_
 have b:=λH lo=>c0 (eH s.T.b h f H lo)
 have c:au s.T.b h=s.T.au h:=rfl;rw[c]at b;unfold Ge;have a:Den.part true 96 (bo s) 0=some (.agg (bX s.T.b)):=by rfl
 cases e:s.T.au h with
 |true=>
  rw[e]at b;simp only[F1,go_sem,simprocAttr,Kl,d,↓a,b];rfl
 |false=>
  rw[e]at b;simp only[F1,go_sem,simprocAttr,Kl,d,↓a,b]
def Aj(s:bu)(h:Nat):Rv (Ge s h) 1 ((oC s h).map hC):=by
 unfold Ge oC;split
 ·exact .sl (by intro el a;rw[afD.1 a];rfl)
 ·exact .aq
def awx(l:lN)(p:l.length<2147483648)(v:AV)(H:List ae)(b:Rd ⟨H,none⟩ v 1 (l.map hC))(x:Nat)(lo:oN):
  D X0 (.fn (.func 221) [] []) [v,.int .u32 x] ⟨H,lo⟩=some (.ret (.int .i64 (kC (λy=>decide (y=x)) l)) ⟨H,lo⟩):=by
 refine aH Rk λN t=>?_
 simp only[go_sem,simprocAttr,Rk,b.bN];refine dP l.length (λk e H'=>H'=H/\ (∀j,j<k->decide (l.getD j default=x)=false)/\e 0=v/\e 1= .int .u32 x/\e 7= .int .i64 l.length/\e 8= .int .i64 k) 0 (by omega) ?_ ?_
 ·simp only[go_sem,simprocAttr];omega
 rintro k r e H' ⟨rfl,f,n,i,h,g⟩ m hm;simp(disch:=omega) only[bQ,F1,go_sem,simprocAttr,aff,n,i,h,g];refine⟨λo=>?_,λo=>?_⟩
 ·have c:k<l.length:=by omega
  have d: ∀y,(hC y)[0]?=some (.int .u32 y):=λ_=>rfl
  by_cases e1:l.getD k default=x
  ·have a: ((x:Nat):Int)=(l.getD k default:Nat):=by omega
   simp(disch:=omega) only[F1,go_sem,simprocAttr,b.ca,b.cD,d,a];rw[zS c f (ad0 e1)];exact⟨by omega,rfl⟩
  ·have a: ¬((x:Nat):Int)=(l.getD k default:Nat):=by omega
   simp(disch:=omega) only[go_sem,simprocAttr,n,i,h,g,b.ca,b.cD,d,a];refine⟨by omega,c,λj s=>?_⟩;rcases(show j<k\/j=k by omega)with q|rfl
   ·exact f j q
   ·exact adZ e1
 ·obtain rfl:k=l.length:=by omega
  rw[zT f]
def awy(l:lN)(b:l.length<2147483648)(v:AV)(H:List ae)(a:Rd ⟨H,none⟩ v 1 (l.map hC))(x:Nat)(lo:oN):
  D X0 (.fn (.func 209) [] []) [v,.int .u32 x] ⟨H,lo⟩=some (.ret (.bool (l.contains x)) ⟨H,lo⟩):=by
 refine aH Rc λN c=>?_
 simp(disch:=omega) only[F1,go_sem,simprocAttr,Rc,awx l b v H a x none,zR]
 grind
section
variable{s:bu}(hs:bf s){c:cx}(hc:iH c){a b:Nat}{H:List ae}(ha:H[a]?=some (.box (bo s) none))(hb:H[b]?=some (.box (bp c) none))(lo:oN)
include hs hc ha hb
theorem ajP:D XC (.fn (.func 205) [] [.ptr a 0,.ptr b 0]) [] ⟨H,lo⟩=some (.ret (Ge s c.r) ⟨H,lo⟩):=by
 refine eY Rb λN e=>?_
 have d:=cK (Aj s c.r) (bB (λ_=>rfl) _);simp(disch:=omega) only[F1,go_sem,simprocAttr,Rb,ha,hb,↓SL,gn,ajO s hs c.r hc.r,d]
theorem awz{u:Nat}(p:H[u]?=some (.box [.fn (.func 207) [] [.ptr a 0,.ptr b 0]] none)):
  ∃v,D XC (.fn (.func 208) [] [.ptr u 0,.ptr a 0,.ptr b 0]) [] ⟨H,lo⟩=some (.ret v ⟨H,lo⟩)/\Rv v 1 ((if under s.T c.r=[]\/s.T.au c.s=false then[]else if(under s.T c.r).contains c.s then under s.T c.r else under s.T c.r++[c.s]).map hC):=by
 suffices E: ∃o,D XC (.fn (.func 208) [] [.ptr u 0,.ptr a 0,.ptr b 0]) [] ⟨H,lo⟩=some o/\ (λo=> ∃v,o=aX.ret v ⟨H,lo⟩/\Rv v 1 ((if under s.T c.r=[]\/s.T.au c.s=false then[]else if(under s.T c.r).contains c.s then under s.T c.r else under s.T c.r++[c.s]).map hC)) o by
  obtain⟨o,M,v,rfl,K⟩:=E;exact⟨v,M,K⟩
 refine s8 BV rfl rfl rfl λN q=>?_
 obtain⟨v,J,ak,g1,g2,O⟩:=Ui hs hc ha hb N q none;have e:=λH lo=>c0 (eH s.T.b c.s hc.s H lo)
 have z:au s.T.b c.s=s.T.au c.s:=rfl;rw[z]at e;have k:Den.part true 96 (bo s) 0=some (.agg (bX s.T.b)):=by rw[<-vD (x:=⟨s,0,mN,(0,0),0,false,[]⟩) (bk:=.aq) (by omega) (by omega)];exact TN
 have F:=zY hs.tr c.r;have G:=jJ g2 ak;have d:=G.bN;have w:=λL=>bc (L:=L) ha
 have t:=λL=>bc (L:=L) hb
 have h:=λlo=>c0 (awy (under s.T c.r) (by omega) v (H++J) (jJ g2 none) c.s lo)
 have f:en N ak:=en.of O;have j: (H++J).take N=H:=by rw[<-q];simp
 have y:=bB (g:=hC) (λ_=>rfl) (under s.T c.r);by_cases r:under s.T c.r=[]
 ·have n: ((under s.T c.r).length:Int)=0:=by rw[r];rfl
  rw[adV (.inl r)];simp only[go_sem,simprocAttr,BV,p,g1,d,n];rw[iF f (aep _),j];exact⟨_,rfl,.aq⟩
 ·have n: ¬((under s.T c.r).length:Int)=0:=by
    have:=az4.2 r;omega
  cases B:s.T.au c.s with
  |false=>
   rw[B]at e;rw[adV (.inr rfl)];simp only[go_sem,simprocAttr,BV,p,g1,d,n,w,t,↓k,gn,e];rw[iF f (aep _),j];exact⟨_,rfl,.aq⟩
  |true=>
   rw[B]at e;rw[ada (by simp[r])];cases m: (under s.T c.r).contains c.s with
   |true=>
    rw[m]at h;rw[adV rfl];simp only[go_sem,simprocAttr,BV,p,g1,d,n,w,t,↓k,gn,e,h];rw[FW f g2 (by rw[y];omega),j];exact⟨_,rfl,aT.o8 g2⟩
   |false=>
    rw[m]at h;rw[ada (by simp)];simp only[go_sem,simprocAttr,BV,p,g1,d,n,w,t,↓k,gn,e,h];refine o7 (H0:=H) (ys:=[[.int .u32 c.s]]) g2 (anZ _ _) q (by omega) (by intro el A;rw[afD.1 A];rfl) rfl (by unfold room;simp;omega) λv' W C I=>?_
    simp only[go_sem,simprocAttr];have l:aT N W v' 1 cb ((under s.T c.r++[c.s]).map hC):=by rw[afI];exact C
    rw[FW f l (by rw[bB (λ_=>rfl)];omega)];refine⟨_,dj rfl (lv q λi P=>?_),aT.o8 l⟩;obtain⟨L,rfl⟩:=I;rw[ac7 (by omega)]
theorem awA: ∃v,D XC (.fn (.func 210) [] [.ptr a 0,.ptr b 0]) [] ⟨H,lo⟩=some (.ret v ⟨H,lo⟩)/\Rv v 1 ((if(cn s.K c.s).2=0 then oC s (cn s.K c.s).1.aR else[]).map hC):=by
 suffices n: ∃g,D XC (.fn (.func 210) [] [.ptr a 0,.ptr b 0]) [] ⟨H,lo⟩=some g/\ (λg=> ∃v,g=aX.ret v ⟨H,lo⟩/\Rv v 1 ((if(cn s.K c.s).2=0 then oC s (cn s.K c.s).1.aR else[]).map hC)) g by grind
 refine s8 Kn rfl rfl rfl λN k=>?_
 have j:=λH lo=>c0 (Ck s.K hs.K c.s hc.s H lo)
 have m:=λL=>bc (L:=L) ha
 have f: ∀t:Tok,(fL t).length=5:=λ_=>rfl
 have e: ∀t:Tok,aI (fL t)=0:=λ_=>rfl
 have h: ∀t:Tok,(fL t)[0]?=some (.int .u32 t.aR):=λ_=>rfl
 by_cases l: (cn s.K c.s).2=0
 ·have d: (((cn s.K c.s).2:Nat):Int)=0:=by omega
  have ho:=ajO s hs (cn s.K c.s).1.aR (hs.K.get c.s).aR;have i:=cK (Aj s (cn s.K c.s).1.aR) (bB (λ_=>rfl) _);rw[adV l];simp only[F1,go_sem,simprocAttr,Kn,k,ha,hb,↓SL,gn,m,f,e,h,j,d,ho,i];exact⟨_,rfl,Aj s _⟩
 ·have d: ¬(((cn s.K c.s).2:Nat):Int)=0:=by omega
  rw[ada l];simp only[F1,go_sem,simprocAttr,Kn,k,ha,hb,↓SL,gn,f,e,j,d];exact⟨_,rfl,.aq⟩
theorem awB{u:Nat}(l:H[u]?=some (.box [.fn (.func 207) [] [.ptr a 0,.ptr b 0]] none))(h:H[i]?=some (.box [.fn (.func 205) [] [.ptr a 0,.ptr b 0]] none)):
  ∃v,D XC (.fn (.func 211) [] [.ptr b 0,.ptr i 0,.ptr u 0]) [] ⟨H,lo⟩=some (.ret v ⟨H,lo⟩)/\Rv v 1 ((if c.b=1 then oC s c.r else under s.T c.r).map hC):=by
 suffices n: ∃e,D XC (.fn (.func 211) [] [.ptr b 0,.ptr i 0,.ptr u 0]) [] ⟨H,lo⟩=some e/\ (λe=> ∃v,e=aX.ret v ⟨H,lo⟩/\Rv v 1 ((if c.b=1 then oC s c.r else under s.T c.r).map hC)) e by grind
 refine s8 Ko rfl rfl rfl λN j=>?_
 by_cases k:c.b=1
 ·have d: (c.b:Int)=1:=by omega
  have g:=cK (Aj s c.r) (bB (λ_=>rfl) _);rw[adV k];simp(disch:=omega) only[F1,go_sem,simprocAttr,Ko,hb,h,gn,d,ajP hs hc ha hb,g];exact⟨_,rfl,Aj s _⟩
 ·have d: ¬(c.b:Int)=1:=by omega
  obtain⟨v,J,ak,g1,g2,m⟩:=Ui hs hc ha hb N j none;have f: (H++J).take N=H:=by rw[<-j];simp
  rw[ada k];simp only[go_sem,simprocAttr,Ko,hb,l,gn,d,g1];rw[FW (en.of m) g2 (by rw[bB (λ_=>rfl)];omega),f];exact⟨_,rfl,aT.o8 g2⟩
end
abbrev fe(N:Nat):AV:=.fn (.func 205) [] [.ptr N 0,.ptr (N+1) 0]
abbrev lE(N:Nat):AV:=.fn (.func 207) [] [.ptr N 0,.ptr (N+1) 0]
abbrev Mh(N:Nat):AV:=.fn (.func 208) [] [.ptr (N+3) 0,.ptr N 0,.ptr (N+1) 0]
abbrev Mi(N:Nat):AV:=.fn (.func 210) [] [.ptr N 0,.ptr (N+1) 0]
abbrev Mj(N:Nat):AV:=.fn (.func 211) [] [.ptr (N+1) 0,.ptr (N+2) 0,.ptr (N+3) 0]
def awC(N:Nat):List (AV×AV):=[(.int .u8 1,fe N),(.int .u8 2,fe N),(.int .u8 3,fe N),(.int .u8 4,fe N),(.int .u8 5,fe N),(.int .u8 10,fe N),(.int .u8 12,fe N),(.int .u8 18,fe N),(.int .u8 19,fe N),(.int .u8 6,lE N),(.int .u8 7,lE N),(.int .u8 9,lE N),(.int .u8 11,lE N),(.int .u8 8,Mh N),(.int .u8 13,Mi N),(.int .u8 14,Mj N)]
def nH(N k:Nat):List (AV×AV):=(awC N).take k
theorem awD(N:Nat):ae.map []= .map (nH N 0):=rfl
def mi{N:Nat}{H:List ae}(d:H.length=N)(B:List ae)(f:B.length=4){key:Int}(i:v.refs<=N+5)(h:lJ (.int .u8 key) v (nH N k)=some (nH N (k+1)))(lo:oN):
  mn ⟨H++(B++[.map (nH N k)]),lo⟩ .int (.mp (N+4)) (.int .u8 key) v=some ⟨H++(B++[.map (nH N (k+1))]),lo⟩:=by
 simp only[mn,kG,af1];have e: (H++(B++[ae.map (nH N k)]))[N+4]?=some (.map (nH N k)):=by grind
 simp only[e,h];have g: (H++(B++[ae.map (nH N k)])).set (N+4) (.map (nH N (k+1)))=H++(B++[.map (nH N (k+1))]):=by
  rw[aqd _ _ (by omega),aqd _ _ (by omega)];simp[d,f]
 simp only[AS.set,g]
 grind
def Gf(N d:Nat):Option AV:=
 if[1,2,3,4,5,10,12,18,19].contains d then some (fe N)
 else if[6,7,9,11].contains d then some (lE N)
 else if d=8 then some (Mh N)else if d=13 then some (Mi N)else if d=14 then some (Mj N)else none
def awE(N d:Nat):eg (.int .u8 d) (nH N 16)=some (Gf N d):=by
 have key: ∀ (es:List (Nat×AV)),eg (.int .u8 d) (es.map λx=>(.int .u8 (x.1:Nat),x.2))=some ((es.find? λx=>decide (x.1=d)).map (·.2)):=by
  intro es
  induction es with
  |nil=>rfl
  |cons x xs j=>
   simp only[al0,eg,oT,af1,List.find?_cons]
   grind
 have e:nH N 16=[(1,fe N),(2,fe N),(3,fe N),(4,fe N),(5,fe N),(10,fe N),(12,fe N),(18,fe N),(19,fe N),(6,lE N),(7,lE N),(9,lE N),(11,lE N),(8,Mh N),(13,Mi N),(14,Mj N)].map λx:Nat×AV=>(.int .u8 (x.1:Nat),x.2):=rfl
 rw[e,key];by_cases h:d<=19
 ·rcases(show d=0\/d=1\/d=2\/d=3\/d=4\/d=5\/d=6\/d=7\/d=8\/d=9\/d=10\/d=11\/d=12\/d=13\/d=14\/d=15\/d=16\/d=17\/d=18\/d=19 by omega)with q|q|q|q|q|q|q|q|q|q|q|q|q|q|q|q|q|q|q|q<;>subst q<;>rfl
 ·have hc: ∀l:lN,l.all (λk=>decide (k<=19))=true->l.contains d=false:=by
    intro l g;rw[Bool.eq_false_iff];intro hm;have:=afQ.1 g d (by simpa using hm);simp at this;omega
  have f: ∀l:List (Nat×AV),(l.map (·.1)).all (λk=>decide (k<=19))=true->l.find? (λx=>decide (x.1=d))=none:=by
   intro l g;rw[awX];intro x i;have:=afQ.1 g x.1 (List.mem_map_of_mem i);simp at this⊢;omega
  rw[f _ rfl];unfold Gf;rw[hc _ rfl,hc _ rfl,ada (by simp),ada (by simp),ada (by omega),ada (by omega),ada (by omega)];rfl
def awF{s:bu}(hs:bf s)(hc:iH c)(H:List ae)(lo:oN):
  ∃v,D XC (.fn (.func 189) [] []) [.agg (bo s),.agg (bp c)] ⟨H,lo⟩=some (.ret v ⟨H,lo⟩)/\Rv v 1 ((sU s c).map hC):=by
 suffices X: ∃r,D XC (.fn (.func 189) [] []) [.agg (bo s),.agg (bp c)] ⟨H,lo⟩=some r/\ (λr=> ∃v,r=aX.ret v ⟨H,lo⟩/\Rv v 1 ((sU s c).map hC)) r by
  obtain⟨r,h1,v,rfl,Z⟩:=X;exact⟨v,h1,Z⟩
 refine cz Q0 λN d=>?_
 have V:N<=N+1:=by omega
 have U:N<=N+2:=by omega
 have Y: (fe N).refs=N+2:=by simp[AV.refs,aI]
 have P: (lE N).refs=N+2:=by simp[AV.refs,aI]
 obtain⟨B,hB⟩: ∃B:List ae,B=[.box (bo s) none,.box (bp c) none,.box [fe N] none,.box [lE N] none]:=⟨_,rfl⟩;have hm:=awD N;have G:=mi (k:=0) (key:=1) (v:=fe N) d B (by rw[hB];rfl) (by simp[AV.refs,aI]) rfl;have F:=mi (k:=1) (key:=2) (v:=fe N) d B (by rw[hB];rfl) (by simp[AV.refs,aI]) rfl;have C:=mi (k:=2) (key:=3) (v:=fe N) d B (by rw[hB];rfl) (by simp[AV.refs,aI]) rfl;have A:=mi (k:=3) (key:=4) (v:=fe N) d B (by rw[hB];rfl) (by simp[AV.refs,aI]) rfl;have z:=mi (k:=4) (key:=5) (v:=fe N) d B (by rw[hB];rfl) (by simp[AV.refs,aI]) rfl;have y:=mi (k:=5) (key:=10) (v:=fe N) d B (by rw[hB];rfl) (by simp[AV.refs,aI]) rfl;have x:=mi (k:=6) (key:=12) (v:=fe N) d B (by rw[hB];rfl) (by simp[AV.refs,aI]) rfl;have w:=mi (k:=7) (key:=18) (v:=fe N) d B (by rw[hB];rfl) (by simp[AV.refs,aI]) rfl;have p8:=mi (k:=8) (key:=19) (v:=fe N) d B (by rw[hB];rfl) (by simp[AV.refs,aI]) rfl;have u:=mi (k:=9) (key:=6) (v:=lE N) d B (by rw[hB];rfl) (by simp[AV.refs,aI]) rfl;have o:=mi (k:=10) (key:=7) (v:=lE N) d B (by rw[hB];rfl) (by simp[AV.refs,aI]) rfl;have n:=mi (k:=11) (key:=9) (v:=lE N) d B (by rw[hB];rfl) (by simp[AV.refs,aI]) rfl;have m:=mi (k:=12) (key:=11) (v:=lE N) d B (by rw[hB];rfl) (by simp[AV.refs,aI]) rfl;have l:=mi (k:=13) (key:=8) (v:=Mh N) d B (by rw[hB];rfl) (by simp[AV.refs,aI]) rfl;have j:=mi (k:=14) (key:=13) (v:=Mi N) d B (by rw[hB];rfl) (by simp[AV.refs,aI]) rfl;have i:=mi (k:=15) (key:=14) (v:=Mj N) d B (by rw[hB];rfl) (by simp[AV.refs,aI]) rfl;rw[hB]at G F C A z y x w p8 u o n m l j i;simp only[ahn,ahk]at G F C A z y x w p8 u o n m l j i;simp only[go_sem,simprocAttr,Q0,d,V,U,hm,Y,P,gn,G,F,C,A,z,y,x,w,p8,u,o,n,m,l,j,i];have O: ∀E:AS,E.heap[N+4]?=some (.map (nH N 16))->jv XC.fU E .int .ds (.mp (N+4)) (.int .u8 c.op) true=some (match Gf N c.op with|some v=>.ay [v,.bool true]|none=>.ay [.ds,.bool false]):=by
  intro E h;simp only[jv,kG,af1,mapOf,h,awE];cases Gf N c.op<;>rfl
 rw[O _ (by rw[bA d];rfl)];obtain⟨W,g⟩: ∃W,W=H++[.box (bo s) none,.box (bp c) none,.box [fe N] none,.box [lE N] none,.map (nH N 16)]:=⟨_,rfl⟩;have w0:W[N]?=some (.box (bo s) none):=by rw[g,dv d];rfl
 have w1:W[N+1]?=some (.box (bp c) none):=by rw[g,bA d];rfl
 have T:W[N+2]?=some (.box [fe N] none):=by rw[g,bA d];rfl
 have R:W[N+3]?=some (.box [lE N] none):=by rw[g,bA d];rfl
 have wt: ∀L,(W++L).take N=H:=λL=>by rw[g,adW,kb d]
 have e:W.take N=H:=by rw[g,kb d]
 have Q:W.length=N+5:=by rw[g];simp[d]
 rw[<-g];unfold sU Gf;by_cases p: [1,2,3,4,5,10,12,18,19].contains c.op
 ·simp only[p,af1];have K:=cK (Aj s c.r) (bB (λ_=>rfl) _);simp only[F1,go_sem,simprocAttr,ajP hs hc w0 w1,K,e];exact⟨_,rfl,Aj s _⟩
 ·by_cases q: [6,7,9,11].contains c.op
  ·obtain⟨v,J,ak,g1,g2,g3⟩:=Ui hs hc w0 w1 (N+5) Q none;simp only[p,q,af1,aiz,afG];simp only[go_sem,simprocAttr,g1];rw[FW (en.le (en.of g3) (by omega)) (aT.le (M:=N) g2 (by omega)) (by rw[bB (λ_=>rfl)];omega),wt];exact⟨_,rfl,aT.o8 g2⟩
  ·by_cases t:c.op=8
   ·obtain⟨v,g1,g2⟩:=awz hs hc w0 w1 none R;have f:=cK g2 (bB (λ_=>rfl) _);simp only[ada p,ada q,adV t];simp only[F1,go_sem,simprocAttr,g1,f,e];exact⟨_,rfl,g2⟩
   ·by_cases I:c.op=13
    ·obtain⟨v,g1,g2⟩:=awA hs hc w0 w1 none;have f:=cK g2 (bB (λ_=>rfl) _);simp only[ada p,ada q,ada t,adV I];simp only[F1,go_sem,simprocAttr,g1,f,e];exact⟨_,rfl,g2⟩
    ·by_cases S:c.op=14
     ·obtain⟨v,g1,g2⟩:=awB hs hc w0 w1 none R T;have f:=cK g2 (bB (λ_=>rfl) _);simp only[ada p,ada q,ada t,ada I,adV S];simp only[F1,go_sem,simprocAttr,g1,f,e];exact⟨_,rfl,g2⟩
     ·simp only[p,q,t,I,S,aiz,afG];simp only[F1,go_sem,simprocAttr,e];exact⟨_,rfl,.aq⟩
def bP(x:Core)(q:Nat)(qv:AV):lA:=bo x.S++([.ptr q 0]++(cR x.M++[qv]))
section
variable{x:Core}{q:Nat}{qv:AV}
def Ak: (bP x q qv).length=1274:=by simp only[bP,aem,ee,ep];rfl
def Un:aI (bP x q qv)=max (q+1) qv.refs:=by
 simp only[bP,FE,mF,j0];simp[aI,AV.refs]
def Mk:Den.part true 952 (bP x q qv) 0=some (.agg (bo x.S)):=by exact wX (ee _) (by omega)
def Uo{ag:Bool}{o:Nat}(ho:952<=o):Den.part ag m (bP x q qv) o=Den.part ag m ([.ptr q 0]++(cR x.M++[qv])) (o-952):=by
 unfold bP;rw[jg (by rw[ee];exact ho),ee]
def Up:Den.part false 1 (bP x q qv) 952=some (.ptr q 0):=by rw[Uo (by omega)];rfl
def ajQ:Den.part true 320 (bP x q qv) 953=some (.agg (cR x.M)):=by
 rw[Uo (by omega),jg (by simp)];exact wX (ep _) (by omega)
def Uq:Den.part false 1 (bP x q qv) 1273=some qv:=by
 rw[Uo (by omega),jg (by simp),jg (by rw[ep];simp),ep];rfl
def ajR{s:bu}:aK (bP x q qv) 0 (bo s)=bP {x with S:=s} q qv:=by
 unfold bP;rw[nd (by rw[ee,ee];omega),ko (by rw[ee,ee])]
def ajS{m:Marks}:aK (bP x q qv) 953 (cR m)=bP {x with M:=m} q qv:=by
 unfold bP;rw[fo (by rw[ee];omega),ee,fo (by simp),nd (by simp[ep])];have:953-952- [AV.ptr q 0].length=0:=rfl;rw[this,ko (by rw[ep,ep])]
def ajT:aK (bP x q qv) 1273 [v]=bP x q v:=by
 unfold bP;rw[fo (by rw[ee];omega),ee,fo (by simp),fo (by rw[ep];simp),ep];rfl
theorem aCV{P:cT}:bP {x with P:=P} q qv=bP x q qv:=rfl
theorem awG{Q:lN}:bP {x with Q:=Q} q qv=bP x q qv:=rfl
def Gg: (bP x q qv)[952]?=some (.ptr q 0):=Up
def Ur: (bP x q qv)[1273]?=some qv:=Uq
def KL:=gG @Mk<|gG @Up<|gG @ajQ<|gG @Uq<|gG @Gg @Ur
def KS:=gG @ajR<|gG @ajS<|gG @ajT @Ak
end
def cV(N:Nat)(H:List ae)(v:AV)(sz:Nat)(ty:TypeId)(af:List lA):Prop:=
 (∀el∈af,el.length=sz)/\ ((v= .aq/\af=[])\/ ∃id aj off all,N<=id/\v= .ref id aj sz off af.length false/\H[id]?=some (.row aj sz ty all)/\off+af.length<=all.length/\ (all.drop off).take af.length=af)
theorem cV.aq{N:Nat}{H:List ae}{ty:TypeId}:cV N H .aq sz ty []:=⟨by simp,.inl ⟨rfl,rfl⟩⟩
section
variable{N:Nat}{H H':List ae}{v:AV}{sz:Nat}{ty:TypeId}{af:List lA}
def cV.rd(h:cV N H v sz ty af):Rd ⟨H,lo⟩ v sz af:=by
 obtain⟨c,b⟩:=h;rcases b with⟨rfl,rfl⟩| ⟨id,aj,off,all,e,rfl,a,f,d⟩
 ·exact .aq
 ·refine⟨trivial,?_,c⟩;simp only[elems,a,aza]
  grind
def cV.nS(h:cV N H v sz ty af)(b: ∀ (id aj:Nat) (all:List lA),H[id]?=some (ae.row aj sz ty all)->H'[id]?=some (ae.row aj sz ty all)):cV N H' v sz ty af:=by
 obtain⟨a,c⟩:=h;refine⟨a,?_⟩
 grind
def cV.mono(h:cV N H v sz ty af)(b:M<=N):cV M H v sz ty af:=by
 obtain⟨a,c⟩:=h;refine⟨a,?_⟩
 grind
def cV.app(h:cV N H v sz ty af)(L:List ae):cV N (H++L) v sz ty af:=h.nS λ_ _ _ a=>bc a
theorem cV.set(h:cV N H v sz ty af){cs:lA}(b:H[p]?=some (.box cs tg))(o:ae):cV N (H.set p o) v sz ty af:=h.nS λid _ _ a=>by grind
theorem cV.take{n:Nat}{a:List lA}(h:cV N H v sz ty af)(e:cV N H0 v sz ty a)(k:H0.length=n):cV N (H.take n) v sz ty af:=by
 obtain⟨d,b⟩:=h;refine⟨d,?_⟩;rcases b with b| ⟨id,aj,off,all,o,g,j,l,i⟩
 ·grind
 ·rcases e.2 with⟨q,_⟩| ⟨c,_,_,_,_,q,f,_⟩
  ·grind
  grind
def cV.tail{a:lA}{bytes:Nat}(h:cV N H v sz ty (a::af)): ∃w,gu sz v (some (.int .i64 1)) none none=some w/\cV N H w sz ty af/\w.cq=false/\w.cells=[w]/\w.refs=v.refs:=by
 obtain⟨i,c⟩:=h;rcases c with⟨_,c⟩| ⟨id,aj,off,all,f,rfl,e,k,j⟩
 ·grind
 ·refine⟨.ref id aj sz (off+1) af.length false,?_,⟨λel d=>i el (afU _ d),.inr ⟨id,aj,off+1,all,f,rfl,e,by grind,?_⟩⟩,rfl,rfl,rfl⟩
  ·have g:gr (a::af).length (some (.int .i64 1)) none=some (1,af.length+1):=by
     have: (1:Int)<=af.length+1:=by omega
     simp[gr,lH,this]
   simp only[gu,g,lI]
   grind
  ·have: (all.drop off).take (af.length+1)=a::af:=by omega
   have c:all.drop (off+1)=(all.drop off).drop 1:=by simp
   rw[c];generalize all.drop off=l at this;cases l with
   |nil=>grind
   |cons b l=>grind
def cV.append{bytes:Nat}{y:lA}(h:cV N H v sz ty af)(r:N<=H.length)(f:0<sz)(t:y.length=sz)(j:aI y=0)(p: (af.length+1)*bytes<=room):
  ∃v' H',du ⟨H,lo⟩ ty sz bytes v [y]=some (v',⟨H',lo⟩)/\cV N H' v' sz ty (af++[y])/\H.length<=H'.length/\ (∀i,i<N->H'[i]?=H[i]?)/\ (∀ (i:Nat) (o:ae),(∀a d,o≠ae.row a sz ty d)->H[i]?=some o->H'[i]?=some o)/\v'.cq=false/\v'.cells=[v']/\N<v'.refs:=by
 have c:0<sz/\ [y].all (λel=>el.length==sz)=true:=⟨f,by grind⟩;obtain⟨z,s⟩:=h;have e: ∀el∈af++[y],el.length=sz:=by grind
 rcases s with⟨rfl,rfl⟩| ⟨id,aj,off,all,k,rfl,b,u,g⟩
 ·refine⟨.ref H.length 0 sz 0 1 false,H++[.row 0 sz ty [y]],?_,⟨e,.inr ⟨H.length,0,0,[y],r,rfl,by simp,by simp,by simp⟩⟩,by simp,λi n=>ac7 (by omega),λi o _ ho=>bc ho,rfl,rfl,by simp only[AV.refs];omega⟩;unfold du;rw[adV c];simp only[aqP];rw[ada (by omega),adV (by omega)];rfl
 ·have l:=dU b;refine⟨.ref id (aj+1) sz 0 (af.length+1) false,H.set id (.row (aj+1) sz ty (af++[y])),?_,⟨e,.inr ⟨id,aj+1,0,af++[y],k,by simp,by grind,by simp,ael (by simp)⟩⟩,by simp,λi n=>acK (by omega),λi o ho w=>?_,rfl,rfl,by simp only[AV.refs];omega⟩
  ·unfold du;rw[adV c];simp only[b,aqP];rw[adV ⟨trivial,trivial,trivial,trivial,by omega,p⟩,ada (by omega)];have:bZ [y]=0:=by simp[bZ,j]
   simp[AS.set,this,g]
  grind
end
def Mu(o:ae):Prop:= ∃a d,o= .row a 1 od d
structure Fq(m:Nat)(S:lN)(H H':List ae):Prop where
 len:H.length<=H'.length
 low: ∀i,i<m->i∉S->H'[i]?=H[i]?
 box: ∀i o,i∉S-> ¬Mu o->H[i]?=some o->H'[i]?=some o
section
variable{m:Nat}{S T:lN}{A B C H W:List ae}
theorem Fq.refl:Fq m S A A:=⟨aen _,λ_ _ _=>rfl,λ_ _ _ _ h=>h⟩
theorem Fq.trans(h:Fq m S A B)(g:Fq m S B C):Fq m S A C:=⟨afY h.len g.len,λi a b=>(g.low i a b).trans (h.low i a b),λi o a ho c=>g.box i o a ho (h.box i o a ho c)⟩
def Fq.mono(h:Fq m S A B)(b: ∀i∈S,i∈T):Fq m T A B:=⟨h.len,λi a q=>h.low i a λr=>q (b i r),λi o a ho c=>h.box i o (λq=>a (b i q)) ho c⟩
theorem Fq.set(b:p∈S)(_:m<=A.length)(o:ae):Fq m S A (A.set p o):=⟨by simp,λi _ a=>acK (by grind),λi w c _ h=>by grind⟩
def Fq.app(L:List ae)(a:m<=A.length):Fq m S A (A++L):=⟨by simp,λi b _=>ac7 (by omega),λi o _ _ h=>bc h⟩
def Fq.pre{L:List ae}(h:Fq m S (H++L) W)(a:m<=H.length):Fq m S H W:=(Fq.app L a).trans h
theorem Fq.take{N:Nat}(h:Fq m S A B)(e:A.length=N)(d:m<=N):Fq m S A (B.take N):=⟨by rw[afT];have:=h.len;omega,λi a c=>by rw[afV (by omega)];exact h.low i a c,λi o a ho b=>by
 have:=dU b;rw[afV (by omega)];exact h.box i o a ho b⟩
def Fq.own{cs:lA}(h:Fq m S A B)(b:p∉S)(c:A[p]?=some (.box cs tg)):B[p]?=some (.box cs tg):=h.box p _ b (λq=>by obtain⟨a,d,q⟩:=q;cases q) c
end
def gp(Q:Prop)(B:Nat)(H H':List ae)(lo ak:oN):Prop:=(ak=lo/\H'.length=H.length/\Q)\/ ∃j,j<=B/\ak=cL lo j
def ajU{a b:Nat}:cL (cL lo a) b=cL lo (min a b):=by
 cases lo with
 |none=>exact ag9 some (Nat.min_comm b a)
 |some c=>show some (min b (min a c))=some (min (min a b) c);grind
theorem gp.same{B:Nat}{H:List ae}(h:Q):gp Q B H H lo lo:=.inl ⟨rfl,rfl,h⟩
section
variable{m N B:Nat}{S:lN}{H L W H2:List ae}{lo ny:oN}{Q:Prop}{v:AV}
def Ml(h:H.length=N)(k:B<N)(e:m<=N)(i:Fq m S (H++L) W)(f:gp Q B (H++L) W none ny)(d:v.refs<=N):
  ∃H2 a,finish N lo v ⟨W,ny⟩=(v,⟨H2,a⟩)/\Fq m S H H2/\gp Q B H H2 lo a/\ (H2=W\/ (H2=W.take N/\Q)):=by
 have b:=i.pre (by omega);rcases f with⟨rfl,l,c⟩| ⟨j,g,rfl⟩
 ·refine⟨W.take N,lo,iF (.inl rfl) d,b.take h e,.inl ⟨rfl,?_,c⟩,.inr ⟨rfl,c⟩⟩
  grind
 ·refine⟨W,cL lo j,?_,b,.inr ⟨j,g,rfl⟩,.inl rfl⟩;have:cL none j=some j:=rfl;exact vH (by omega)
def Mm{o:ae}(h:H2=W\/ (H2=W.take N/\Q))(b:i<N)(a:W[i]?=some o):H2[i]?=some o:=by grind
def cV.oJ{n:Nat}{ty:TypeId}{v v':AV}{a:List lA}(h:cV n W v' sz ty af)(c:H2=W\/ (H2=W.take N/\Q))(b:Q->v'=v)(e:cV n H v sz ty a)(d:H.length=N):cV n H2 v' sz ty af:=by
 rcases c with rfl| ⟨rfl,q⟩
 ·exact h
 ·have:=b q;subst this;exact h.take e d
end
structure dI(m p q:Nat)(x:Core)(qv:AV)(H:List ae):Prop where
 mp:m<=H.length
 qp:q<p
 box:H[p]?=some (.box (bP x q qv) none)
 ia:H[q]?=some (.box (cg x.P) none)
 ja:cV (max m (p+1)) H qv 1 od (x.Q.map fS)
section
variable{m p q:Nat}{x:Core}{qv:AV}{H:List ae}
def dI.lt(h:dI m p q x qv H):p<H.length:=dU h.box
theorem dI.app(h:dI m p q x qv H)(L:List ae):dI m p q x qv (H++L):=⟨by have:=h.mp;grind,h.qp,bc h.box,bc h.ia,h.ja.app L⟩
theorem dI.set(h:dI m p q x qv H){cs:lA}(c:H[i]?=some (.box cs tg))(b:i≠p)(a:i≠q)(o:ae):dI m p q x qv (H.set i o):=
 ⟨by simpa using h.mp,h.qp,(acK b).trans h.box,(acK a).trans h.ia,h.ja.set c o⟩
theorem dI.oJ{W H2:List ae}{N:Nat}{d:Core}(h:dI m p q x qv W)(b:H2=W\/ (H2=W.take N/\Q))(e:Q->qv=a)(c:dI m p q d a H0)(f:H0.length=N):dI m p q x qv H2:=
 have g:=c.lt
 ⟨by
   rcases b with rfl| ⟨rfl,_⟩
   ·exact h.mp
   ·have:=h.mp;have:=c.mp;grind,h.qp,Mm b (by omega) h.box,Mm b (by have:=h.qp;omega) h.ia,cV.oJ h.ja b e c.ja f⟩
def dI.ajV(h:dI m p q x qv H)(M:Marks):dI m p q {x with M:=M} qv (H.set p (.box (bP {x with M:=M} q qv) none)):=
 ⟨by simpa using h.mp,h.qp,cO h.box,(acK (by have:=h.qp;omega)).trans h.ia,h.ja.set h.box _⟩
def dI.ajW(h:dI m p q x qv H)(s:bu):dI m p q {x with S:=s} qv (H.set p (.box (bP {x with S:=s} q qv) none)):=
 ⟨by simpa using h.mp,h.qp,cO h.box,(acK (by have:=h.qp;omega)).trans h.ia,h.ja.set h.box _⟩
def dI.Gi(h:dI m p q x qv H)(P:cT):dI m p q {x with P:=P} qv (H.set q (.box (cg P) none)):=
 ⟨by simpa using h.mp,h.qp,(acK (by have:=h.qp;omega)).trans h.box,cO h.ia,h.ja.set h.ia _⟩
def dI.fp(h:dI m p q x qv H)(o:ae):Fq m [p,q] H (H.set p o):=Fq.set (by simp) h.mp o
def dI.fq(h:dI m p q x qv H)(o:ae):Fq m [p,q] H (H.set q o):=Fq.set (by simp) h.mp o
end
def Us(m p q:Nat)(H:List ae)(lo:oN)(b:Core)(qv:AV)(r:AV)(c:aX):Prop:=
 ∃a H' ak,c= .ret r ⟨H',ak⟩/\dI m p q b a H'/\Fq m [p,q] H H'/\gp (a=qv) p H H' lo ak
def jr(x:Core)(r:aD)(k:Nat):Core:={x with Q:=x.Q++(gj r).take k}
def ajX(x:Core)(r:aD):jr x r r.2=cQ x r:=by
 unfold jr cQ;rw[ael (by simp[gj])]
def ajY{r:aD}(h:k<r.2): (gj r).take (k+1)=(gj r).take k++[r.1+k]:=by
 rw[afP];simp[gj,h]
def Ut{H:List ae}(l:dI m p q x qv H)(r:aD)(Z:r.1<4294967296/\r.2<4294967296)(hQ:x.Q.length<17179869184)(lo:oN):
  ∃K,D XC (.fn (.func 154) [] []) [.ptr p 0,.agg (aA r)] ⟨H,lo⟩=some K/\Us m p q H lo (cQ x r) qv (.ay []) K:=by
 refine cz QI λN s=>?_
 have C:p<N:=by rw[<-s];exact l.lt
 have h1: (aA r)[1]?=some (.int .i64 r.2):=rfl;simp only[go_sem,simprocAttr,QI,s];refine gN r.2 (λk e W ak=> ∃c,e 0= .ptr p 0/\e 3= .ptr N 0/\e 6= .int .i64 r.2/\e 7= .int .i64 k/\dI m p q (jr x r k) c W/\W[N]?=some (.box (aA r) none)/\Fq m [p,q] (H++[.box (aA r) none]) W/\gp (c=qv) p (H++[.box (aA r) none]) W none ak) 0 (by omega) ?_ ?_
 ·refine⟨qv,?_⟩;simp(disch:=omega) only[go_sem,simprocAttr];refine⟨?_,Fq.refl,gp.same trivial⟩;have:=l.app [.box (aA r) none];unfold jr;simpa using this
 rintro k hk e W ak ⟨c,J,e3,e6,e7,b,hw,I,g⟩ n hn;have h0: (aA r)[0]?=some (.int .i64 r.1):=rfl;simp only[bQ,go_sem,simprocAttr,aeZ,J,e6,e7];refine⟨λR=>?_,λR=>?_⟩
 ·have E:k<r.2:=by omega
  have Y:=(nF (b.ja.rd (lo:=none)));simp(disch:=omega) only[go_sem,simprocAttr,e3,b.box,hw,↓KL];have h: (x.Q++(gj r).take k).length<=x.Q.length+r.2:=by simp[gj];omega
  have O:=b.lt;have M:=b.mp;obtain⟨v',W',g1,g2,g3,X,t,V,U,g8⟩:=cV.append (bytes:=8) (lo:=ak) (y:=[.int .i64 ((r.1:Int)+k)]) b.ja (by omega) (by omega) rfl rfl (by rw[aer];show((x.Q++(gj r).take k).length+1)*8<=room;unfold room;omega);have z: ∀cs tg,∀a d,ae.box cs tg≠ .row a 1 od d:=λ_ _ _ _ e=>by cases e
  have f:=t p _ (z _ _) b.box;have u:=t q _ (z _ _) b.ia;have w:=t N _ (z _ _) hw;have F: ¬v'.refs<=p+1:=by omega
  rw[g1];simp(disch:=omega) only[go_sem,simprocAttr,J,e3,e6,e7,f,KS,V,U,F];refine⟨by omega,v',?_⟩;refine⟨?_,w,?_,?_⟩
  ·refine⟨by rw[afL];omega,b.qp,by rw[awG];exact cO f,(acK (by have:=b.qp;omega)).trans u,?_⟩;have: (jr x r (k+1)).Q.map fS=(jr x r k).Q.map fS++[[.int .i64 ((r.1:Int)+k)]]:=by
    unfold jr;rw[ajY E,<-adW,afI];rfl
   rw[this];exact g2.set f _
  ·refine I.trans ⟨by simp;omega,λi G P=>?_,λi o G ho T=>?_⟩
   ·rw[acK (by rintro rfl;simp at P)];exact X i (by have:=b.mp;omega)
   ·rw[acK (by rintro rfl;simp at G)];exact t i o (λa d e=>ho ⟨a,d,e⟩) T
  ·rcases g with⟨rfl,_,_⟩| ⟨j,hj,rfl⟩
   ·exact .inr ⟨p,aen _,rfl⟩
   ·exact .inr ⟨min j p,by omega,ajU⟩
 ·obtain rfl:k=r.2:=by omega
  have hm:=l.mp;obtain⟨H2,A,f1,f2,f3,f4⟩:=Ml (lo:=lo) s C (by omega) I g (v:=.ay []) (aep _);rw[f1];rw[ajX]at b;exact⟨c,H2,A,rfl,b.oJ f4 id l s,f2,f3⟩
def bM(c:Call)(rv:AV):lA:=[.int .i64 c.aa]++(bp c.c++([.bool c.checked,rv]++(aA c.run++[.int .i64 c.fb])))
theorem awH(c:Call)(rv:AV):bM c rv=[.int .i64 c.aa,.int .u8 c.c.op,.int .u32 c.c.r,.int .u32 c.c.s,.int .u32 c.c.a,.int .u32 c.c.b,.int .u64 c.c.v,.bool c.checked,rv,.int .i64 c.run.1,.int .i64 c.run.2,.int .i64 c.fb]:=rfl
structure fK(c:Call):Prop where
 aa:c.aa<4294967296
 iJ:iH c.c
 aY: ∀h∈c.aY,h<4294967296
 run:c.run.1<65536/\c.run.2<65536
 fb:c.fb<65536
structure jM(x:Core):Prop where
 S:bf x.S
 P:fZ x.P
 M: ∀i,iI (x.M i)
 Q: ∀k∈x.Q,k<2147483648
 Ql:x.Q.length<8589934592
def ajZ{H:List ae}(b:dI m p q x qv H)(l:jM x)(c:Call)(n:fK c)(rv:AV)(r:rv.refs=0)(lo:oN):
  ∃k,D XC (.fn (.func 103) [] []) [.ptr p 0,.agg (bM c rv)] ⟨H,lo⟩=some k/\Us m p q H lo (xi x c) qv (.ay []) k:=by
 refine cz Qs λN d=>?_
 have f:p<N:=by rw[<-d];exact b.lt
 have z:=n.run;obtain⟨k,g1,a,W,ak,rfl,g2,o,y⟩:=Ut (b.app [.box (bM c rv) none]) c.run ⟨by omega,by omega⟩ (by have:=l.Ql;omega) none;have h:Den.part true 2 (bM c rv) 9=some (.agg (aA c.run)):=rfl;have i: (bM c rv)[0]?=some (.int .i64 c.aa):=rfl;have j:N∉[p,q]:=by have:=b.qp;grind
 have wn:W[N]?=some (.box (bM c rv) none):=o.own j (by rw[dv d];rfl);have t:=λH lo=>c0 (awa x.M l.M c.aa n.aa H lo)
 have w: (cQ x c.run).M=x.M:=rfl;have g:=λm=>ep m
 simp only[go_sem,simprocAttr,Qs,d,↓h,g1,g2.box,wn,i,↓KL,KS,w,t,g,j0];have u:=o.trans (g2.fp (.box (bP {cQ x c.run with M:=rl x.M c.aa} q a) none));have s:gp (a=qv) p (H++[.box (bM c rv) none]) (W.set p (.box (bP {cQ x c.run with M:=rl x.M c.aa} q a) none)) none ak:=y.elim (λq=>.inl ⟨q.1,by rw[afL];exact q.2.1,q.2.2⟩) .inr;obtain⟨H2,e,f1,f2,f3,f4⟩:=Ml (lo:=lo) d f (by have:=b.mp;omega) u s (v:=.ay []) (aep _);rw[f1];exact⟨a,H2,e,rfl,(g2.ajV _).oJ f4 id b d,f2,f3⟩
def awI{H:List ae}(c:dI m p q x qv H)(t:jM x)(lo:oN):
  ∃y,D XC (.fn (.func 65) [] []) [.ptr p 0] ⟨H,lo⟩=some y/\Us m p q H lo (iW x).1 qv (.bool (iW x).2) y:=by
 have ho:Old p H (.box (bP x q qv) none):=⟨c.box⟩;refine cz JS λN r=>?_
 have h:p<N:=by rw[<-r];exact c.lt
 have b:=(c.ja.rd (lo:=none)).bN;unfold iW;have E:Fq m [p,q] (H++[]) H:=by rw[afZ];exact Fq.refl
 cases n:x.Q with
 |nil=>
  rw[n]at b;simp(disch:=omega) only[F1,go_sem,simprocAttr,JS,c.box,↓KL,b];exact⟨qv,H,lo,rfl,c,Fq.refl,gp.same rfl⟩
 |cons a l=>
  have d:=c.ja;rw[n]at b d;rw[al0]at d;have G: ¬((l.length:Nat):Int)+1=0:=by omega
  have k:j8 1 qv (.int .i64 0)=some (gA qv 0 0):=by
   rw[(d.rd (lo:=none)).addr,adV ⟨by omega,by simp⟩];rfl
  have i:ck XC ⟨H,none⟩ false 1 (gA qv 0 0)=some (.int .i64 a):=(d.rd (lo:=none)).load (by simp);obtain⟨w,s1,s2,B,A,z⟩:=cV.tail (bytes:=8) d;have F:=λlo=>c0 (awt t.P c.ia lo (t.Q a (by rw[n];simp)))
  have j: (FP.rd p 952 1).ok (wg 1 (gA qv 0 0))=true:=by
   rcases d.2 with⟨_,e⟩| ⟨_,_,_,_,_,rfl,_⟩
   ·cases e
   ·rfl
  have s: ∀o,(H.set q o)[p]?=some (.box (bP x q qv) none):=λo=>(acK (by have:=c.qp;omega)).trans c.box
  have C:p+1<w.refs:=by
   rw[z];rcases d.2 with⟨_,e⟩| ⟨id,_,_,_,J,rfl,_⟩
   ·cases e
   ·simp only[AV.refs];omega
  have f: ¬w.refs<=p+1:=by omega
  simp only[go_sem,simprocAttr,JS,r,c.box,↓KL,b,G,k,i,F,j,s,s1,B,A,KS,f];have u:=(c.fq (.box (cg (rp x.P a)) none)).trans ((c.Gi (rp x.P a)).fp (.box (bP x q w) none));have hm:=c.mp;obtain⟨I,g,f1,f2,f3,f4⟩:=Ml (m:=m) (N:=N) (lo:=lo) (Q:=False) (L:=[]) r h (by omega) (by rw[afZ];exact u) (.inr ⟨p,aen _,rfl⟩) (v:=.bool true) (aep _);rw[f1];have f5:I=(H.set q (.box (cg (rp x.P a)) none)).set p (.box (bP x q w) none):=f4.elim id λe=>e.2.elim
  rw[f5];refine⟨w,_,g,rfl,⟨by simpa using c.mp,c.qp,cO (s _),(acK (by have:=c.qp;omega)).trans (cO c.ia),?_⟩,u,?_⟩
  ·exact(s2.set c.ia _).set (s _) _
  ·rw[f5]at f3;exact f3.elim (λe=>e.2.2.elim) .inr
def dQ(st:bL)(p:Nat)(rv:AV):lA:=[.ptr p 0]++(bM st.c rv++(bG st.r++[.bool st.ended]))
section
variable{st:bL}{p:Nat}{rv:AV}
theorem Uu: (dQ st p rv).length=17:=rfl
theorem aj0: (dQ st p rv)[0]?=some (.ptr p 0):=rfl
theorem aj1: (dQ st p rv)[1]?=some (.int .i64 st.c.aa):=rfl
theorem aj2: (dQ st p rv)[8]?=some (.bool st.c.checked):=rfl
theorem aj3: (dQ st p rv)[9]?=some rv:=rfl
theorem aj4: (dQ st p rv)[10]?=some (.int .i64 st.c.run.1):=rfl
theorem aj5: (dQ st p rv)[11]?=some (.int .i64 st.c.run.2):=rfl
theorem aj6: (dQ st p rv)[12]?=some (.int .i64 st.c.fb):=rfl
theorem aj7: (dQ st p rv)[16]?=some (.bool st.ended):=rfl
theorem Uv:Den.part true 12 (dQ st p rv) 1=some (.agg (bM st.c rv)):=rfl
theorem aj8:Den.part true 6 (dQ st p rv) 2=some (.agg (bp st.c.c)):=rfl
theorem aj9:Den.part true 2 (dQ st p rv) 10=some (.agg (aA st.c.run)):=rfl
theorem aka:Den.part true 3 (dQ st p rv) 13=some (.agg (bG st.r)):=rfl
theorem akb{b:Bool}:aK (dQ st p rv) 8 [.bool b]=dQ {st with c:={st.c with checked:=b}} p rv:=rfl
theorem akc:aK (dQ st p rv) 9 [v]=dQ st p v:=rfl
theorem akd{r:aD}:aK (dQ st p rv) 10 (aA r)=dQ {st with c:={st.c with run:=r}} p rv:=rfl
theorem ake{n:Nat}:aK (dQ st p rv) 12 [.int .i64 n]=dQ {st with c:={st.c with fb:=n}} p rv:=rfl
theorem akf:aK (dQ st p rv) 13 (bG r)=dQ {st with r:=r} p rv:=rfl
theorem akg{b:Bool}:aK (dQ st p rv) 16 [.bool b]=dQ {st with ended:=b} p rv:=rfl
def Uw(c:Call)(h:rv.refs=0):aI (bM c rv)=0:=by rw[awH];simp[aI,AV.refs,h]
def PL:=gG @aj0<|gG @aj1<|gG @aj2<|gG @aj3<|gG @aj4<|gG @aj5<|gG @aj6<|gG @aj7<|gG @Uv<|gG @aj8<|gG @aj9 @aka
def PS:=gG @akb<|gG @akc<|gG @akd<|gG @ake<|gG @akf<|gG @akg @Uu
end
structure dg(m p q s:Nat)(st:bL)(qv rv:AV)(H:List ae):Prop where
 co:dI m p q st.x qv H
 ps:p<s
 box:H[s]?=some (.box (dQ st p rv) none)
 aY:Rv rv 1 (st.c.aY.map hC)
section
variable{m p q s:Nat}{st:bL}{qv rv:AV}{H:List ae}
def dg.lt(h:dg m p q s st qv rv H):s<H.length:=dU h.box
theorem dg.rz(h:dg m p q s st qv rv H):rv.refs=0:=cK h.aY (bB (λ_=>rfl) _)
theorem dg.app(h:dg m p q s st qv rv H)(L:List ae):dg m p q s st qv rv (H++L):=⟨h.co.app L,h.ps,bc h.box,h.aY⟩
theorem dg.set(h:dg m p q s st qv rv H){qg:bL}{rL:AV}(a:qg.x=st.x)(b:Rv rL 1 (qg.c.aY.map hC)):dg m p q s qg qv rL (H.set s (.box (dQ qg p rL) none)):=
 ⟨a ▸ h.co.set h.box (by have:=h.ps;omega) (by have:=h.ps;have:=h.co.qp;omega) _,h.ps,cO h.box,b⟩
def dg.fs(h:dg m p q s st qv rv H)(o:ae):Fq m [p,q,s] H (H.set s o):=Fq.set (by simp) h.co.mp o
def dg.sn(h:dg m p q s st qv rv H):s∉[p,q]:=by have:=h.ps;have:=h.co.qp;grind
def dg.ai{W:List ae}{b:Core}(h:dg m p q s st qv rv H)(d:dI m p q b a W)(c:Fq m [p,q] H W):dg m p q s {st with x:=b} a rv W:=
 ⟨d,h.ps,c.own h.sn h.box,h.aY⟩
def Fq.m3{H W:List ae}(h:Fq m [p,q] H W):Fq m [p,q,s] H W:=h.mono (by simp)
theorem dg.oJ{W d:List ae}{N:Nat}{c:AV}{b:bL}(h:dg m p q s st qv rv W)(e:d=W\/ (d=W.take N/\Q))(i:Q->qv=a)(g:dg m p q s b a c H0)(f:H0.length=N):dg m p q s st qv rv d:=
 ⟨h.co.oJ e i g.co f,h.ps,Mm e (by rw[<-f];exact g.lt) h.box,h.aY⟩
end
def eu(m p q s:Nat)(H:List ae)(lo:oN)(qg:bL)(qv:AV)(r:AV)(b:aX):Prop:=
 ∃a rL H' ak,b= .ret r ⟨H',ak⟩/\dg m p q s qg a rL H'/\Fq m [p,q,s] H H'/\gp (a=qv) p H H' lo ak
structure qh(st:bL):Prop where
 x:jM st.x
 c:fK st.c
def eu.fin{s N:Nat}{d st:bL}{e:AV}{H L W:List ae}(c:dg m p q s d a e H)(g:H.length=N)(h:dg m p q s st qv rv W)(k:Fq m [p,q,s] (H++L) W)(j:gp (qv=a) p (H++L) W none b)(i:v.refs<=N):
  eu m p q s H lo st a v (.ret (finish N lo v ⟨W,b⟩).1 (finish N lo v ⟨W,b⟩).2):=by
 have r:=c.lt;have o:=c.ps;have n:=c.co.mp;obtain⟨l,f,f1,f2,f3,f4⟩:=Ml (m:=m) (N:=N) (lo:=lo) g (by omega) (by omega) k j i;rw[f1];exact⟨qv,rv,l,f,rfl,h.oJ f4 id c g,f2,f3⟩
def Ux{s:Nat}{st:bL}{H:List ae}(a:dg m p q s st qv rv H)(e:qh st)(r:bF)(lo:oN):
  ∃d,D XC (.fn (.func 188) [] []) [.ptr s 0,.agg (bG r)] ⟨H,lo⟩=some d/\eu m p q s H lo (oD st r) qv (.ay []) d:=by
 refine cz QZ λN g=>?_
 have h:=(a.app [.box (bG r) none]).set (qg:={st with r:=r,ended:=true}) (rL:=rv) rfl a.aY;have k:=(a.app [.box (bG r) none]).fs (.box (dQ {st with r:=r,ended:=true} p rv) none);obtain⟨d,g1,b,W,ak,rfl,g2,i,l⟩:=ajZ h.co e.x st.c e.c rv a.rz none;have f:=λL=>bc (L:=L) a.box
 have c:=λL o=>cO (o:=o) (f L)
 simp only[go_sem,simprocAttr,QZ,g,f,PL,PS,xA,uj,rK,c,alg,↓Uv,g1];have j:gp (b=qv) p (H++[.box (bG r) none]) W none ak:=l.elim (λq=>.inl ⟨q.1,by grind,q.2.2⟩) .inr;exact eu.fin a g (h.ai g2 i) (k.trans i.m3) j (aep _)
def fZ.akh{p:cT}(h:fZ p)(n:Nat):fZ (jH p n).1:=by
 unfold jH;split
 ·exact h
 split
 ·exact h
 ·rename_i x b;cases a:rm p.free (x.1,n)with
  |none=>exact h
  |some l=>exact⟨h.n,h.free.take a,h.bytes⟩
def fZ.clear{p:cT}(h:fZ p)(i:Nat):fZ (rn p i):=by
 unfold rn;split
 ·refine⟨h.n,h.free,λa b=>?_⟩;show av p.bytes i (λ_=>0) a b<256;unfold av;split
  ·simp
  ·exact h.bytes a b
 omega
def fZ.back{p:cT}(h:fZ p)(i:Nat):fZ (rp p i):=by
 unfold rp;split
 ·unfold K8;cases a:iT p.free (i,1)with
  |none=>exact h
  |some l=>exact⟨h.n,h.free.iT a,h.bytes⟩
 omega
def fZ.write{p:cT}(h:fZ p)(i b:Nat)(d:b<256):fZ (vx p i b):=by
 unfold vx;split
 ·refine⟨h.n,h.free,λa c=>?_⟩;show av p.bytes (i/32) (av (p.bytes (i/32)) (i % 32) b) a c<256;unfold av;split
  ·show(if c=i % 32 then b else p.bytes (i/32) c)<256;split
   ·omega
   ·exact h.bytes _ _
  ·exact h.bytes a c
 omega
def awJ{p:cT}(h:fZ p)(n:Nat)(c:n<=64)(b: (jH p n).2.2=0): (jH p n).2.1+n<=64:=by
 unfold jH at b⊢;split
 ·grind
 ·rename_i e;split
  ·grind
  ·rename_i x a;have d:=h.free.bd x (aqV a)
   grind
def aki{x y:aB}{h:Nat}{r:dm}(e:nq x h r= .ok y):y.mb=x.mb:=by
 unfold nq at e;cases a:cp (fN x.s.T h r).2 with
 |error _=>rw[a]at e;cases e
 |ok _=>rw[a]at e;cases e;rfl
def aL{α β:Type}{m:R α}{f:α->R β}{b:β}(h: (m>>=f)= .ok b): ∃a,m= .ok a/\f a= .ok b:=by
 cases m with
 |error e=>cases h
 |ok a=>exact⟨a,rfl,h⟩
def awK{x y:aB}(e:x.mb=0)(h:ll x= .ok (y,r)):y.mb<=4:=by
 unfold ll at h;dsimp only at h;cases b:oz (min x.c.a 129) (min x.c.b 9)with
 |none=>rw[b]at h;cases h
 |some n=>
  have c:n<=4:=by
   unfold oz at b;split at b
   ·rename_i ho;have:min x.c.a 129<=128:=by unfold isObj at ho;simp at ho;omega
    cases b;omega
   ·cases b
  rw[b]at h;obtain⟨a,e1,h⟩:=aL h;cases e1;obtain⟨_,_,h⟩:=aL h;obtain⟨_,_,h⟩:=aL h;split at h
  ·obtain⟨z,d,h⟩:=aL h;cases h;rw[aki d,e];omega
  ·obtain⟨_,_,h⟩:=aL h;split at h
   ·cases h;exact c
   ·obtain⟨_,_,h⟩:=aL h;obtain⟨z,d,h⟩:=aL h;cases h;rw[aki d];exact c
def akj(s:bu)(aa:Nat)(c:cx):fa s aa c<=4:=by
 unfold fa;split
 ·omega
 ·split
  ·rename_i y r e;obtain⟨_,_,e⟩:=aL (show(ask _ _>>=λ_=>jV _)=_ from e);unfold jV at e;have:c.op=2:=by omega
   simp only[this]at e;exact awK rfl e
  ·omega
theorem eu.same{s:Nat}{st:bL}{H:List ae}{r:AV}(h:dg m p q s st qv rv H):eu m p q s H lo st qv r (.ret r ⟨H,lo⟩):=⟨qv,rv,H,lo,rfl,h,Fq.refl,gp.same rfl⟩
def eu.Gj{s N:Nat}{c st:bL}{d:AV}{H W:List ae}(g:dg m p q s c a d H)(f:H.length=N)(h:dg m p q s st qv rv W)(j:Fq m [p,q,s] H W)(i:gp (qv=a) p H W none b)(e:v.refs<=N):
 eu m p q s H lo st a v (.ret (finish N lo v ⟨W,b⟩).1 (finish N lo v ⟨W,b⟩).2):=eu.fin (L:=[]) g f h (by grind) (by grind) e
def akk{s:Nat}{st:bL}{H:List ae}(ha:dg m p q s st qv rv H)(hx:qh st)(e:Nat)(lo:oN):
 ∃a,D XC (.fn (.func 188) [] []) [.ptr s 0,.agg [.int .i64 e,.int .u64 0,.int .u32 0]] ⟨H,lo⟩=some a/\eu m p q s H lo (oD st {bO with e:=e}) qv (.ay []) a:=Ux ha hx {bO with e:=e} lo
section
variable(hD: ∀op,kE op){m p q s:Nat}{st:bL}{qv rv:AV}{H:List ae}(ha:dg m p q s st qv rv H)(hx:qh st)(lo:oN)
include hD ha hx
theorem awL: ∃f,D XC (.fn (.func 170) [] []) [.ptr s 0] ⟨H,lo⟩=some f/\eu m p q s H lo (ky st).1 qv (.bool (ky st).2) f:=by
 refine cz BS λN b=>?_
 have k:s<N:=by rw[<-b];exact ha.lt
 have hw:=ajN st.x.S hx.x.S st.c.aa hx.c.aa st.c.c hx.c.iJ (hD _);have g:=ajM st.x.S hx.x.S st.c.aa hx.c.aa st.c.c hx.c.iJ (hD _);unfold ky;cases d:st.c.checked with
 |true=>
  simp(disch:=omega) only[F1,go_sem,simprocAttr,BS,ha.box,PL,d];exact eu.same ha
 |false=>
  cases i:B9 st.x.S st.c.aa st.c.c with
  |true=>
   rw[i]at hw;simp only[F1,go_sem,simprocAttr,BS,b,ha.box,ha.co.box,PL,↓PL,KL,↓KL,d,hw];exact eu.same ha
  |false=>
   rw[i]at hw;by_cases h:oB st.x.S st.c.aa st.c.c=0
   ·have a: ((oB st.x.S st.c.aa st.c.c:Nat):Int)=0:=by omega
    obtain⟨v,d1,d2⟩:=awF hx.x.S hx.c.iJ H none;obtain⟨t1,t2⟩:=nF (d2 ⟨[],none⟩);have t3:=cK d2 (bB (λ_=>rfl) _);have e:=λo=>cO (o:=o) ha.box
    simp only[go_sem,simprocAttr,BS,b,ha.box,ha.co.box,PL,↓PL,KL,↓KL,PS,d,hw,g,a,d1,t1,t2,t3,e,alg];rw[ada (λq=>q h)];exact eu.Gj (v:=.bool true) ha b (ha.set (qg:={st with c:={st.c with checked:=true,aY:=sU st.x.S st.c.c}}) rfl d2) (ha.fs _) (.inl ⟨rfl,by simp,rfl⟩) (aep _)
   ·have a: ¬((oB st.x.S st.c.aa st.c.c:Nat):Int)=0:=by omega
    obtain⟨f,g1,j,rL,W,ak,rfl,g2,n,l⟩:=akk ha hx (oB st.x.S st.c.aa st.c.c) none;simp only[go_sem,simprocAttr,BS,b,ha.box,ha.co.box,PL,↓PL,KL,↓KL,d,hw,g,a,g1];rw[adV h];exact eu.Gj ha b g2 n l (aep _)
omit hD in
theorem awM: ∃R,D XC (.fn (.func 171) [] []) [.ptr s 0] ⟨H,lo⟩=some R/\eu m p q s H lo (kz st).1 qv (.bool (kz st).2) R:=by
 have ho:Old s H (.box (dQ st p rv) none):=⟨ha.box⟩;refine cz Fe λN n=>?_
 have T:s<N:=by rw[<-n];exact ha.lt
 have U:p<N:=by have:=ha.ps;omega
 have a:=ha.aY.bN (E:=⟨H,none⟩);unfold kz;cases G:st.c.aY with
 |nil=>
  rw[G]at a;simp(disch:=omega) only[F1,go_sem,simprocAttr,Fe,n,ha.box,PL,a];exact eu.same ha
 |cons h t=>
  have f:=ha.aY;rw[G]at a f;have Q: ¬((t.length:Nat):Int)+1=0:=by omega
  have A:j8 1 rv (.int .i64 0)=some (gA rv 0 0):=by
   rw[f.ca,adV ⟨by omega,by simp⟩];rfl
  have y: ∀E,ck XC E false 1 (gA rv 0 0)=some (.int .u32 h):=λE=>f.cD (by simp)
  have e:=λH lo=>c0 (jY h (hx.c.aY h (by rw[G];simp)) H lo)
  have F: ((eN h).getD 0)=aP h:=rfl;unfold iX at e;rw[F]at e;have d:=λH lo=>c0 (av2 st.x.M hx.x.M (aP h) st.c.aa hx.c.aa H lo)
  have B:pn.length=320:=by decide
  have r:List.drop 320 pn=[]:=ahl (by rw[B];omega);have u: ∀m:Marks,List.take 320 (cR m)=cR m:=λm=>ael (by rw[ep];omega)
  have K:=λL=>bc (L:=L) ha.box
  have z:=λL=>bc (L:=L) ha.co.box
  have v:=λm=>ep m
  obtain⟨c,C⟩: ∃c,rv= .sl ((h::t).map hC) c:=by
   obtain⟨S,l,V⟩:=f ⟨[],none⟩;cases rv<;>simp only[]at S
   ·simp[Den.elems]at l
   ·rename_i af c;simp only[Den.elems]at l;split at l
    ·cases l;exact⟨c,rfl⟩
    ·cases l
   ·simp[Den.elems]at l
  obtain⟨w,s1,s2⟩:=ajD (sz:=1) (af:=(h::t).map hC) (c:=c) (i:=1) (by intro el J;obtain⟨x,_,rfl⟩:=afJ.1 J;rfl) (by simp);rw[<-C]at s1;have s1:gu 1 rv (some (.int .i64 1)) none none=some w:=s1;obtain⟨t1,t2⟩:=nF (s2 ⟨[],none⟩);have t3:=cK s2 (bB (g:=hC) (λ_=>rfl) t);have I: ∀L o,((H++L).set p o)[s]?=some (.box (dQ st p rv) none):=λL o=>(acK (by have:=ha.ps;omega)).trans (K L)
  obtain⟨j,k⟩: ∃j,j=(jm st.x.M (aP h) st.c.aa).1:=⟨_,rfl⟩;have O:=(ha.app [.box (cR j) none]).ai ((ha.app [.box (cR j) none]).co.ajV j) ((ha.app [.box (cR j) none]).co.fp _);have P:=(ha.app [.box (cR j) none]).co.fp (.box (bP {st.x with M:=j} q qv) none);rw[<-k]at d;cases b: (jm st.x.M (aP h) st.c.aa).2 with
  |true=>
   rw[b]at d;simp(disch:=omega) only[go_sem,simprocAttr,Fe,n,ha.box,K,z,I,PL,↓PL,PS,KL,↓KL,KS,a,Q,A,y,e,d,B,r,u,v,j0,s1,t1,t2,t3];rw[adV b,<-k];exact eu.fin ha n (O.set (qg:={st with x:={st.x with M:=j},c:={st.c with aY:=t}}) rfl s2) (P.m3.trans (O.fs _)) (.inl ⟨rfl,by simp,rfl⟩) (aep _)
  |false=>
   rw[b]at d;simp(disch:=omega) only[go_sem,simprocAttr,Fe,n,ha.box,K,z,PL,↓PL,KL,↓KL,KS,a,Q,A,y,e,d,B,r,u,v,j0];rw[ada (by rw[b];simp),<-k];exact eu.fin ha n O P.m3 (.inl ⟨rfl,by simp,rfl⟩) (aep _)
theorem awN: ∃k,D XC (.fn (.func 172) [] []) [.ptr s 0] ⟨H,lo⟩=some k/\eu m p q s H lo (kA st).1 qv (.bool (kA st).2) k:=by
 have ho:Old s H (.box (dQ st p rv) none):=⟨ha.box⟩;refine cz BT λN e=>?_
 have h:=λH lo=>cB (Ue st.x.S hx.x.S st.c.aa hx.c.aa st.c.c hx.c.iJ (hD _) H lo)
 have u:=akj st.x.S st.c.aa st.c.c;unfold kA;dsimp only;by_cases w:fa st.x.S st.c.aa st.c.c=0
 ·have a:decide (((fa st.x.S st.c.aa st.c.c:Nat):Int)=0)=true:=ad0 (by omega);rw[adV (.inl w)];simp only[F1,go_sem,simprocAttr,BT,e,ha.box,ha.co.box,PL,↓PL,KL,↓KL,h,a];exact eu.same ha
 ·have a:decide (((fa st.x.S st.c.aa st.c.c:Nat):Int)=0)=false:=adZ (by omega);by_cases v:0<st.c.run.2
  ·have b: ((st.c.run.2:Nat):Int)>0:=by omega
   rw[adV (.inr v)];simp only[F1,go_sem,simprocAttr,BT,e,ha.box,ha.co.box,PL,↓PL,KL,↓KL,h,a,b];exact eu.same ha
  ·have b: ¬((st.c.run.2:Nat):Int)>0:=by omega
   rw[ada (by omega)];have g:=λlo=>aww hx.x.P ha.co.ia lo (n:=fa st.x.S st.c.aa st.c.c) (by omega)
   have i:=ha.ai (ha.co.Gi (jH st.x.P (fa st.x.S st.c.aa st.c.c)).1) (ha.co.fq _);have l:=ha.co.fq (.box (cg (jH st.x.P (fa st.x.S st.c.aa st.c.c)).1) none);have j:qh {st with x:={st.x with P:=(jH st.x.P (fa st.x.S st.c.aa st.c.c)).1}}:=⟨⟨hx.x.S,hx.x.P.akh _,hx.x.M,hx.x.Q,hx.x.Ql⟩,hx.c⟩;generalize t:jH st.x.P (fa st.x.S st.c.aa st.c.c)=pc at*;by_cases o:pc.2.2=0
   ·have d:decide (((pc.2.2:Nat):Int)=0)=true:=ad0 (by omega);rw[ada (λq=>q o)];have f: [AV.int .i64 (pc.2.1:Nat),.int .i64 ((fa st.x.S st.c.aa st.c.c:Nat))]=aA (pc.2.1,fa st.x.S st.c.aa st.c.c):=rfl;simp only[go_sem,simprocAttr,BT,e,ha.box,ha.co.box,PL,↓PL,KL,↓KL,h,a,b,g,d,i.box,f,PS];exact eu.Gj ha e (i.set (qg:={st with x:={st.x with P:=pc.1},c:={st.c with run:=(pc.2.1,fa st.x.S st.c.aa st.c.c)}}) rfl ha.aY) (l.m3.trans (i.fs _)) (.inl ⟨rfl,by simp,rfl⟩) (aep _)
   ·have d:decide (((pc.2.2:Nat):Int)=0)=false:=adZ (by omega);rw[adV o];obtain⟨k,g1,r,rL,W,ak,rfl,g2,z,y⟩:=akk i j pc.2.2 none;simp only[go_sem,simprocAttr,BT,e,ha.box,ha.co.box,PL,↓PL,KL,↓KL,h,a,b,g,d,g1];exact eu.Gj ha e g2 (l.m3.trans z) (y.elim (λq=>.inl ⟨q.1,by rw[q.2.1,afL],q.2.2⟩) .inr) (aep _)
omit hD in
theorem awO: ∃h,D XC (.fn (.func 173) [] []) [.ptr s 0] ⟨H,lo⟩=some h/\eu m p q s H lo (ln st).1 qv (.bool (ln st).2) h:=by
 have ho:Old s H (.box (dQ st p rv) none):=⟨ha.box⟩;refine cz Ke λN e=>?_
 have j:=hx.c.run;have k:=hx.c.fb;unfold ln;by_cases g:st.c.run.2<=st.c.fb
 ·have a: ((st.c.fb:Nat):Int)>=st.c.run.2:=by omega
  rw[adV g];simp(disch:=omega) only[F1,go_sem,simprocAttr,Ke,e,ha.box,PL,a];exact eu.same ha
 ·have a: ¬((st.c.fb:Nat):Int)>=st.c.run.2:=by omega
  rw[ada g];have d: ∀lo,D XC (.fn (.func 192) [] []) [.ptr q 0,.int .i64 ((st.c.run.1:Int)+st.c.fb)] ⟨H,lo⟩=_:=λlo=>c0 (awr hx.x.P ha.co.ia lo (i:=st.c.run.1+st.c.fb) (by omega))
  have f:=ha.ai (ha.co.Gi (rn st.x.P (st.c.run.1+st.c.fb))) (ha.co.fq _);have l:=ha.co.fq (.box (cg (rn st.x.P (st.c.run.1+st.c.fb))) none);have b: ∀x,aK (dQ {st with x:=x} p rv) 12 [.int .i64 ((st.c.fb:Int)+1)]=dQ {st with x:=x,c:={st.c with fb:=st.c.fb+1}} p rv:=λ_=>rfl
  simp(disch:=omega) only[go_sem,simprocAttr,Ke,e,ha.box,ha.co.box,PL,KL,a,d,f.box,b,Uu];exact eu.Gj ha e (f.set (qg:={st with x:={st.x with P:=rn st.x.P (st.c.run.1+st.c.fb)},c:={st.c with fb:=st.c.fb+1}}) rfl ha.aY) (l.m3.trans (f.fs _)) (.inl ⟨rfl,by simp,rfl⟩) (aep _)
end
theorem akl: ∀ (l:List aD) (b x k:Nat),(∀r∈l,r.1+r.2<=64)->ku l b x=some k->k<=2048+x
 | [],_,_,_,_,h=>by cases h
 |r::rs,b,x,k,a,h=>by
  rw[ahx]at h;split at h
  ·grind
  ·exact akl rs _ x k (λz c=>a z (by grind)) h
def akm{s:bu}(d:bf s)(c:cx): (jk s c).1.length<=8/\ ∀k∈(jk s c).1,k<65536:=by
 unfold jk;split
 ·simp
 split
 ·simp
 split
 ·simp
 ·rename_i m l j;refine⟨by simp;omega,λk f=>?_⟩;obtain⟨i,h,rfl⟩:=afJ.1 f;have g:=alJ.1 h;have b:=d.T.get c.r;have a:=b.len;cases he:ku (aN s.T c.r).1.runs 0 (c.a+i)with
  |none=>simp
  |some v=>
   have:=akl _ _ _ _ (λr e=>(b.runs r e).2) he;simp;omega
def awP(v i:Nat)(a:i<8):kN .shr (.int .u64 v) (.int .i64 (8*(i:Int)))=some (.int .u64 ((v/2^(8*i):Nat))):=by
 rw[DE,adV (by omega)];have b:min (8*(i:Int)).toNat IntKind.u64.bits=8*i:=by
  have:IntKind.u64.bits=64:=rfl;omega
 grind
def akn(b i:Nat)(f:b<256)(e:i<8):kN .shl (.int .u64 b) (.int .i64 (8*(i:Int)))=some (.int .u64 ((b*2^(8*i):Nat)))/\b*2^(8*i)<18446744073709551616:=by
 have a:b*2^(8*i)<18446744073709551616:=by
  rcases(show i=0\/i=1\/i=2\/i=3\/i=4\/i=5\/i=6\/i=7 by omega)with q|q|q|q|q|q|q|q<;>subst q<;>simp<;>omega
 refine⟨?_,a⟩;rw[A1,adV (by omega)];have d:min (8*(i:Int)).toNat IntKind.u64.bits=8*i:=by
  have:IntKind.u64.bits=64:=rfl;omega
 rw[d];have c: ((2:Int)^(8*i))=((2^(8*i):Nat):Int):=by rfl
 rw[c,<-Int.natCast_mul,wrap_u64 (by omega) (by omega)]
def ako(a b:Nat)(d:a<18446744073709551616)(c:b<18446744073709551616):dt .or (.int .u64 a) (.int .u64 b)=some (.int .u64 ((a|||b:Nat)))/\a|||b<18446744073709551616:=by
 have f:a|||b<2^64:=Nat.or_lt_two_pow d c;refine⟨?_,f⟩;rw[HM];have e: ∀n:Nat,n<18446744073709551616->(BitVec.ofInt IntKind.u64.bits (n:Int)).toNat=n:=by
  have:IntKind.u64.bits=64:=rfl
  grind
 rw[BitVec.toNat_or,e a d,e b c,wrap_u64 (by omega) (by omega)]
def awQ(v i:Nat):IntKind.wrap .u8 ((v/2^(8*i):Nat):Int)=(byteOf v i:Nat):=ajw _
def um(P:cT)(pl:lN)(v k:Nat):cT:=(List.range k).foldl (λP i=>vx P (pl.getD i 0) (byteOf v i)) P
def akp(P:cT)(pl:lN)(v k:Nat):um P pl v (k+1)=vx (um P pl v k) (pl.getD k 0) (byteOf v k):=by
 unfold um;rw[aoH,al2];rfl
def qi(P:cT)(pl:lN)(v k:Nat):Nat:=(List.range k).foldl (λv i=>v|||sV P (pl.getD i 0)*2^(8*i)) v
def akq(P:cT)(pl:lN)(v k:Nat):qi P pl v (k+1)=qi P pl v k|||sV P (pl.getD k 0)*2^(8*k):=by
 unfold qi;rw[aoH,al2];rfl
theorem Uy{P:cT}(h:fZ P)(pl:lN)(v:Nat): ∀k,fZ (um P pl v k)
 |0=>h
 |k+1=>by rw[akp];exact(Uy h pl v k).write _ _ (aoe _ (by omega))
def akr{P:cT}(h:fZ P)(i:Nat):sV P i<256:=by
 unfold sV;split
 ·exact h.bytes _ _
 ·omega
theorem Uz{P:cT}(h:fZ P)(pl:lN)(v:Nat)(a:v<18446744073709551616): ∀k,k<=8->qi P pl v k<18446744073709551616
 |0,_=>a
 |k+1,b=>by
  rw[akq];exact(ako _ _ (Uz h pl v a k (by omega)) (akn _ _ (akr h _) (by omega)).2).2
def aks{pv:AV}{pl:lN}(d:Rv pv 1 (pl.map fS))(v:pl.length<=8){f:Fn}{cs:lA}(m:AV)(F:Nat->List ae)(t: ∀k,(F k).length=(F 0).length)
  (p: ∀k,k<pl.length->D XC (.fn f [] cs) [.int .i64 (pl.getD k 0:Nat),.int .i64 k] ⟨F k,none⟩=some (.ret (.ay []) ⟨F (k+1),none⟩)) (lo:oN):
  D XC (.fn (.func 194) [] []) [m,pv,.fn f [] cs] ⟨F 0,lo⟩=some (.ret (.ay []) ⟨F pl.length,lo⟩):=by
 refine aH Q2 λN r=>?_
 simp only[go_sem,simprocAttr,Q2,d.bN];refine dP pl.length (λk e H'=>H'=F k/\e 2= .fn f [] cs/\e 8=pv/\e 9= .int .i64 pl.length/\e 10= .int .i64 k) 0 (by omega) ?_ ?_
 ·simp only[go_sem,simprocAttr]
 rintro k w e H' ⟨rfl,s,l,j,b⟩ n u;simp only[bQ,F1,go_sem,simprocAttr,ae9,l,j,b];refine⟨λo=>?_,λo=>?_⟩
 ·have a:k<pl.length:=by omega
  have i: ∀y,(fS y)[0]?=some (.int .i64 y):=λ_=>rfl
  have g:pl.getD k default=pl.getD k 0:=rfl;have h:=p k a;simp(disch:=omega) only[go_sem,simprocAttr,s,l,j,b,d.ca,d.cD,i,g,h];exact⟨by omega,a⟩
 ·obtain rfl:k=pl.length:=by omega
  have q: (F pl.length).length=N:=by rw[t,r]
  have c: (F pl.length).take N=F pl.length:=ael (by omega);simp only[go_sem,simprocAttr,c]
def awR{s:Nat}{st:bL}{W:List ae}(f:dg m p q s st qv rv W)(k:fZ st.x.P){n g:Nat}(t:W[n]?=some (.box [.ptr s 0] none))(r:W[g]?=some (.box (bp c) none))(at' i:Nat)(j:at'<65536)(h:i<8)(lo:oN):
  D XC (.fn (.func 195) [] [.ptr n 0,.ptr g 0]) [.int .i64 at',.int .i64 i] ⟨W,lo⟩=some (.ret (.ay []) ⟨W.set q (.box (cg (vx st.x.P at' (byteOf c.v i))) none),lo⟩):=by
 refine eY Q3 λN l=>?_
 have hw:=λlo=>c0 (awv k f.co.ia lo (at':=at') (b:=byteOf c.v i) (by omega))
 have a: ∀o,(W.set q o).take N=W.set q o:=λo=>ael (by grind)
 have d:=awP c.v i h;have e:=awQ c.v i;simp(disch:=omega) only[F1,go_sem,simprocAttr,Q3,l,t,r,f.box,f.co.box,PL,KL,gn,d,e,hw,a]
def awS{s:Nat}{st:bL}{W:List ae}(e:dg m p q s st qv rv W)(f:fZ st.x.P){n a:Nat}(h:r.v<18446744073709551616)(w:W[n]?=some (.box [.ptr s 0] none))(u:W[a]?=some (.box (bG r) none))(at' i:Nat)(l:at'<65536)(j:i<8)(lo:oN):
  D XC (.fn (.func 197) [] [.ptr n 0,.ptr a 0]) [.int .i64 at',.int .i64 i] ⟨W,lo⟩=some (.ret (.ay []) ⟨W.set a (.box (bG {r with v:=r.v|||sV st.x.P at'*2^(8*i)}) none),lo⟩):=by
 refine eY Q4 λN t=>?_
 have hw:=λlo=>c0 (awu f e.co.ia lo (at':=at') (by omega))
 have b: ∀o,(W.set a o).take N=W.set a o:=λo=>ael (by grind)
 have k:=akr f at';obtain⟨s1,s2⟩:=akn (sV st.x.P at') i k j;obtain⟨g,x⟩:=ako r.v (sV st.x.P at'*2^(8*i)) h s2;have d: (bG r)[1]?=some (.int .u64 r.v):=rfl;have c: ∀n:Nat,aK (bG r) 1 [.int .u64 n]=bG {r with v:=n}:=λ_=>rfl
 simp(disch:=omega) only[F1,go_sem,simprocAttr,Q4,t,w,u,e.box,e.co.box,PL,KL,hw,s1,g,d,c,b,uj]
def uo:PC->PC|.seq a _=>a|x=>x
def uq:PC->PC|.seq _ b=>b|x=>x
def fE(Q:Prop)(B:Nat)(lo:oN):Prop:=(lo=none/\Q)\/ ∃j,j<=B/\lo=some j
theorem fE.no{B:Nat}(h:Q):fE Q B none:=.inl ⟨rfl,h⟩
def fE.step{e d:Prop}{B:Nat}{m l:List ae}{a:oN}(h:fE e B b)(g:gp d B m l b a)(f:e->d->Q):fE Q B a:=by
 rcases h with⟨rfl,h⟩| ⟨j,i,rfl⟩
 ·rcases g with⟨rfl,_,g⟩| ⟨k,c,rfl⟩
  ·exact .inl ⟨rfl,f h g⟩
  ·exact .inr ⟨k,c,rfl⟩
 ·rcases g with⟨rfl,_,_⟩| ⟨k,c,rfl⟩
  ·exact .inr ⟨j,i,rfl⟩
  ·exact .inr ⟨min k j,by omega,rfl⟩
def gp.n{B:Nat}{H H':List ae}(h:gp Q B H H' none lo):fE Q B lo:=(fE.no trivial).step h λ_ q=>q
def eu.akt{s N:Nat}{f st:bL}{g:AV}{H W:List ae}{c:oN}(e:dg m p q s f a g H)(l:H.length=N)(h:dg m p q s st qv rv W)(i:Fq m [p,q,s] H W)(o:fE (qv=a) p c)(n:v.refs<=N):
  eu m p q s H lo st a v (.ret (finish N lo v ⟨W,c⟩).1 (finish N lo v ⟨W,c⟩).2):=by
 have x:=e.lt;have w:=e.ps;have u:=e.co.mp;have t: ∃d b,finish N lo v ⟨W,c⟩=(v,⟨d,b⟩)/\Fq m [p,q,s] H d/\gp (qv=a) p H d lo b/\ (d=W\/ (d=W.take N/\qv=a)):=by
  rcases o with⟨rfl,k⟩| ⟨j,r,rfl⟩
  ·refine⟨W.take N,lo,iF (.inl rfl) n,i.take l (by omega),.inl ⟨rfl,?_,k⟩,.inr ⟨rfl,k⟩⟩;rw[afT];have:=i.len;omega
  ·exact⟨W,cL lo j,vH (by omega),i,.inr ⟨j,r,rfl⟩,.inl rfl⟩
 obtain⟨d,b,f1,f2,f3,f4⟩:=t;rw[f1];exact⟨qv,rv,d,b,rfl,h.oJ f4 id e l,f2,f3⟩
def mT(n:Nat):PC:=match n with
 |0=>ot.body
 |n+1=>uq (mT n)
def j4(n:Nat):PC:=uo (mT n)
def UA:PC:=mT 3
def UB:PC:=mT 6
def UC:PC:=mT 7
theorem awT:ot.body= .seq (j4 0) (.seq (j4 1) (.seq (j4 2) UA)):=rfl
theorem awU:UA= .seq (j4 3) (.seq (j4 4) (.seq (j4 5) UB)):=rfl
theorem awV:UB= .seq (j4 6) UC:=rfl
theorem awW:UC= .seq (j4 7) (.seq (j4 8) (.seq (j4 9) (mT 10))):=rfl
def eO(st:bL):bL:=if 0<st.c.run.2/\fa st.x.S st.c.aa st.c.c≠st.c.run.2 then{st with x:=cQ st.x st.c.run,c:={st.c with run:=(0,0)}}else st
structure CmS(m p q s N M:Nat)(H:List ae)(qv0 rv:AV)(st:bL)(c:cx)(nx:bu)(r:bF)(bv:AV)(e:Env)(W:List ae)(lo:oN):Prop where
 e1:e 1= .ptr N 0
 e3:e 3= .ptr (N+1) 0
 e6:e 6= .ptr M 0
 e7:e 7= .ptr (M+1) 0
 e8:e 8=bv
 st: ∃qv,dg m p q s st qv rv W/\fE (qv=qv0) p lo
 w0:W[N]?=some (.box [.ptr s 0] none)
 w1:W[N+1]?=some (.box (bp c) none)
 w6:W[M]?=some (.box (bo nx) none)
 w7:W[M+1]?=some (.box (bG r) none)
 fr:Fq m [p,q,s] H W
 sN:s<N
 NM:N+2<=M
theorem CB: ∀ (l:List aD) (x:Core),(∀r∈l,r.2<=64)->(l.foldl cQ x).Q.length<=x.Q.length+64*l.length
 | [],_,_=>by simp
 |r::l,x,h=>by
  have:=CB l (cQ x r) (λz a=>h z (by grind));have b: (cQ x r).Q.length=x.Q.length+r.2:=by simp[cQ,gj]
  grind
theorem UD: ∀ (l:List aD) (x:Core),(l.foldl cQ x).S=x.S/\ (l.foldl cQ x).P=x.P/\ (l.foldl cQ x).M=x.M
 | [],_=>⟨rfl,rfl,rfl⟩
 |r::l,x=>UD l (cQ x r)
theorem UE: ∀ (l:List aD) (x:Core),(∀r∈l,r.1<=64/\r.2<=64)->(∀k∈x.Q,k<2147483648)-> ∀k∈(l.foldl cQ x).Q,k<2147483648
 | [],_,_,h=>h
 |r::l,x,h,c=>UE l (cQ x r) (λz b=>h z (by grind)) λk a=>by
  rcases aeq.1 a with a|a
  ·grind
  ·obtain⟨i,d,rfl⟩:=afJ.1 a
   grind
def jM.akv(a:jM x)(b: ∀r∈l,r.1<=64/\r.2<=64)(g:x.Q.length+64*l.length<8589934592):jM (l.foldl cQ x):=by
 obtain⟨f,e,d⟩:=UD l x;exact⟨f ▸ a.S,e ▸ a.P,d ▸ a.M,UE l x b a.Q,by have:=CB l x (λr c=>(b r c).2);omega⟩
def UF{s N:Nat}{H:List ae}{g T:AV}{R st:bL}{nx:bu}{bv:AV}{back:List aD}{e:Env}{W:List ae}(h0:dg m p q s R g T H)(hN:H.length=N)
  (h:CmS m p q s N M H g rv st c nx r bv e W lo) (hb:Rv bv 2 (back.map aA)) (B:back.length<=4096/\ ∀r∈back,r.1<=64/\r.2<=64) (y:qh st) (Y:bf nx) (hQ:st.x.Q.length<4294967296) (F:oN):
  wp XC 174 false UC ⟨e,[]⟩ ⟨W,lo⟩ (dO XC N F [.t 2] (eu m p q s H F (oD {st with x:=back.foldl cQ {st.x with S:=nx},c:={st.c with run:=(0,0)}} r) g (.bool true))):=by
 obtain⟨e1,e3,e6,e7,e8,⟨qv,d,f⟩,w0,w1,w6,w7,fr,sN,NM⟩:=h;have Hh:=d.ps;have Mo:=d.co.qp;have hmp:=d.co.mp;have Q:=d.ai (d.co.ajW nx) (d.co.fp _);have O:=Q.set (qg:={st with x:={st.x with S:=nx},c:={st.c with run:=(0,0)}}) rfl d.aY;have hF:=(d.co.fp (.box (bP {st.x with S:=nx} q qv) none)).m3.trans (Q.fs (.box (dQ {st with x:={st.x with S:=nx},c:={st.c with run:=(0,0)}} p rv) none));have hw: ∀i o,i≠p->i≠s->W[i]?=some o->((W.set p (.box (bP {st.x with S:=nx} q qv) none)).set s (.box (dQ {st with x:={st.x with S:=nx},c:={st.c with run:=(0,0)}} p rv) none))[i]?=some o:=λi o hi hi2 ho=>by
  rw[acK (Ne.symm hi2),acK (Ne.symm hi)];exact ho
 have G: [AV.int .i64 0,.int .i64 0]=aA (0,0):=rfl;have J: ∀r:aD,(aA r).length=2:=λ_=>rfl
 have I: ∀r:aD,aI (aA r)=0:=λ_=>rfl
 have hNp: (N !=p)=true:=by simp;omega
 rw[awW];simp only[go_sem,simprocAttr,ot,j4,mT,uo,uq,e1,e6,e8,w0,w6,d.box,d.co.box,Q.box,PL,G,PS,KS,mF,hb.bN,ee,J,I,Mc,hNp];generalize hW1: (W.set p (.box (bP {st.x with S:=nx} q qv) none)).set s (.box (dQ {st with x:={st.x with S:=nx},c:={st.c with run:=(0,0)}} p rv) none)=W1 at*;refine gN back.length (λk e P j=> ∃w,e 1= .ptr N 0/\e 7= .ptr (M+1) 0/\e 128=bv/\e 129= .int .i64 back.length/\e 130= .int .i64 k/\dg m p q s {st with x:=(back.take k).foldl cQ {st.x with S:=nx},c:={st.c with run:=(0,0)}} w rv P/\fE (w=g) p j/\P[N]?=some (.box [.ptr s 0] none)/\P[M+1]?=some (.box (bG r) none)/\Fq m [p,q,s] H P) 0 (by omega) ?_ ?_
 ·refine⟨qv,?_⟩;simp only[go_sem,simprocAttr,e1,e7];exact⟨O,f,hw _ _ (by omega) (by omega) w0,hw _ _ (by omega) (by omega) w7,fr.trans hF⟩
 clear f Q O hF hw w0 w1 w6 w7 fr e1 e3 e6 e7 e8 d hW1;rintro k hk e P j ⟨w,e1,e7,v,u,t,d,f,w0,w7,fr⟩ n hn;have K:=λL=>bc (L:=L) w0
 have Mp:=λL=>bc (L:=L) d.box
 simp only[bQ,go_sem,simprocAttr,ae5,e1,v,u,t];refine⟨λhh=>?_,λhh=>?_⟩
 ·have l:k<back.length:=by omega
  generalize A:back.getD k default=D at*;have v5:=B.2 D (by rw[<-A];exact eo l);have V:=CB (back.take k) {st.x with S:=nx} (λz hz=>(B.2 z (ahz hz)).2);have x8: (back.take k).length<=k:=by simp;omega
  obtain⟨cr,g1,E,W3,U,rfl,g2,C,g4⟩:=Ut (d.co.app [.box (aA D) none]) D ⟨by omega,by omega⟩ (by
   have: ({st.x with S:=nx}:Core).Q=st.x.Q:=rfl;rw[this]at V;show((back.take k).foldl cQ {st.x with S:=nx}).Q.length<_;omega) j
  simp(disch:=omega) only[go_sem,simprocAttr,e1,e7,v,u,t,hb.ca,hb.cD,A,hn,J,I,K,Mp,PL,g1];have hs:=(d.app [.box (aA D) none]).ai g2 C;have UG:N∉[p,q]:=by simp;omega
  have Z:M+1∉[p,q]:=by simp;omega
  have e0: (back.take (k+1)).foldl cQ {st.x with S:=nx}=cQ ((back.take k).foldl cQ {st.x with S:=nx}) D:=by
   rw[<-A,afP,adR l,al2,afK,adR l];rfl
  rw[e0];refine⟨by omega,l,E,hs,f.step g4 (λa b=>b.trans a),C.own UG (K _),C.own Z (bc w7),?_⟩;exact fr.trans (C.m3.pre (by have:=d.co.mp;omega))
 ·obtain rfl:k=back.length:=by omega
  rw[afH]at d;have X:qh {st with x:=back.foldl cQ {st.x with S:=nx},c:={st.c with run:=(0,0)}}:=
   ⟨jM.akv (x:={st.x with S:=nx}) ⟨Y,y.x.P,y.x.M,y.x.Q,by show st.x.Q.length<_;omega⟩ B.2 (by show st.x.Q.length+_<_;omega),⟨y.c.aa,y.c.iJ,y.c.aY,⟨by show 0<65536;omega,by show 0<65536;omega⟩,y.c.fb⟩⟩
  obtain⟨cr,g1,E,rv3,W3,U,rfl,g2,C,g4⟩:=Ux d X r j;simp only[go_sem,simprocAttr,e7,w0,w7,xA,uj,g1];exact eu.akt h0 hN g2 (fr.trans C) (f.step g4 λa b=>b.trans a) (aep _)
def dg.other{s:Nat}{st:bL}{W:List ae}(h:dg m p q s st qv rv W){cs:lA}(a:W[i]?=some (.box cs tg))(d:i≠p)(c:i≠q)(b:i≠s)(o:ae):dg m p q s st qv rv (W.set i o):=
 ⟨h.co.set a d c o,h.ps,(acK b).trans h.box,h.aY⟩
def Al(P:cT)(c:cx)(pl:lN):cT:=if c.op=4 then um P pl c.v pl.length else P
def Am(P:cT)(c:cx)(pl:lN)(v:Nat):Nat:=if c.op=3 then qi P pl v pl.length else v
def aw1{s N:Nat}{H:List ae}{j G:AV}{F st:bL}{nx:bu}{bv pv:AV}{back:List aD}{pl:lN}{e:Env}{W:List ae}(E:dg m p q s F j G H)(Q:H.length=N)
  (h:CmS m p q s N M H j rv st c nx r bv e W lo) (Y:e 4=pv) (z:Rv pv 1 (pl.map fS)) (A:pl.length<=8/\ ∀k∈pl,k<65536) (I:c.op=3->r.v<18446744073709551616) (L:Rv bv 2 (back.map aA)) (t:back.length<=4096/\ ∀r∈back,r.1<=64/\r.2<=64) (d:qh st) (l:bf nx) (O:st.x.Q.length<4294967296) (b:oN):
  wp XC 174 false UB ⟨e,[]⟩ ⟨W,lo⟩ (dO XC N b [.t 2] (eu m p q s H b (oD {st with x:=back.foldl cQ {st.x with S:=nx,P:=Al st.x.P c pl},c:={st.c with run:=(0,0)}} {r with v:=Am st.x.P c pl r.v}) j (.bool true))):=by
 have h':=h;obtain⟨e1,e3,e6,e7,e8,⟨qv,a,n⟩,w0,w1,w6,w7,fr,sN,NM⟩:=h;have Hh:=a.ps;have Mo:=a.co.qp;have hmp:=a.co.mp;have WB:=E.co.mp;have B: ∀k,k<pl.length->pl.getD k 0<65536:=λk D=>by simp_all
 rw[awV];by_cases X:c.op=4
 ·have w: (c.op:Int)=4:=by omega
  have u:W.set q (.box (cg (um st.x.P pl c.v 0)) none)=W:=qb a.co.ia;have g:=λlo=>aks z A.1 (f:=.func 195) (cs:=[.ptr N 0,.ptr (N+1) 0]) (.ptr s 0) (λk=>W.set q (.box (cg (um st.x.P pl c.v k)) none)) (λk=>by simp) (λk D=>by
   have R:=a.ai (a.co.Gi (um st.x.P pl c.v k)) (a.co.fq _);rw[awR R (Uy d.x.P pl c.v k) ((acK (by omega)).trans w0) ((acK (by omega)).trans w1) _ k (B k D) (by omega)];show some (aX.ret _ ⟨_,_⟩)=_;rw[alg,akp]) lo
  simp only[u]at g;simp only[go_sem,simprocAttr,ot,j4,mT,uo,uq,e1,e3,Y,w0,w1,gn,w,g];have U:Al st.x.P c pl=um st.x.P pl c.v pl.length:=adV X;have C:Am st.x.P c pl r.v=r.v:=ada (by omega);rw[U,C];refine UF (rv:=rv) (M:=M) (c:=c) (nx:=nx) (r:=r) (bv:=bv) (back:=back) (st:={st with x:={st.x with P:=um st.x.P pl c.v pl.length}}) E Q ?_ L t ⟨⟨d.x.S,Uy d.x.P pl c.v _,d.x.M,d.x.Q,d.x.Ql⟩,d.c⟩ l O b;exact⟨e1,e3,e6,e7,e8,⟨qv,a.ai (a.co.Gi _) (a.co.fq _),n⟩,(acK (by omega)).trans w0,(acK (by omega)).trans w1,(acK (by omega)).trans w6,(acK (by omega)).trans w7,fr.trans (a.co.fq _).m3,sN,NM⟩
 ·have w: ¬(c.op:Int)=4:=by omega
  have U:Al st.x.P c pl=st.x.P:=ada X;rw[U];by_cases T:c.op=3
  ·have y: (c.op:Int)=3:=by omega
   have u:W.set (M+1) (.box (bG {r with v:=qi st.x.P pl r.v 0}) none)=W:=qb w7;have g:=λlo=>aks z A.1 (f:=.func 197) (cs:=[.ptr N 0,.ptr (M+1) 0]) (.ptr s 0) (λk=>W.set (M+1) (.box (bG {r with v:=qi st.x.P pl r.v k}) none)) (λk=>by simp) (λk D=>by
    have R:=a.other w7 (by omega) (by omega) (by omega) (.box (bG {r with v:=qi st.x.P pl r.v k}) none);rw[awS R d.x.P (r:={r with v:=qi st.x.P pl r.v k}) (Uz d.x.P pl r.v (I T) k (by omega)) ((acK (by omega)).trans w0) (cO w7) _ k (B k D) (by omega)];show some (aX.ret _ ⟨_,_⟩)=_;rw[alg,akq]) lo
   simp only[u]at g;simp only[go_sem,simprocAttr,ot,j4,mT,uo,uq,e1,e3,Y,e7,w0,w1,gn,y,g];have C:Am st.x.P c pl r.v=qi st.x.P pl r.v pl.length:=adV T;rw[C];have K:Fq m [p,q,s] H (W.set (M+1) (.box (bG {r with v:=qi st.x.P pl r.v pl.length}) none)):=⟨by rw[afL];exact fr.len,λi J Z=>by rw[acK (by omega)];exact fr.low i J Z,λi o J ho V=>by
    have:=dU V;rw[acK (by omega)];exact fr.box i o J ho V⟩
   refine UF (rv:=rv) (M:=M) (c:=c) (nx:=nx) (bv:=bv) (back:=back) (r:={r with v:=qi st.x.P pl r.v pl.length}) E Q ?_ L t d l O b;exact⟨e1,e3,e6,e7,e8,⟨qv,a.other w7 (by omega) (by omega) (by omega) _,n⟩,(acK (by omega)).trans w0,(acK (by omega)).trans w1,(acK (by omega)).trans w6,cO w7,K,sN,NM⟩
  ·have y: ¬(c.op:Int)=3:=by omega
   have C:Am st.x.P c pl r.v=r.v:=ada T;rw[C];simp only[go_sem,simprocAttr,ot,j4,mT,uo,uq,e3,w1,gn,w,y];refine UF (rv:=rv) (M:=M) (c:=c) (nx:=nx) (bv:=bv) (back:=back) (r:=r) E Q ?_ L t d l O b;exact⟨e1,e3,e6,e7,e8,⟨qv,a,n⟩,w0,w1,w6,w7,fr,sN,NM⟩
structure rM(d:bu×bF×List aD)(c:cx):Prop where
 S:bf d.1
 len:d.2.2.length<=4096
 runs: ∀r∈d.2.2,r.1<=64/\r.2<=64
 v:c.op=3->d.2.1.v<18446744073709551616
 w:d.2.1.w<4294967296
 e:d.2.1.e<4294967296
def Mr(st:bL):bL:=
 let d:=dx st.x.S st.c.aa st.c.c st.c.run
 if d.2.1.e≠0 then oD st d.2.1
 else oD {st with x:=d.2.2.foldl cQ {st.x with S:=d.1,P:=Al st.x.P st.c.c (jk st.x.S st.c.c).1},c:={st.c with run:=(0,0)}} {d.2.1 with v:=Am st.x.P st.c.c (jk st.x.S st.c.c).1 d.2.1.v}
theorem akx(s:bL):rq s=Mr (eO s):=by rfl
def UH{s N:Nat}{H:List ae}{h z:AV}{y st:bL}{e:Env}{W:List ae}(Y: ∀op,kE op)(F:dg m p q s y h z H)(E:H.length=N)
  (I:e 1= .ptr N 0) (G:e 3= .ptr (N+1) 0) (f:dg m p q s st qv rv W) (k:fE (qv=h) p lo) (x:W[N]?=some (.box [.ptr s 0] none)) (t:W[N+1]?=some (.box (bp st.c.c) none)) (J:Fq m [p,q,s] H W)
  (g:qh st) (v:rM (dx st.x.S st.c.aa st.c.c st.c.run) st.c.c) (X:st.x.Q.length<4294967296) (i:oN):
  wp XC 174 false UA ⟨e,[]⟩ ⟨W,lo⟩ (dO XC N i [.t 2] (eu m p q s H i (Mr st) h (.bool true))):=by
 have T:=f.ps;have S:=f.co.qp;have U:=f.co.mp;have sN:s<N:=by rw[<-E];exact F.lt
 have R:=g.c.run;obtain⟨pv,u,P⟩:=avU st.x.S g.x.S st.c.c g.c.iJ W lo;have u:=cB u;obtain⟨bv,d1,d2⟩:=Ud st.x.S g.x.S st.c.aa g.c.aa st.c.c g.c.iJ st.c.run ⟨by omega,by omega⟩ (Y _) (W++[.box m2 none,.box [.int .i64 0,.int .u64 0,.int .u32 0] none]) lo;have d1:=cB d1;have C:=akm g.x.S st.c.c;unfold Mr;dsimp only;generalize V:dx st.x.S st.c.aa st.c.c st.c.run=d at*;obtain⟨M,w⟩: ∃M,W.length=M:=⟨_,rfl⟩;have D:N+2<=M:=by have:=dU t;omega
 have B:=λL=>bc (L:=L) x
 have o:=λL=>bc (L:=L) f.box
 have A:=λL=>bc (L:=L) t
 have n:=λL=>bc (L:=L) f.co.box
 have l: (bG d.2.1)[0]?=some (.int .i64 d.2.1.e):=rfl;rw[awU];by_cases he:d.2.1.e=0
 ·have j: ((d.2.1.e:Nat):Int)=0:=by omega
  rw[ada (λq=>q he)];simp only[go_sem,simprocAttr,ot,j4,mT,uo,uq,I,G,x,t,w,f.box,f.co.box,B,A,o,n,PL,↓PL,KL,↓KL,DZ,u,d1,l,j,mF,rK];refine aw1 (rv:=rv) (M:=M) (c:=st.c.c) (nx:=d.1) (r:=d.2.1) (bv:=bv) (pv:=pv) (pl:=(jk st.x.S st.c.c).1) (back:=d.2.2) F E ?_ rfl P C v.v d2 ⟨v.len,v.runs⟩ g v.S X i;exact⟨I,G,rfl,rfl,rfl,⟨qv,f.app _,k⟩,B _,A _,by rw[dv w];rfl,by rw[bA w];rfl,J.trans (Fq.app _ (by omega)),sN,D⟩
 ·have j: ¬((d.2.1.e:Nat):Int)=0:=by omega
  rw[adV he];obtain⟨cr,g1,O,K,W2,Q,rfl,g2,g3,Z⟩:=Ux (f.app [.box (bo d.1) none,.box (bG d.2.1) none]) g d.2.1 lo;simp only[go_sem,simprocAttr,ot,j4,mT,uo,uq,I,G,x,t,w,f.box,f.co.box,B,A,o,n,PL,↓PL,KL,↓KL,DZ,u,d1,l,j,mF,rK,g1];exact eu.akt F E g2 (J.trans (g3.pre (by omega))) (k.step Z λa b=>b.trans a) (aep _)
theorem UI:aI (bp c)=0:=rfl
def aw2{s:Nat}{H:List ae}{st:bL}(t: ∀op,kE op)(a:dg m p q s st qv rv H)(b:qh st)(h:rM (dx (eO st).x.S (eO st).c.aa (eO st).c.c (eO st).c.run) st.c.c)(V:st.x.Q.length<2147483648)(lo:oN):
  ∃C,D XC (.fn (.func 174) [] []) [.ptr s 0] ⟨H,lo⟩=some C/\eu m p q s H lo (rq st) qv (.bool true) C:=by
 have ho:Old s H (.box (dQ st p rv) none):=⟨a.box⟩;refine cz ot λN d=>?_
 have sN:s<N:=by rw[<-d];exact a.lt
 have R:=a.ps;have P:=a.co.qp;have S:=a.co.mp;rw[akx,awT];have O:=b.c.run;have G:=λH lo=>cB (Ue st.x.S b.x.S st.c.aa b.c.aa st.c.c b.c.iJ (t _) H lo)
 have F: (H++[.box [.ptr s 0] none,.box (bp st.c.c) none])[N]?=some (.box [.ptr s 0] none):=by rw[dv d];rfl
 have E: (H++[.box [.ptr s 0] none,.box (bp st.c.c) none])[N+1]?=some (.box (bp st.c.c) none):=by rw[bA d];rfl
 have f:=λL=>bc (L:=L) a.box
 have n:=λL=>bc (L:=L) a.co.box
 by_cases J:0<st.c.run.2
 ·have e: ((st.c.run.2:Nat):Int)>0:=by omega
  by_cases I:fa st.x.S st.c.aa st.c.c=st.c.run.2
  ·have g:decide (((fa st.x.S st.c.aa st.c.c:Nat):Int)=st.c.run.2)=true:=ad0 (by omega);have o:eO st=st:=ada (λq=>q.2 I);rw[o]at h⊢;simp only[go_sem,simprocAttr,ot,j4,mT,uo,uq,d,f,n,PL,↓PL,KL,↓KL,F9,Md,UI,Gd,e,G,g];exact UH t a d rfl rfl (a.app _) (fE.no rfl) F E (Fq.app _ (by omega)) b h (by omega) lo
  ·have g:decide (((fa st.x.S st.c.aa st.c.c:Nat):Int)=st.c.run.2)=false:=adZ (by omega);have o:eO st={st with x:=cQ st.x st.c.run,c:={st.c with run:=(0,0)}}:=adV ⟨J,I⟩;rw[o]at h⊢;obtain⟨C,g1,K,W,M,rfl,g2,u,U⟩:=Ut (a.co.app [.box [.ptr s 0] none,.box (bp st.c.c) none]) st.c.run ⟨by omega,by omega⟩ (by omega) none;have v:=(a.app [.box [.ptr s 0] none,.box (bp st.c.c) none]).ai g2 u;have B:N∉[p,q]:=by simp;omega
   have A:N+1∉[p,q]:=by simp;omega
   have v0:=u.own B F;have v1:=u.own A E;have j: [AV.int .i64 0,.int .i64 0]=aA (0,0):=rfl;have y: ∀r:aD,(aA r).length=2:=λ_=>rfl
   have w: ∀r:aD,aI (aA r)=0:=λ_=>rfl
   simp only[go_sem,simprocAttr,ot,j4,mT,uo,uq,d,f,n,PL,↓PL,KL,↓KL,F9,Md,UI,Gd,e,G,g,g1,v0,v.box,j,y,w,PS];have Q: (cQ st.x st.c.run).Q.length=st.x.Q.length+st.c.run.2:=by simp[cQ,gj]
   have z:qh {st with x:=cQ st.x st.c.run,c:={st.c with run:=(0,0)}}:=⟨⟨b.x.S,b.x.P,b.x.M,λk l=>by
    rcases aeq.1 l with l|l
    ·exact b.x.Q k l
    ·obtain⟨i,T,rfl⟩:=afJ.1 l;have:=alJ.1 T;show st.c.run.1+i<_;omega,by show(cQ st.x st.c.run).Q.length<_;omega⟩,⟨b.c.aa,b.c.iJ,b.c.aY,⟨by show 0<65536;omega,by show 0<65536;omega⟩,b.c.fb⟩⟩
   refine UH (st:={st with x:=cQ st.x st.c.run,c:={st.c with run:=(0,0)}}) t a d ?_ ?_ (v.set rfl a.aY) U.n ?_ ?_ ?_ z h (by show(cQ st.x st.c.run).Q.length<_;omega) lo
   ·exact rfl
   ·exact rfl
   ·exact(acK (by omega)).trans v0
   ·exact(acK (by omega)).trans v1
   ·exact((Fq.app _ (by omega)).trans u.m3).trans (v.fs _)
 ·have e: ¬((st.c.run.2:Nat):Int)>0:=by omega
  have o:eO st=st:=ada (λq=>J q.1);rw[o]at h⊢;simp only[go_sem,simprocAttr,ot,j4,mT,uo,uq,d,f,PL,↓PL,F9,UI,Gd,e];exact UH t a d rfl rfl (a.app _) (fE.no rfl) F E (Fq.app _ (by omega)) b h (by omega) lo
def ew:Nat->bL->bL×Bool
 |0=>ky|1=>kz|2=>kA|3=>ln|_=>λs=>(rq s,true)
def aky:Nat->FuncId
 |0=>170|1=>171|2=>172|3=>173|_=>174
def akz{s:bL}(h: (ky s).2=false): (ky s).1=s:=by
 unfold ky at*;grind
def akA{s:bL}(h: (kz s).2=false): (kz s).1=s:=by
 unfold kz at*;grind
def akB{s:bL}(h: (kA s).2=false): (kA s).1=s:=by
 unfold kA at*;grind
def akC{s:bL}(h: (ln s).2=false): (ln s).1=s:=by
 unfold ln at*;grind
def aw3{s:bL}(h: (ew k s).2=false): (ew k s).1=s:=by
 rcases(show k=0\/k=1\/k=2\/k=3\/4<=k by omega)with q|q|q|q|q
 ·subst q;exact akz h
 ·subst q;exact akA h
 ·subst q;exact akB h
 ·subst q;exact akC h
 ·obtain⟨j,rfl⟩: ∃j,k=j+4:=⟨k-4,by omega⟩;cases h
def mU(s:bL)(k:Nat):bL:=if(ew k s).2 then(ew k s).1 else match k with
 |0=>if(ew 1 s).2 then(ew 1 s).1 else if(ew 2 s).2 then(ew 2 s).1 else if(ew 3 s).2 then(ew 3 s).1 else(ew 4 s).1
 |1=>if(ew 2 s).2 then(ew 2 s).1 else if(ew 3 s).2 then(ew 3 s).1 else(ew 4 s).1
 |2=>if(ew 3 s).2 then(ew 3 s).1 else(ew 4 s).1
 |_=>(ew 4 s).1
def CD{s:bL}(h: (ew k s).2=true):mU s k=(ew k s).1:=by unfold mU;grind
def Gk{s:bL}(b:k<4)(h: (ew k s).2=false):mU s k=mU s (k+1):=by
 have a: ¬(ew k s).2=true:=by grind
 rcases(show k=0\/k=1\/k=2\/k=3 by omega)with q|q|q|q<;>subst q
 ·exact(ada a: (if(ew 0 s).2=true then(ew 0 s).1 else mU s 1)=mU s 1)
 ·exact(ada a: (if(ew 1 s).2=true then(ew 1 s).1 else mU s 2)=mU s 2)
 ·exact(ada a: (if(ew 2 s).2=true then(ew 2 s).1 else mU s 3)=mU s 3)
 ·exact(ada a: (if(ew 3 s).2=true then(ew 3 s).1 else mU s 4)=mU s 4)
def aw4(x:Core)(c:Call):fQ x c=mU ⟨x,c,bO,false⟩ 0:=by
 unfold fQ;dsimp only;generalize(⟨x,c,bO,false⟩:bL)=s;cases e: (ky s).2 with
 |true=>rw[adV rfl,CD (k:=0) e];rfl
 |false=>
  rw[ada (by simp),akz e,Gk (k:=0) (by omega) e];cases d: (kz s).2 with
  |true=>rw[adV rfl,CD (k:=1) d];rfl
  |false=>
   rw[ada (by simp),akA d,Gk (k:=1) (by omega) d];cases b: (kA s).2 with
   |true=>rw[adV rfl,CD (k:=2) b];rfl
   |false=>
    rw[ada (by simp),akB b,Gk (k:=2) (by omega) b];cases a: (ln s).2 with
    |true=>rw[adV rfl,CD (k:=3) a];rfl
    |false=>rw[ada (by simp),akC a,Gk (k:=3) (by omega) a,CD (k:=4) rfl];rfl
def aw5{s:Nat}{H:List ae}{st:bL}(c: ∀op,kE op)(b:dg m p q s st qv rv H)(a:qh st)(e:rM (dx (eO st).x.S (eO st).c.aa (eO st).c.c (eO st).c.run) st.c.c)(f:st.x.Q.length<2147483648)(k:Nat)(lo:oN):
  ∃d,D XC (.fn (.func (aky k)) [] []) [.ptr s 0] ⟨H,lo⟩=some d/\eu m p q s H lo (ew k st).1 qv (.bool (ew k st).2) d:=by
 rcases(show k=0\/k=1\/k=2\/k=3\/4<=k by omega)with h|h|h|h|h
 ·subst h;exact awL c b a lo
 ·subst h;exact awM b a lo
 ·subst h;exact awN c b a lo
 ·subst h;exact awO b a lo
 ·obtain⟨j,rfl⟩: ∃j,k=j+4:=⟨k-4,by omega⟩;exact aw2 c b a e f lo
def akD{X:Ctx}{f:FuncId}{fs args:lA}{E:AS}{r:aX}(h:D X (.fn (.func f) [] []) (fs++args) E=some r):D X (.fn (.func f) fs []) args E=some r:=by
 obtain⟨n,a⟩:=yu h;cases n with
 |zero=>cases a
 |succ n=>exact N7 (n:=n+1) _ _ _ _ a
def Ms(m p q:Nat)(H:List ae)(lo:oN)(st:bL)(qv:AV)(b:aX):Prop:=
 ∃a rL H' ak,b= .ret (.ay [.agg (bM st.c rL),.agg (bG st.r),.bool st.ended]) ⟨H',ak⟩/\dI m p q st.x a H'/\Rv rL 1 (st.c.aY.map hC)/\Fq m [p,q] H H'/\gp (a=qv) p H H' lo ak
def vK:lA:=[.int .i64 0,.int .u8 0,.int .u32 0,.int .u32 0,.int .u32 0,.int .u32 0,.int .u64 0,.bool false,.aq,.int .i64 0,.int .i64 0,.int .i64 0]
def nI:lA:=[.int .i64 0,.int .u64 0,.int .u32 0]
def Fq.cut{S T:lN}{H B W:List ae}(h:Fq m S (H++B) W)(d: ∀i∈S,i∈T\/H.length<=i)(e:m<=H.length):Fq m T H W:=⟨by have:=h.len;grind,λi a b=>by rw[h.low i a λq=>(d i q).elim b (by omega),ac7 (by omega)],λi o a ho c=>by
 exact h.box i o (λq=>by grind) ho (bc c)⟩
def Fq.out{T:lN}{H W:List ae}(h:Fq m T H W)(f:H.length<=i)(d:m<=H.length)(o:ae):Fq m T H (W.set i o):=⟨by rw[afL];exact h.len,λj a c=>by rw[acK (by omega)];exact h.low j a c,λj o a ho b=>by
 have e:=dU b;rw[acK (by omega)];exact h.box j o a ho b⟩
def Ms.fin{N:Nat}{H W:List ae}{i:Core}{st:bL}(e:dI m p q i a H)(g:H.length=N)(h:dI m p q st.x qv W)(c:Rv rv 1 (st.c.aY.map hC))(d:Fq m [p,q] H W)(l:fE (qv=a) p b):
  Ms m p q H lo st a (.ret (finish N lo (.ay [.agg (bM st.c rv),.agg (bG st.r),.bool st.ended]) ⟨W,b⟩).1 (finish N lo (.ay [.agg (bM st.c rv),.agg (bG st.r),.bool st.ended]) ⟨W,b⟩).2):=by
 have s:=e.lt;have r:=e.mp;have k: (AV.ay [.agg (bM st.c rv),.agg (bG st.r),.bool st.ended]).refs<=N:=by
  have:=Uw st.c (cK c (bB (λ_=>rfl) _));have o:= @rK st.r;simp[AV.refs,aI,this,o]
 rcases l with⟨rfl,f⟩| ⟨j,n,rfl⟩
 ·rw[iF (.inl rfl) k];refine⟨qv,rv,_,lo,rfl,h.oJ (Q:=qv=a) (.inr ⟨rfl,f⟩) id e g,c,d.take g (by omega),.inl ⟨rfl,?_,f⟩⟩;rw[afT];have:=d.len;omega
 ·rw[vH (by omega)];exact⟨qv,rv,W,cL lo j,rfl,h,c,d,.inr ⟨j,n,rfl⟩⟩
def aw6{H:List ae}{c:Call}(hD: ∀op,kE op)(J:dI m p q x qv H)(hx:jM x)(hc:fK c)(hr:Rv rv 1 (c.aY.map hC))
  (F:rM (dx (eO ⟨x,c,bO,false⟩).x.S (eO ⟨x,c,bO,false⟩).c.aa (eO ⟨x,c,bO,false⟩).c.c (eO ⟨x,c,bO,false⟩).c.run) c.c) (hQ:x.Q.length<2147483648) (lo:oN):
  ∃Y,D XC (.fn (.func 145) [] []) [.ptr p 0,.agg (bM c rv)] ⟨H,lo⟩=some Y/\Ms m p q H lo (fQ x c) qv Y:=by
 refine cz QB λN l=>?_
 have oI:p<N:=by rw[<-l];exact J.lt
 have Mo:=J.qp;have hmp:=J.mp;obtain⟨st,d⟩: ∃st:bL,st=⟨x,c,bO,false⟩:=⟨_,rfl⟩;have G: ∀ (c:Call) rv,List.take 12 (bM c rv)=bM c rv:=λ_ _=>rfl
 have v: ∀rv,AV.ptr p 0:: (bM c rv++[.int .i64 0,.int .u64 0,.int .u32 0,.bool false])=dQ st p rv:=λrv=>by rw[d];rfl
 have hrz:=cK hr (bB (λ_=>rfl) _);obtain⟨B,hB⟩: ∃B:List ae,B=[.box (bM c rv) none,.box vK none,.box nI none,.box (dQ st p rv) none]:=⟨_,rfl⟩;have hB4: (H++B).length=N+4:=by rw[hB];simp[l]
 have w:dg m p q (N+3) st qv rv (H++B):=by
  rw[d];exact⟨J.app B,by omega,by rw[hB,bA l,d];rfl,hr⟩
 have U:qh st:=by rw[d];exact⟨hx,hc⟩
 rw[aw4,<-d];rw[<-d]at F;have F:rM (dx (eO st).x.S (eO st).c.aa (eO st).c.c (eO st).c.run) st.c.c:=by rw[d]at F⊢;exact F
 have I: ∀ (c:Call) rv,(bM c rv).length=12:=λ_ _=>rfl
 have ag8:min 12 12=12:=rfl;have C: ∀k,k<5->qw false 5 1 (.agg [.fn (.func 170) [.ptr (N+3) 0] [],.fn (.func 171) [.ptr (N+3) 0] [],.fn (.func 172) [.ptr (N+3) 0] [],.fn (.func 173) [.ptr (N+3) 0] [],.fn (.func 174) [.ptr (N+3) 0] []]) (.int .i64 (k:Nat))=some (.fn (.func (aky k)) [.ptr (N+3) 0] []):=by
  intro k hk;rcases(show k=0\/k=1\/k=2\/k=3\/k=4 by omega)with h|h|h|h|h<;>subst h<;>rfl
 generalize X:AV.agg [.fn (.func 170) [.ptr (N+3) 0] [],.fn (.func 171) [.ptr (N+3) 0] [],.fn (.func 172) [.ptr (N+3) 0] [],.fn (.func 173) [.ptr (N+3) 0] [],.fn (.func 174) [.ptr (N+3) 0] []]=Z at C;simp only[go_sem,simprocAttr,QB,l,I,G,v,X];refine gN 5 (λk e W j=> ∃g s,e 4= .ptr (N+1) 0/\e 5= .ptr (N+2) 0/\e 7= .ptr (N+3) 0/\e 24=Z/\e 25= .int .i64 k/\k<=4/\dg m p q (N+3) st g s W/\fE (g=qv) p j/\Fq m [p,q,N+3] (H++B) W/\mU st 0=mU st k) 0 (by omega) ?_ ?_
 ·refine⟨qv,rv,?_⟩;simp only[go_sem,simprocAttr];rw[hB]at w⊢;exact⟨w,fE.no trivial,Fq.refl⟩
 rintro k hk e W j ⟨g,s,e4,e5,e7,L,K,hk4,hs,y,hf,A⟩ n hn;have E:=C k (by omega);obtain⟨Y,g1,Q,P,M,Lo,rfl,g2,g3,g4⟩:=aw5 hD hs U F (by rw[d];exact hQ) k j;have g1:=akD (fs:=[.ptr (N+3) 0]) (args:=[]) g1;simp only[bQ,go_sem,simprocAttr,aeY,e7,L,K];refine⟨λ_=>?_,λhh=>absurd (show((k:Nat):Int)<5 by omega) hh⟩;have f:=hf.trans g3;cases r: (ew k st).2 with
 |true=>
  rw[r]at g1;have v1:M[N+1]?=some (.box vK none):=f.own (by simp;omega) (by rw[hB,bA l];rfl);have v2:M[N+2]?=some (.box nI none):=f.own (by simp;omega) (by rw[hB,bA l];rfl);have O: ∀o,(M.set (N+1) o)[N+2]?=some (.box nI none):=λo=>(acK (by omega)).trans v2
  have s1:=λo=>cO (o:=o) v1
  have s2:=λo o'=>cO (o:=o') (O o)
  have s3: ∀o o':ae,((M.set (N+1) o).set (N+2) o')[N+1]?=some o:=λo o'=>(acK (by omega)).trans (s1 o)
  have S:vK.length=12:=rfl;have R:nI.length=3:=rfl;have u:List.drop 12 vK=[]:=rfl;have t:List.drop 3 nI=[]:=rfl;have V:=Uw (ew k st).1.c g2.rz;simp only[go_sem,simprocAttr,E,e4,e5,e7,g1,g2.box,v1,O,s2,s3,PL,↓PL,S,R,u,t,I,G,xA,uj,rK,V,z8];refine⟨by simp,by simp,?_⟩;rw[A,CD r];have hq3:q<N:=by omega
  refine Ms.fin J l ((g2.co.set v1 (by omega) (by omega) _).set (O _) (by omega) (by omega) _) g2.aY ?_ (y.step g4 λa b=>b.trans a);exact((f.cut (T:=[p,q]) (by intro i hi;simp at hi⊢;omega) (by omega)).out (by omega) (by omega) _).out (by omega) (by omega) _
 |false=>
  rw[r]at g1;have he:=aw3 r;rw[he]at g2;have z:k<4:=by
   rcases(show k<4\/k=4 by omega)with q|q
   ·exact q
   ·subst q;cases r
  simp(disch:=omega) only[go_sem,simprocAttr,E,e4,e5,e7,L,K,g1];exact⟨by omega,Q,P,by omega,g2,y.step g4 (λa b=>b.trans a),f,by rw[A,Gk z r]⟩
def db(x:dR):lA:=[.int .u8 x.op,.int .u8 x.a,.int .u8 x.b,.int .u8 x.c,.int .u16 x.n]
def dc(t:Task)(cv:AV):lA:=[cv,.int .i64 t.next]++arr 8 λi=>[.int .u64 (t.aY i)]
structure Gl(x:dR):Prop where
 op:x.op<39
 a:x.a<8
 b:x.b<8
 c:x.c<8
 n:x.n<65536
 j:x.op=5\/x.op=6->x.n<=64
structure lF(t:Task):Prop where
 len:t.code.length<=64
 ins: ∀x∈t.code,Gl x
 next:t.next<=64
 aY: ∀i,t.aY i<18446744073709551616
section
variable{t:Task}{cv:AV}
theorem xG: (dc t cv).length=10:=rfl
def Gm(h:cv.refs=0):aI (dc t cv)=0:=by
 unfold dc;rw[FE,B2 (λ_=>rfl)];simp[aI,AV.refs,h]
theorem akE: (dc t cv)[0]?=some cv:=rfl
theorem akF: (dc t cv)[1]?=some (.int .i64 t.next):=rfl
theorem akG: (dc t cv)[7]?=some (.int .u64 (t.aY 5)):=rfl
theorem akH: (dc t cv)[8]?=some (.int .u64 (t.aY 6)):=rfl
theorem akI:List.take 10 (dc t cv)=dc t cv:=rfl
def UJ(h:i<8): (dc t cv)[2+i]?=some (.int .u64 (t.aY i)):=by
 rcases(show i=0\/i=1\/i=2\/i=3\/i=4\/i=5\/i=6\/i=7 by omega)with q|q|q|q|q|q|q|q<;>subst q<;>rfl
theorem akJ{n:Nat}:aK (dc t cv) 1 [.int .i64 n]=dc {t with next:=n} cv:=rfl
def Gn{v:Nat}(h:i<8):aK (dc t cv) (2+i) [.int .u64 v]=dc {t with aY:=av t.aY i v} cv:=by
 rcases(show i=0\/i=1\/i=2\/i=3\/i=4\/i=5\/i=6\/i=7 by omega)with q|q|q|q|q|q|q|q<;>subst q<;>rfl
def TK:=gG @akE<|gG @akF<|gG @akG<|gG @akH<|gG @akI<|gG @akJ @xG
end
theorem akK(x:dR): (db x).length=5:=rfl
theorem akL(x:dR):aI (db x)=0:=rfl
theorem akM(x:dR): (db x)[0]?=some (.int .u8 x.op):=rfl
theorem akN(x:dR): (db x)[1]?=some (.int .u8 x.a):=rfl
theorem akO(x:dR): (db x)[2]?=some (.int .u8 x.b):=rfl
theorem akP(x:dR): (db x)[3]?=some (.int .u8 x.c):=rfl
theorem akQ(x:dR): (db x)[4]?=some (.int .u16 x.n):=rfl
theorem akR(x:dR):List.take 5 (db x)=db x:=rfl
theorem akS(x:dR):List.drop 5 (db x)=[]:=rfl
def IL:type_of% @akK/\type_of% @akL/\type_of% @akM/\type_of% @akN/\type_of% @akO/\type_of% @akP/\type_of% @akQ/\type_of% @akR/\type_of% @akS:=⟨akK,akL,akM,akN,akO,akP,akQ,akR,akS⟩
def CE:dR:=⟨0,0,0,0,0⟩
def Gp(t:Task):AV:=.ay [.agg (db ((rA t).getD CE)),.bool (rA t).isSome]
section
variable{t:Task}{cv:AV}(hv:Rv cv 5 (t.code.map db))(jL:lF t)(H:List ae)(lo:oN)
include hv jL
theorem UK:D X0 (.fn (.func 143) [] []) [.agg (dc t cv)] ⟨H,lo⟩=some (.ret (Gp t) ⟨H,lo⟩):=by
 refine aH J9 λN d=>?_
 have h:=jL.next;have i:=jL.len;have f: ¬((t.next:Nat):Int)<0:=by omega
 have a:=λE=>hv.bN (E:=E)
 have c: [AV.int .u8 0,.int .u8 0,.int .u8 0,.int .u8 0,.int .u16 0]=db CE:=rfl;unfold Gp rA;by_cases j:t.next<t.code.length
 ·have b: ¬((t.next:Nat):Int)>=t.code.length:=by omega
  have e:t.code[t.next]?=some (t.code.getD t.next default):=by grind
  rw[e];have g: (0:Int)<=t.next/\ (t.next:Int)<t.code.length:=by omega
  simp(disch:=omega) only[F1,go_sem,simprocAttr,J9,d,TK,f,a,b,hv.ca,hv.cD,g,IL,o9]
 ·have b: ((t.next:Nat):Int)>=t.code.length:=by omega
  have e:t.code[t.next]?=none:=alh (by omega);rw[e];simp only[F1,go_sem,simprocAttr,J9,d,TK,f,a,b,c,IL,o9]
omit hv jL in
theorem An(i:Nat)(a:i<8):D X0 (.fn (.func 144) [] []) [.agg (dc t cv),.int .u8 i] ⟨H,lo⟩=some (.ret (.int .u64 (t.aY i)) ⟨H,lo⟩):=by
 refine aH QA λN c=>?_
 have hm: ((i:Nat):Int).tmod 8=i:=by rw[Int.tmod_eq_emod_of_nonneg (by omega)];omega
 have b: (0:Int)<=i/\ (i:Int)<8:=by omega
 simp(disch:=omega) only[F1,go_sem,simprocAttr,QA,c,hm,b,UJ a]
omit hv in
theorem Gq{x:dR}(a:rA t=some x):Gl x:=by
 unfold rA at a;exact jL.ins x (ak8 a)
theorem UL:D X0 (.fn (.func 100) [] []) [.agg (dc t cv)] ⟨H,lo⟩=some (.ret (.ay [.agg (bp (iD t).1),.bool (iD t).2]) ⟨H,lo⟩):=by
 refine aH BP λN f=>?_
 have b:=λH lo=>UK hv jL H lo
 have m: [AV.int .u8 0,.int .u32 0,.int .u32 0,.int .u32 0,.int .u32 0,.int .u64 0]=bp mN:=rfl;have l: [AV.int .u8 20,.int .u32 0,.int .u32 0,.int .u32 0,.int .u32 0,.int .u64 0]=bp {mN with op:=20}:=rfl;have a: [AV.int .u8 0,.int .u8 0,.int .u8 0,.int .u8 0,.int .u16 0]=db CE:=rfl;have v: ∀c,List.take 6 (bp c)=bp c:=λ_=>rfl
 have w: ∀c,List.drop 6 (bp c)=[]:=λ_=>rfl
 unfold Gp at b;unfold iD;cases h:rA t with
 |none=>
  rw[h]at b;simp only[axE,awj]at b;simp only[F1,go_sem,simprocAttr,BP,f,TK,b,IL,a,o9];rfl
 |some x=>
  rw[h]at b;simp only[ak7,avo]at b;have ho:=Gq jL h;have p:=ho.op;have s:=jL.aY;by_cases j:x.op=0
  ·have d: (x.op:Int)=0:=by omega
   simp only[adV j];simp only[F1,go_sem,simprocAttr,BP,f,TK,b,IL,a,d,o9];rfl
  ·have d:decide ((x.op:Int)=0)=false:=adZ (by omega);by_cases k:x.op<=16
   ·have e: (x.op:Int)<=16:=by omega
    simp only[ada j,adV k];simp only[F1,go_sem,simprocAttr,BP,f,TK,b,IL,a,d,e,o9];rfl
   ·have e: ¬(x.op:Int)<=16:=by omega
    have r:x.b % 8=x.b:=an2 ho.b;have q:x.c % 8=x.c:=an2 ho.c;have o: (x.op:Int)-16=((x.op-16:Nat):Int):=by omega
    have g: ∀n:Nat,IntKind.wrap .u32 (n:Int)=((n % 4294967296:Nat):Int):=λn=>by
     unfold IntKind.wrap IntKind.bits IntKind.signed;simp
    have u:=ho.n;have i:x.n % 4294967296=x.n:=an2 (by omega);have rb:=λH lo=>An (t:=t) (cv:=cv) H lo x.b ho.b
    have rc:=λH lo=>An (t:=t) (cv:=cv) H lo x.c ho.c
    simp only[ada j,ada k,r,q];simp(disch:=omega) only[F1,go_sem,simprocAttr,BP,f,TK,b,IL,a,d,e,o9,rb,rc,o,g,i];rfl
end
theorem wrap64(n:Nat):IntKind.wrap .u64 (n:Int)=((n % mc:Nat):Int):=by rfl
theorem akT(n:Nat): ((n:Nat):Int).tmod 8=((n % 8:Nat):Int):=by rfl
section
variable{t:Task}{cv:AV}(hv:Rv cv 5 (t.code.map db))(jL:lF t)
include hv jL
theorem aw8(r:bF)(z:r.w<4294967296/\r.e<4294967296)(H:List ae)(lo:oN):
  D X0 (.fn (.func 175) [] []) [.agg (dc t cv),.agg (bG r)] ⟨H,lo⟩=some (.ret (.agg (dc (sW t r) cv)) ⟨H,lo⟩):=by
 refine aH Ff λN i=>?_
 have b:=λH lo=>UK hv jL H lo
 have hw:=λH lo=>UL hv jL H lo
 have e: [AV.int .u8 0,.int .u8 0,.int .u8 0,.int .u8 0,.int .u16 0]=db CE:=rfl;have d: [AV.int .u8 0,.int .u32 0,.int .u32 0,.int .u32 0,.int .u32 0,.int .u64 0]=bp mN:=rfl;have k: ∀c,(bp c).length=6:=λ_=>rfl
 have l: ∀c,List.drop 6 (bp c)=[]:=λ_=>rfl
 have j: ∀c,aI (bp c)=0:=λ_=>rfl
 have f:=λt:Task=>Gm (t:=t) (cK hv (bB (λ_=>rfl) _))
 have w:=jL.next;have u: (bG r)[0]?=some (.int .i64 r.e):=rfl;have s: (bG r)[1]?=some (.int .u64 r.v):=rfl;have q: (bG r)[2]?=some (.int .u32 r.w):=rfl;unfold Gp at b;unfold sW;cases hx:rA t with
 |none=>
  rw[hx]at b;simp only[axE,awj]at b;simp only[F1,go_sem,simprocAttr,Ff,i,TK,b,hw,IL,e,d,k,l,j,f]
 |some x=>
  rw[hx]at b;simp only[ak7,avo]at b;have ho:=Gq jL hx;cases g: (iD t).2 with
  |false=>
   rw[g]at hw;simp only[F1,go_sem,simprocAttr,Ff,i,TK,b,hw,IL,e,d,k,l,j,f]
  |true=>
   rw[g]at hw;have h:x.a % 8<8:=by omega
   have y: (0:Int)<=(x.a % 8:Nat)/\ ((x.a % 8:Nat):Int)<8:=by omega
   have m:=λ (t:Task) (v:Nat)=>Gn (t:=t) (cv:=cv) (v:=v) h
   have p: ∀ (t:Task) (v:Nat),aK (dc t cv) 6 [.int .u64 v]=dc {t with aY:=av t.aY 4 v} cv:=λ_ _=>rfl
   have o: ∀ (t:Task) (v:Nat),aK (dc t cv) 9 [.int .u64 v]=dc {t with aY:=av t.aY 7 v} cv:=λ_ _=>rfl
   have s1: ∀ (t:Task) (n:Nat),aK (dc t cv) 1 [.int .i64 ((n:Int)+1)]=dc {t with next:=n+1} cv:=λ_ _=>rfl
   simp only[af1];simp(disch:=omega) only[F1,go_sem,simprocAttr,Ff,i,TK,b,hw,IL,e,d,k,l,j,f,akT,y,m,p,o,s1,u,s,q];omega
end
section
variable{t:Task}{cv:AV}{x:dR}{n u5 u7 u8 a:Nat}{H:List ae}(hv:Rv cv 5 (t.code.map db))(jL:lF t)(hx:Gl x)(ha:a<8)(hn:H[n]?=some (.box (dc t cv) none))(h5:H[u5]?=some (.box (db x) none))(h7:H[u7]?=some (.box [.ptr n (2+a)] none))(h8:H[u8]?=some (.box [.int .i64 ((t.next:Int)+1)] none))(lo:oN)
abbrev Mt(t:Task)(a v:Nat):Task:={t with aY:=av t.aY a v}
include ha hn h5 h7 hx in
theorem aw9:D X0 (.fn (.func 148) [] [.ptr u5 0,.ptr u7 0]) [] ⟨H,lo⟩=some (.ret (.ay []) ⟨H.set n (.box (dc (Mt t a x.n) cv) none),lo⟩):=by
 refine eY QD λN c=>?_
 have b: ∀o,(H.set n o).take N=H.set n o:=λo=>ael (by simp[c])
 have e:=hx.n;have f:2+a<=9:=by omega
 have d:=λ (v:Nat)=>Gn (t:=t) (cv:=cv) (v:=v) ha
 simp(disch:=omega) only[F1,go_sem,simprocAttr,QD,c,hn,h5,h7,IL,d,b,xG,f]
include ha hn h5 h7 hx in
theorem axa:D X0 (.fn (.func 149) [] [.ptr n 0,.ptr u5 0,.ptr u7 0]) [] ⟨H,lo⟩=some (.ret (.ay []) ⟨H.set n (.box (dc (Mt t a ((t.aY x.b+t.aY x.c) % mc)) cv) none),lo⟩):=by
 refine eY QE λN c=>?_
 have b: ∀o,(H.set n o).take N=H.set n o:=λo=>ael (by simp[c])
 have e:2+a<=9:=by omega
 have d:=λ (v:Nat)=>Gn (t:=t) (cv:=cv) (v:=v) ha
 have rb:=λH lo=>An (t:=t) (cv:=cv) H lo x.b hx.b
 have rc:=λH lo=>An (t:=t) (cv:=cv) H lo x.c hx.c
 have hw:IntKind.wrap .u64 ((t.aY x.b:Int)+t.aY x.c)=(((t.aY x.b+t.aY x.c) % mc:Nat):Int):=wrap64 (t.aY x.b+t.aY x.c);simp(disch:=omega) only[F1,go_sem,simprocAttr,QE,c,hn,h5,h7,IL,TK,rb,rc,hw,d,b,e]
include jL ha hn h5 h7 hx in
theorem axb:D X0 (.fn (.func 150) [] [.ptr n 0,.ptr u5 0,.ptr u7 0]) [] ⟨H,lo⟩=some (.ret (.ay []) ⟨H.set n (.box (dc (Mt t a ((t.aY x.b+mc-t.aY x.c) % mc)) cv) none),lo⟩):=by
 refine eY QF λN c=>?_
 have b: ∀o,(H.set n o).take N=H.set n o:=λo=>ael (by simp[c])
 have e:2+a<=9:=by omega
 have d:=λ (v:Nat)=>Gn (t:=t) (cv:=cv) (v:=v) ha
 have rb:=λH lo=>An (t:=t) (cv:=cv) H lo x.b hx.b
 have rc:=λH lo=>An (t:=t) (cv:=cv) H lo x.c hx.c
 have g:=jL.aY x.b;have f:=jL.aY x.c;have hw:IntKind.wrap .u64 ((t.aY x.b:Int)-t.aY x.c)=(((t.aY x.b+mc-t.aY x.c) % mc:Nat):Int):=by
  unfold IntKind.wrap IntKind.bits IntKind.signed mc;simp;omega
 simp(disch:=omega) only[F1,go_sem,simprocAttr,QF,c,hn,h5,h7,IL,TK,rb,rc,hw,d,b,e]
include ha hn h5 h7 hx in
theorem axc:D X0 (.fn (.func 151) [] [.ptr n 0,.ptr u5 0,.ptr u7 0]) [] ⟨H,lo⟩=some (.ret (.ay []) ⟨H.set n (.box (dc (Mt t a (t.aY x.b*2^x.n % mc)) cv) none),lo⟩):=by
 refine eY QG λN d=>?_
 have b: ∀o,(H.set n o).take N=H.set n o:=λo=>ael (by simp[d])
 have f:2+a<=9:=by omega
 have e:=λ (v:Nat)=>Gn (t:=t) (cv:=cv) (v:=v) ha
 have rb:=λH lo=>An (t:=t) (cv:=cv) H lo x.b hx.b
 have c:kN .shl (.int .u64 (t.aY x.b)) (.int .u16 x.n)=some (.int .u64 ((t.aY x.b*2^x.n % mc:Nat))):=by
  rw[A1,adV (by omega)];have i: ∀k:Nat,((2:Int)^k)=((2^k:Nat):Int):=λk=>by rw[Int.natCast_pow];rfl
  rw[i,<-Int.natCast_mul,wrap64];have l:IntKind.u64.bits=64:=rfl;by_cases h:x.n<=64
  ·rw[show min ((x.n:Nat):Int).toNat IntKind.u64.bits=x.n by omega]
  ·rw[show min ((x.n:Nat):Int).toNat IntKind.u64.bits=64 by omega];have e1:t.aY x.b*2^64 % mc=0:=Nat.mul_mod_left _ _;have j:t.aY x.b*2^x.n % mc=0:=by
    obtain⟨k,g⟩:=Nat.exists_eq_add_of_le (show 64<=x.n by omega);rw[g,Nat.pow_add,<-Nat.mul_assoc,Nat.mul_right_comm];exact Nat.mul_mod_left _ _
   rw[e1,j]
 simp(disch:=omega) only[F1,go_sem,simprocAttr,QG,d,hn,h5,h7,IL,TK,rb,c,e,b,f]
include h5 h8 hx in
theorem axd:D X0 (.fn (.func 152) [] [.ptr u5 0,.ptr u8 0]) [] ⟨H,lo⟩=some (.ret (.ay []) ⟨H.set u8 (.box [.int .i64 x.n] none),lo⟩):=by
 refine eY QH λN c=>?_
 have b: ∀o,(H.set u8 o).take N=H.set u8 o:=λo=>ael (by simp[c])
 have d:=hx.n;simp(disch:=omega) only[F1,go_sem,simprocAttr,QH,c,h5,h8,IL,b]
include ha hn h5 h7 h8 hx in
theorem axe:D X0 (.fn (.func 153) [] [.ptr u7 0,.ptr u5 0,.ptr u8 0]) [] ⟨H,lo⟩=some (.ret (.ay []) ⟨H.set u8 (.box [.int .i64 ((if t.aY a≠0 then x.n else t.next+1:Nat))] none),lo⟩):=by
 refine eY Ka λN c=>?_
 have b: ∀o,(H.set u8 o).take N=H.set u8 o:=λo=>ael (by simp[c])
 have f:=hx.n;have g:2+a<=9:=by omega
 by_cases h:t.aY a=0
 ·have d: ((t.aY a:Nat):Int)=0:=by omega
  rw[ada (by omega)];have e:H.set u8 (.box [.int .i64 ((t.next+1:Nat):Int)] none)=H:=qb h8;rw[e];simp(disch:=omega) only[F1,go_sem,simprocAttr,Ka,c,hn,h5,h7,h8,IL,UJ ha,d,b]
 ·have d: ¬((t.aY a:Nat):Int)=0:=by omega
  rw[adV (by omega)];simp(disch:=omega) only[F1,go_sem,simprocAttr,Ka,c,hn,h5,h7,h8,IL,UJ ha,d,b]
end
def UM(N:Nat):List (AV×AV):=[(.int .u8 1,.fn (.func 148) [] [.ptr (N+3) 0,.ptr (N+4) 0]),(.int .u8 2,.fn (.func 149) [] [.ptr N 0,.ptr (N+3) 0,.ptr (N+4) 0]),(.int .u8 3,.fn (.func 150) [] [.ptr N 0,.ptr (N+3) 0,.ptr (N+4) 0]),(.int .u8 4,.fn (.func 151) [] [.ptr N 0,.ptr (N+3) 0,.ptr (N+4) 0]),(.int .u8 5,.fn (.func 152) [] [.ptr (N+3) 0,.ptr (N+5) 0]),(.int .u8 6,.fn (.func 153) [] [.ptr (N+4) 0,.ptr (N+3) 0,.ptr (N+5) 0])]
def oK(N k:Nat):List (AV×AV):=(UM N).take k
theorem axf(N:Nat):ae.map []= .map (oK N 0):=rfl
def CF{N:Nat}{H:List ae}(a:H.length=N)(B:List ae)(b:B.length=6){key:Int}(d:v.refs<=N+7)(h:lJ (.int .u8 key) v (oK N k)=some (oK N (k+1)))(lo:oN):
  mn ⟨H++(B++[.map (oK N k)]),lo⟩ .int (.mp (N+6)) (.int .u8 key) v=some ⟨H++(B++[.map (oK N (k+1))]),lo⟩:=by
 simp only[mn,kG,af1];have e: (H++(B++[ae.map (oK N k)]))[N+6]?=some (.map (oK N k)):=by grind
 simp only[e,h];have c: (H++(B++[ae.map (oK N k)])).set (N+6) (.map (oK N (k+1)))=H++(B++[.map (oK N (k+1))]):=by
  rw[aqd _ _ (by omega),aqd _ _ (by omega)];simp[a,b]
 simp only[AS.set,c]
 grind
def oL(N a:Nat):Option AV:=match a with
 |1=>some (.fn (.func 148) [] [.ptr (N+3) 0,.ptr (N+4) 0])
 |2=>some (.fn (.func 149) [] [.ptr N 0,.ptr (N+3) 0,.ptr (N+4) 0])
 |3=>some (.fn (.func 150) [] [.ptr N 0,.ptr (N+3) 0,.ptr (N+4) 0])
 |4=>some (.fn (.func 151) [] [.ptr N 0,.ptr (N+3) 0,.ptr (N+4) 0])
 |5=>some (.fn (.func 152) [] [.ptr (N+3) 0,.ptr (N+5) 0])
 |6=>some (.fn (.func 153) [] [.ptr (N+4) 0,.ptr (N+3) 0,.ptr (N+5) 0])
 |_=>none
def axg(N a:Nat):eg (.int .u8 a) (oK N 6)=some (oL N a):=by
 by_cases h:a<=6
 ·rcases(show a=0\/a=1\/a=2\/a=3\/a=4\/a=5\/a=6 by omega)with q|q|q|q|q|q|q<;>subst q<;>rfl
 ·have e:oL N a=none:=by unfold oL;grind
  rw[e];have b: ∀k:Int,k<=6->(((a:Nat):Int)==k)=false:=λk c=>by grind
  show eg (.int .u8 a) (UM N)=some none;unfold UM;simp only[eg,oT,af1,b 1 (by omega),b 2 (by omega),b 3 (by omega),b 4 (by omega),b 5 (by omega),b 6 (by omega)]
def axh{t:Task}{cv:AV}(X:Rv cv 5 (t.code.map db))(g:lF t)(H:List ae)(lo:oN):
  D X0 (.fn (.func 102) [] []) [.agg (dc t cv)] ⟨H,lo⟩=some (.ret (.agg (dc (rB t) cv)) ⟨H,lo⟩):=by
 refine aH J0 λN d=>?_
 have L:=λH lo=>UK X g H lo
 have hw:=λH lo=>UL X g H lo
 have U: [AV.int .u8 0,.int .u8 0,.int .u8 0,.int .u8 0,.int .u16 0]=db CE:=rfl;have G: [AV.int .u8 0,.int .u32 0,.int .u32 0,.int .u32 0,.int .u32 0,.int .u64 0]=bp mN:=rfl;have cl: ∀c,(bp c).length=6:=λ_=>rfl
 have cd: ∀c,List.drop 6 (bp c)=[]:=λ_=>rfl
 have cr: ∀c,aI (bp c)=0:=λ_=>rfl
 have a:=λt:Task=>Gm (t:=t) (cK X (bB (λ_=>rfl) _))
 have hnx:=g.next;unfold rB;cases s: (iD t).2 with
 |true=>
  rw[s]at hw;rw[adV rfl];simp only[F1,go_sem,simprocAttr,J0,d,TK,hw,G,cl,cd,cr,a]
 |false=>
  rw[s]at hw;rw[ada (by simp)];cases V:rA t with
  |none=>
   have: (iD t).2=true:=by unfold iD;rw[V]
   rw[s]at this;cases this
  |some x=>
   unfold Gp at L;rw[V]at L;simp only[ak7,avo]at L;have ho:=Gq g V;have i:x.a % 8<8:=by omega
   have hb: (0:Int)<=(x.a % 8:Nat)/\ ((x.a % 8:Nat):Int)<8:=by omega
   obtain⟨B,hB⟩: ∃B:List ae,B=[.box (dc t cv) none,.box [.aq,.int .i64 0,.int .u64 0,.int .u64 0,.int .u64 0,.int .u64 0,.int .u64 0,.int .u64 0,.int .u64 0,.int .u64 0] none,.box (bp (iD t).1) none,.box (db x) none,.box [.ptr N (2+x.a % 8)] none,.box [.int .i64 ((t.next:Int)+1)] none]:=⟨_,rfl⟩;have hm:=axf N;have l4:N<=N+4:=by omega
   have S:=CF (k:=0) (key:=1) (v:=.fn (.func 148) [] [.ptr (N+3) 0,.ptr (N+4) 0]) d B (by rw[hB];rfl) (by simp[AV.refs,aI]) rfl;have R:=CF (k:=1) (key:=2) (v:=.fn (.func 149) [] [.ptr N 0,.ptr (N+3) 0,.ptr (N+4) 0]) d B (by rw[hB];rfl) (by simp[AV.refs,aI]) rfl;have Q:=CF (k:=2) (key:=3) (v:=.fn (.func 150) [] [.ptr N 0,.ptr (N+3) 0,.ptr (N+4) 0]) d B (by rw[hB];rfl) (by simp[AV.refs,aI]) rfl;have P:=CF (k:=3) (key:=4) (v:=.fn (.func 151) [] [.ptr N 0,.ptr (N+3) 0,.ptr (N+4) 0]) d B (by rw[hB];rfl) (by simp[AV.refs,aI]) rfl;have O:=CF (k:=4) (key:=5) (v:=.fn (.func 152) [] [.ptr (N+3) 0,.ptr (N+5) 0]) d B (by rw[hB];rfl) (by simp[AV.refs,aI]) rfl;have M:=CF (k:=5) (key:=6) (v:=.fn (.func 153) [] [.ptr (N+4) 0,.ptr (N+3) 0,.ptr (N+5) 0]) d B (by rw[hB];rfl) (by simp[AV.refs,aI]) rfl;rw[hB]at S R Q P O M;simp only[ahn,ahk]at S R Q P O M;simp(disch:=omega) only[go_sem,simprocAttr,J0,d,TK,hw,L,IL,U,G,cl,cd,cr,akT,hb,hm,l4,S,R,Q,P,O,M];have Y: ∀E:AS,E.heap[N+6]?=some (.map (oK N 6))->jv X0.fU E .int .ds (.mp (N+6)) (.int .u8 x.op) true=some (match oL N x.op with|some v=>.ay [v,.bool true]|none=>.ay [.ds,.bool false]):=by
    intro E h;simp only[jv,kG,af1,mapOf,h,axg];cases oL N x.op<;>rfl
   rw[Y _ (by rw[bA d];rfl)];obtain⟨W,u⟩: ∃W,W=H++[.box (dc t cv) none,.box [.aq,.int .i64 0,.int .u64 0,.int .u64 0,.int .u64 0,.int .u64 0,.int .u64 0,.int .u64 0,.int .u64 0,.int .u64 0] none,.box (bp (iD t).1) none,.box (db x) none,.box [.ptr N (2+x.a % 8)] none,.box [.int .i64 ((t.next:Int)+1)] none,.map (oK N 6)]:=⟨_,rfl⟩;have w0:W[N]?=some (.box (dc t cv) none):=by rw[u,dv d];rfl
   have w1:W[N+1]?=some (.box [.aq,.int .i64 0,.int .u64 0,.int .u64 0,.int .u64 0,.int .u64 0,.int .u64 0,.int .u64 0,.int .u64 0,.int .u64 0] none):=by rw[u,bA d];rfl
   have y:W[N+3]?=some (.box (db x) none):=by rw[u,bA d];rfl
   have C:W[N+4]?=some (.box [.ptr N (2+x.a % 8)] none):=by rw[u,bA d];rfl
   have A:W[N+5]?=some (.box [.int .i64 ((t.next:Int)+1)] none):=by rw[u,bA d];rfl
   have wt:W.take N=H:=by rw[u,kb d]
   rw[<-u];have I:=λo=>cO (o:=o) w0
   have f: ∀o,(W.set N o)[N+1]?=_:=λo=>(acK (by omega)).trans w1
   have m: ∀o,(W.set N o)[N+5]?=_:=λo=>(acK (by omega)).trans A
   have g5:=λo=>cO (o:=o) A
   have w: ∀o,(W.set (N+5) o)[N]?=_:=λo=>(acK (by omega)).trans w0
   have Z: ∀o,(W.set (N+5) o)[N+1]?=_:=λo=>(acK (by omega)).trans w1
   have q:=λo o'=>cO (o:=o') (w o)
   have l: ∀o o',((W.set (N+5) o).set N o')[N+1]?=_:=λo o'=>(acK (by omega)).trans (Z o)
   have b:=λo o'=>cO (o:=o') (f o)
   have j:=λo o' J=>cO (o:=J) (l o o')
   have t0: ∀o o',((W.set N o).set (N+1) o').take N=H:=λo o'=>by rw[aqp (by omega),aqp (by omega),wt]
   have t5: ∀o o' J,(((W.set (N+5) o).set N o').set (N+1) J).take N=H:=λo o' J=>by rw[aqp (by omega),aqp (by omega),aqp (by omega),wt]
   have s1: ∀ (t:Task) (n:Nat),aK (dc t cv) 1 [.int .i64 ((n:Int)+1)]=dc {t with next:=n+1} cv:=λ_ _=>rfl
   have t10: ∀t:Task,List.take 10 (dc t cv)=dc t cv:=λ_=>rfl
   have c1:=λlo=>aw9 ho i w0 y C lo
   have c2:=λlo=>axa ho i w0 y C lo
   have c3:=λlo=>axb g ho i w0 y C lo
   have c4:=λlo=>axc ho i w0 y C lo
   have c5:=λlo=>axd ho y A lo
   have c6:=λlo=>axe ho i w0 y C A lo
   have eb:x.b % 8=x.b:=an2 ho.b;have ec:x.c % 8=x.c:=an2 ho.c;rw[eb,ec];by_cases p:x.op=1
   ·rw[adV p,p];simp only[oL];simp only[F1,go_sem,simprocAttr,c1,I,f,m,b,t0,alg,TK,s1,t10,a]
   ·by_cases r:x.op=2
    ·rw[ada p,adV r,r];simp only[oL];simp only[F1,go_sem,simprocAttr,c2,I,f,m,b,t0,alg,TK,s1,t10,a]
    ·by_cases z:x.op=3
     ·rw[ada p,ada r,adV z,z];simp only[oL];simp only[F1,go_sem,simprocAttr,c3,I,f,m,b,t0,alg,TK,s1,t10,a]
     ·by_cases F:x.op=4
      ·rw[ada p,ada r,ada z,adV F,F];simp only[oL];simp only[F1,go_sem,simprocAttr,c4,I,f,m,b,t0,alg,TK,s1,t10,a]
      ·by_cases K:x.op=5
       ·rw[ada p,ada r,ada z,ada F,adV K,K];simp only[oL];simp only[F1,go_sem,simprocAttr,c5,g5,w,q,l,j,t5,TK,t10,a]
       ·by_cases T:x.op=6
        ·rw[ada p,ada r,ada z,ada F,ada K,adV T,T];simp only[oL];simp only[F1,go_sem,simprocAttr,c6,g5,w,q,l,j,t5,TK,t10,a]
        ·rw[ada p,ada r,ada z,ada F,ada K,ada T];have e:oL N x.op=none:=by unfold oL;split<;>first|omega|rfl
         rw[e];simp only[F1,go_sem,simprocAttr,w0,A,I,f,b,t0,TK,s1,t10,a]
instance:Inhabited dR:=⟨CE⟩
def axi(v fv:AV)(l:List dR)(H:List ae)(c:Rd ⟨H,none⟩ v 5 (l.map db))(s:l.length<2147483648)(p:dR->Bool)(lo:oN)
  (q: ∀x∈l,D X0 fv [.agg (db x)] ⟨H,none⟩=some (.ret (.bool (p x)) ⟨H,none⟩)):D X0 (.fn (.func 183) [] []) [v,fv] ⟨H,lo⟩=some (.ret (.int .i64 (kC p l)) ⟨H,lo⟩):=by
 refine aH QV λN w=>?_
 simp only[go_sem,simprocAttr,QV,c.bN];refine dP l.length (λk e H'=>H'=H/\e 0=v/\e 1=fv/\e 7= .int .i64 l.length/\e 8= .int .i64 k/\ ∀j,j<k->p (l.getD j default)=false) 0 (by omega) ?_ ?_
 ·simp only[go_sem,simprocAttr];omega
 ·rintro k t e H' ⟨rfl,o,m,i,g,d⟩ n r;simp(disch:=omega) only[bQ,F1,go_sem,simprocAttr,ae7,o,m,i,g];refine⟨λh=>?_,λh=>?_⟩
  ·have a:k<l.length:=by omega
   have b: ∀x,Den.part true 5 (db x) 0=some (.agg (db x)):=λ_=>rfl
   simp(disch:=omega) only[go_sem,simprocAttr,c.ca,c.cD,↓b,q _ (eo a)];refine⟨by omega,?_⟩;cases f:p (l.getD k default)
   ·simp(disch:=omega) only[go_sem,simprocAttr,o,m,i,g];exact⟨a,nv d f⟩
   ·simp(disch:=omega) only[F1,go_sem,simprocAttr];rw[zS a d f]
  ·rw[zT (λj u=>d j (by omega))]
def axj(v fv:AV)(l:List dR)(H:List ae)(a:Rd ⟨H,none⟩ v 5 (l.map db))(b:l.length<2147483648)(p:dR->Bool)(lo:oN)
  (c: ∀x∈l,D X0 fv [.agg (db x)] ⟨H,none⟩=some (.ret (.bool (p x)) ⟨H,none⟩)):D X0 (.fn (.func 163) [] []) [v,fv] ⟨H,lo⟩=some (.ret (.bool (l.any p)) ⟨H,lo⟩):=by
 refine aH QN λN d=>?_
 simp(disch:=omega) only[F1,go_sem,simprocAttr,QN,axi v fv l H a b p none c,zR]
def axk(x:dR)(n:Nat)(f:x.op<256/\x.a<256/\x.b<256/\x.c<256/\x.n<65536)(k:n<2147483648)(H:List ae)(lo:oN):
  D X0 (.fn (.func 165) [] []) [.agg (db x),.int .i64 n] ⟨H,lo⟩=some (.ret (.bool (ru x n)) ⟨H,lo⟩):=by
 refine aH QP λN g=>?_
 obtain⟨q,p,o,m,l⟩:=f;simp only[go_sem,simprocAttr,QP,g,IL];refine we 5 (.bool (decide (16<x.op)&&decide (x.op<=38))) [1,2] rfl rfl ?_ λr=>?_
 ·simp(disch:=omega) only[R4,go_sem,simprocAttr,IL]
  (repeat' (first|apply And.intro|intro _))
  all_goals(refine ag9 AV.bool (amt.2 ?_);simp[];try(intros;omega))
 simp(disch:=omega) only[go_sem,simprocAttr,IL];refine we 6 (.bool (decide (x.op=5)||decide (x.op=6))) [1,2,5] rfl rfl ?_ λe1=>?_
 ·simp(disch:=omega) only[R4,go_sem,simprocAttr,IL]
  (repeat' (first|apply And.intro|intro _))
  all_goals(refine ag9 AV.bool (amt.2 ?_);simp[];try(intros;omega))
 have a:gv qu [.int .u8 (x.a:Nat),.int .u8 (x.b:Nat),.int .u8 (x.c:Nat)]=some (.int .u8 ((max (max x.a x.b) x.c:Nat))):=by
  have e:gv qu [.int .u8 (x.a:Nat),.int .u8 (x.b:Nat),.int .u8 (x.c:Nat)]=some (.int .u8 (if(x.c:Int)>(if(x.b:Int)>x.a then(x.b:Int)else x.a)then(x.c:Int)else(if(x.b:Int)>x.a then(x.b:Int)else x.a))):=by simp[gv,qu]
  rw[e];congr 2;split<;>split<;>omega
 have b:decide (((max (max x.a x.b) x.c:Nat):Int)<8)=decide (x.a<8/\x.b<8/\x.c<8):=afS.2 (by omega);have d:decide ((x.op:Int)<=6)=decide (x.op<=6):=afS.2 (by omega);have c:decide ((x.n:Int)<n)=decide (x.n<n):=afS.2 (by omega);unfold ru;generalize decide (x.op<=6)=j at*;generalize decide (x.a<8/\x.b<8/\x.c<8)=i at*;generalize decide (x.n<n)=h at*;generalize(decide (16<x.op)&&decide (x.op<=38))=A at*;generalize(decide (x.op=5)||decide (x.op=6))=J at*;cases j<;>cases A<;>cases i<;>cases J<;>cases h<;>simp(disch:=omega) only[F1,go_sem,simprocAttr,IL,d,a,b,c,Bool.or_false,auJ,aqZ,Bool.or_true,asR,aw0]
def axl(v:AV)(l:List dR)(p:l.length<2147483648)(q: ∀x∈l,x.op<256/\x.a<256/\x.b<256/\x.c<256/\x.n<65536)(N:Nat)(H:List ae)(f:Rd ⟨H,none⟩ v 5 (l.map db))(lo:oN)(r:v.refs<=H.length)(t:v.cq=false/\v.cells=[v]):
  D X0 (.fn (.func 136) [] []) [v] ⟨H,lo⟩=some (.ret (.bool (pY l)) ⟨H,lo⟩):=by
 refine aH J6 λN m=>?_
 have b: ∀lo,nV ⟨H,lo⟩ v none=some (.ptr N 0,⟨H++[.box [v] none],lo⟩):=λlo=>by
  have s:=f.kind;subst m;cases v<;>simp only[]at s<;>rfl
 have g:=f.bN;have a:Rd ⟨H++[.box [v] none],none⟩ v 5 (l.map db):=f.ext;have j:=axj v (.fn (.func 164) [] [.ptr N 0]) l (H++[.box [v] none]) a p (λx=>!ru x l.length) none (λx h=>by
  refine eY QO λM n=>?_
  have k: ∀L,(H++(.box [v] none::L))[N]?=some (.box [v] none):=λL=>by rw[dv m];rfl
  have i: ∀L,fW ⟨H++(.box [v] none::L),none⟩ .sl v=some (.int .i64 l.length):=λL=>Rd.bN (f.ext (L:=.box [v] none::L))
  have hm:=λH lo=>axk x l.length (q x h) p H lo
  have c: ∀x,Den.part true 5 (db x) 0=some (.agg (db x)):=λ_=>rfl
  obtain rfl:M=N+1:=by rw[<-n];simp[m]
  simp(disch:=omega) only[F1,go_sem,simprocAttr,QO,n,↓c,k,i,hm];refine dj rfl ?_;have e:H++[ae.box [v] none,.box (db x) none]=(H++[.box [v] none])++[.box (db x) none]:=by simp
  rw[e,aog n])
 unfold pY;by_cases d:l.length<=64
 ·have o: ((l.length:Nat):Int)<=64:=by omega
  rw[ad0 d,al1];simp(disch:=omega) only[F1,go_sem,simprocAttr,J6,b,a.bN,o,j];rw[axD]
 ·have o: ¬((l.length:Nat):Int)<=64:=by omega
  rw[adZ d,ahj];simp(disch:=omega) only[F1,go_sem,simprocAttr,J6,b,a.bN,o]
def qj(l:lB):dR:=⟨(l.getD 0 0).toNat,(l.getD 1 0).toNat,(l.getD 2 0).toNat,(l.getD 3 0).toNat,(l.getD 4 0).toNat+256*(l.getD 5 0).toNat⟩
def axm{s:lB}(h:k+6<=s.length):ry (s.drop k)=qj (s.drop k)::ry (s.drop (k+6)):=by
 have e:s.drop (k+6)=(s.drop k).drop 6:=by simp
 rw[e];have g:6<=(s.drop k).length:=by grind
 generalize s.drop k=l at*
 match l,g with
 |a::b::c::d::e::f::r,_=>rfl
def axn(e f:Nat)(a:e<256)(d:f<256):dt .or (.int .u16 e) (.int .u16 ((f*256:Nat)))=some (.int .u16 ((e+256*f:Nat))):=by
 rw[HM];have e1: ∀n:Nat,n<65536->(BitVec.ofInt IntKind.u16.bits (n:Int)).toNat=n:=by
  have:IntKind.u16.bits=16:=rfl
  grind
 have c:e|||f*256=e+256*f:=by
  have:=Nat.shiftLeft_add_eq_or_of_lt (b:=e) (i:=8) a f;rw[Nat.shiftLeft_eq]at this
  grind
 rw[BitVec.toNat_or,e1 e (by omega),e1 (f*256) (by omega),c];have:IntKind.wrap .u16 ((e+256*f:Nat):Int)=((e+256*f:Nat):Int):=by
  unfold IntKind.wrap IntKind.bits IntKind.signed;grind
 rw[this]
def axo(f:Nat)(a:f<256):kN .shl (.int .u16 f) (.int .u64 8)=some (.int .u16 ((f*256:Nat))):=by
 rw[A1,adV (by omega)];have:IntKind.wrap .u16 ((f:Int)*2^(min (8:Int).toNat IntKind.u16.bits))=((f*256:Nat):Int):=by
  have h:min (8:Int).toNat IntKind.u16.bits=8:=rfl;rw[h];unfold IntKind.wrap IntKind.bits IntKind.signed;grind
 rw[this]
def axp{H:List ae}{n:Nat}{s:lB}(k:H[n]?=some (.box [.int .u8 0,.int .u8 0,.int .u8 0,.int .u8 0,.int .u8 0,.int .u8 0] none))(j:6<=s.length):
  rT ⟨H,lo⟩ 1 (.fj n 1 0 6) (S s)=some (.int .i64 6,⟨H.set n (.box [.int .u8 (s.getD 0 0).toNat,.int .u8 (s.getD 1 0).toNat,.int .u8 (s.getD 2 0).toNat,.int .u8 (s.getD 3 0).toNat,.int .u8 (s.getD 4 0).toNat,.int .u8 (s.getD 5 0).toNat] none),lo⟩):=by
 match s,j with
 |a::b::c::d::e::f::r,_=>
  have l:CV ⟨H,lo⟩ 1 (S (a::b::c::d::e::f::r))=some ((a::b::c::d::e::f::r).map λx=>[.int .u8 x.toNat]):=by
   simp only[CV,S,af1];rfl
  have i:bZ ((a::b::c::d::e::f::r).map λx:UInt8=>[AV.int .u8 x.toNat])=0:=bB (g:=λx:UInt8=>[AV.int .u8 x.toNat]) (λ_=>rfl) _;have h: ((a::b::c::d::e::f::r).map λx:UInt8=>[AV.int .u8 x.toNat]).all (λel=>el.length==1)=true:=by simp
  have m: ((a::b::c::d::e::f::r).map λx:UInt8=>[AV.int .u8 x.toNat]).length.min 6=6:=by
   show min _ 6=6;simp
  simp only[rT,l,k,m,i,AS.set,h];rw[adV ⟨trivial,by decide,trivial⟩,adV (aep _)];rfl
def axq(l:lB): (qj l).op<256/\ (qj l).a<256/\ (qj l).b<256/\ (qj l).c<256/\ (qj l).n<65536:=by
 have h: ∀u:UInt8,u.toNat<256:=λu=>u.toNat_lt
 refine⟨h _,h _,h _,h _,?_⟩;have b:=h (l.getD 4 0);have a:=h (l.getD 5 0);show(l.getD 4 0).toNat+256*(l.getD 5 0).toNat<65536;omega
def gI(s:lB)(k:Nat):List dR:=(List.range k).map λi=>qj (s.drop (6*i))
def UN(s:lB)(k:Nat):gI s (k+1)=gI s k++[qj (s.drop (6*k))]:=by unfold gI;rw[aoH,afI];rfl
theorem akU{s:lB}: ∀m k,6*(k+m)=s.length->gI s k++ry (s.drop (6*k))=gI s (k+m)
 |0,k,h=>by
  have:s.drop (6*k)=[]:=ahl (by omega);rw[this];simp[ry]
 |m+1,k,h=>by
  have hle:6*k+6<=s.length:=by omega
  rw[axm hle];have:=akU (s:=s) m (k+1) (by omega);rw[UN]at this
  grind
def akV{s:lB}(h:s.length % 6=0):ry s=gI s (s.length/6):=by
 have:=akU (s:=s) (s.length/6) 0 (by omega);simpa[gI]using this
def akW(s:lB)(H:List ae)(lo:oN):
  ∃v,D X0 (.fn (.func 93) [] []) [S s] ⟨H,lo⟩=some (.ret (.ay [v,.int .i64 (if(decode s).isSome then 0 else 3:Nat)]) ⟨H,lo⟩)/\Rv v 5 (((decode s).getD []).map db):=by
 suffices B: ∃o,D X0 (.fn (.func 93) [] []) [S s] ⟨H,lo⟩=some o/\ (λo=> ∃v,o=aX.ret (.ay [v,.int .i64 (if(decode s).isSome then 0 else 3:Nat)]) ⟨H,lo⟩/\Rv v 5 (((decode s).getD []).map db)) o by grind
 refine cz E9 λN A=>?_
 have tm: ((s.length:Nat):Int).tmod 6=((s.length % 6:Nat):Int):=by rfl
 by_cases G:s.length % 6=0
 ·have c:decide (((s.length % 6:Nat):Int)=0)=true:=ad0 (by omega);by_cases T:s.length<=384
  ·have g: ¬((s.length:Nat):Int)>384:=by omega
   simp only[go_sem,simprocAttr,E9,tm,c,g];refine dP (s.length/6) (λk e W=>e 0=S (s.drop (6*k))/\H<+:W/\aT N W (e 4) 5 aei ((gI s k).map db)) 0 (by omega) ?_ ?_
   ·simp only[go_sem,simprocAttr];exact⟨aqO,aT.aq⟩
   rintro k R e W ⟨d,a,h⟩ n C;have K: (s.drop (6*k)).length=s.length-6*k:=ams ..;simp only[bQ,go_sem,simprocAttr,aeU,d,C];refine⟨λO=>?_,λO=>?_⟩
   ·have f:k<s.length/6:=by omega
    have P:6<=(s.drop (6*k)).length:=by omega
    have z:=λlo=>axp (lo:=lo) (H:=W++[.box [.int .u8 0,.int .u8 0,.int .u8 0,.int .u8 0,.int .u8 0,.int .u8 0] none]) (n:=n) (s:=s.drop (6*k)) (by rw[dv C];rfl) P
    have r:uB (S (s.drop (6*k))) (some (.int .i64 6)) none=some (S (s.drop (6*(k+1)))):=by
     rw[HN,adV ⟨by omega,by omega⟩,apf];rfl
    have E:qj (s.drop (6*k))=qj (s.drop (6*k)):=rfl;have F: ∀j,((s.drop (6*k)).getD j 0).toNat<256:=λj=>UInt8.toNat_lt _
    have Q:=F 4;have I:=F 5;have w:=axn _ _ Q I;have t:=axo _ I;simp(disch:=omega) only[go_sem,simprocAttr,d,ajI,z,w,t];have l: (gI s k).length=k:=by simp[gI]
    refine o7 (N:=N) (H0:=H) (bytes:=6) (ys:=[db (qj (s.drop (6*k)))]) h.ext (a.trans (anZ _ _)) A (by omega) (by intro el y;rw[afD.1 y];rfl) rfl (by rw[aer,l];show(k+1)*6<=room;unfold room;omega) λv' U p u=>?_
    simp only[go_sem,simprocAttr,d,r];refine⟨f,u,?_⟩;rw[UN,afI];exact p
   ·have f:k=s.length/6:=by omega
    have m:ry s=gI s k:=by rw[f];exact akV G
    have l: (gI s k).length=k:=by simp[gI]
    have b:=λlo=>axl (e 4) (gI s k) (by omega) (λx B=>by
     obtain⟨i,_,rfl⟩:=afJ.1 B;exact axq _) 0 W (jJ h none) lo (by
     rcases h.2 with⟨q,_⟩| ⟨id,aj,_,q,J⟩
     ·rw[q];exact aep _
     ·rw[q];have:=dU J;simp only[AV.refs];omega) (nF (jJ h none))
    have d:decode s=if pY (gI s k)then some (gI s k)else none:=by unfold decode;rw[ada (by omega),m]
    rw[d];cases hm:pY (gI s k)with
    |true=>
     rw[hm]at b;simp only[go_sem,simprocAttr,b];rw[h.ade (by rw[bB (λ_=>rfl)];omega) (aep _)];exact⟨_,dj rfl (lv A λi M=>by obtain⟨L,rfl⟩:=a;rw[ac7 (by omega)]),aT.o8 h⟩
    |false=>
     rw[hm]at b;simp only[go_sem,simprocAttr,b];rw[oF rfl];exact⟨.aq,dj rfl (lv A λi M=>by obtain⟨L,rfl⟩:=a;rw[ac7 (by omega)]),.aq⟩
  ·have g: ((s.length:Nat):Int)>384:=by omega
   have d:decode s=none:=by unfold decode;rw[adV (.inr (by omega))]
   rw[d];simp(disch:=omega) only[F1,go_sem,simprocAttr,E9,tm,c,g];exact⟨.aq,rfl,.aq⟩
 ·have c:decide (((s.length % 6:Nat):Int)=0)=false:=adZ (by omega);have d:decode s=none:=by unfold decode;rw[adV (.inl G)]
  rw[d];simp(disch:=omega) only[F1,go_sem,simprocAttr,E9,tm,c];exact⟨.aq,rfl,.aq⟩
def axr(b:UInt8)(H:List ae)(lo:oN):D X0 (.fn (.func 97) [] []) [.int .u8 b.toNat] ⟨H,lo⟩=some (.ret (.bool (lr b.toNat)) ⟨H,lo⟩):=by
 refine aH Qq λN h=>?_
 generalize b.toNat=n at*;have e1:decide ((n:Int)<8)=decide (n<8):=afS.2 (by omega);have c:decide ((n:Int)=8)=decide (n=8):=afS.2 (by omega);have e3:decide (16<=(n:Int))=decide (16<=n):=afS.2 (by omega);have a:decide ((n:Int)<24)=decide (n<24):=afS.2 (by omega);unfold lr;generalize decide (n<8)=g at*;generalize decide (n=8)=f at*;generalize decide (16<=n)=e at*;generalize decide (n<24)=d at*;cases g<;>cases f<;>cases e<;>cases d<;>simp(disch:=omega) only[F1,go_sem,simprocAttr,Qq,e1,c,e3,a,Bool.or_false,auJ,aqZ,Bool.or_true]
def axs(p:lB)(H:List ae)(lo:oN):D X0 (.fn (.func 92) [] []) [S p] ⟨H,lo⟩=some (.ret (.bool (!(decode p).isSome)) ⟨H,lo⟩):=by
 refine aH JY λN b=>?_
 obtain⟨v,d1,_⟩:=akW p H none;cases a: (decode p).isSome with
 |true=>
  rw[a]at d1;simp(disch:=omega) only[F1,go_sem,simprocAttr,JY,d1]
 |false=>
  rw[a]at d1;simp(disch:=omega) only[F1,go_sem,simprocAttr,JY,d1]
def axt(b:UInt8)(H:List ae)(lo:oN):D X0 (.fn (.func 96) [] []) [.int .u8 b.toNat] ⟨H,lo⟩=some (.ret (.bool (!lr b.toNat)) ⟨H,lo⟩):=by
 refine aH Qp λN a=>?_
 simp(disch:=omega) only[F1,go_sem,simprocAttr,Qp,axr]
structure Gr(aM:Int)(aE:List lB)(aJ:lB)(pv kv:AV):Prop where
 pr:Rv pv 1 (aE.map sC)
 pk:Rv kv 1 (aJ.map bC)
 np:aE.length<1099511627776
 nk:aJ.length<1099511627776
def axu{a:Int}{aE:List lB}{aJ:lB}{pv kv:AV}(h:Gr a aE aJ pv kv)(n: -9223372036854775808<=a/\a<9223372036854775808)(H:List ae)(lo:oN):
  D X0 (.fn (.func 62) [] []) [.agg [.int .i64 a,pv,kv]] ⟨H,lo⟩=some (.ret (.bool (nu ⟨a,aE,aJ.map UInt8.toNat⟩)) ⟨H,lo⟩):=by
 refine aH Qa λN r=>?_
 have o:=cK h.pr (bB (λ_=>rfl) _);have q:=cK h.pk (bB (λ_=>rfl) _);have c:=λH lo=>asb pv (.fn (.func 92) [] []) aE h.pr h.np (λp=>!(decode p).isSome) H lo (λx _=>axs x H none)
 have d:=λH lo=>ar9 kv (.fn (.func 96) [] []) aJ h.pk h.nk (λb=>!lr b.toNat) H lo (λx _=>axt x H none)
 have m: (!aE.any λp=>!(decode p).isSome)=aE.all λp=>(decode p).isSome:=axD.symm
 have l: (!aJ.any λb=>!lr b.toNat)=aJ.all λb=>lr b.toNat:=axD.symm
 have k:nu ⟨a,aE,aJ.map UInt8.toNat⟩=(decide (1<=a/\a<=64/\1<=aE.length/\aE.length<=8/\aJ.length<=4000)&&aE.all (λp=>(decode p).isSome)&&aJ.all λb=>lr b.toNat):=by
  unfold nu;simp only[aer,List.all_map];rfl
 have e1:decide (1<=a/\a<=64/\1<=aE.length/\aE.length<=8/\aJ.length<=4000)=(!decide (a<1)&& !decide (64<a)&& !decide ((aE.length:Int)<1)&& !decide (8< (aE.length:Int))&& !decide (4000< (aJ.length:Int))):=by
  rw[amt];simp;omega
 rw[k,e1,<-m,<-l];generalize j:decide (a<1)=z;generalize i:decide (64<a)=y;generalize g:decide ((aE.length:Int)<1)=w;generalize f:decide (8< (aE.length:Int))=v;generalize e:decide (4000< (aJ.length:Int))=u;generalize(aE.any λp=>!(decode p).isSome)=t at*;generalize(aJ.any λb=>!lr b.toNat)=s at*;clear m l k e1;cases z<;>cases y<;>cases w<;>cases v<;>cases u<;>simp only[F1,go_sem,simprocAttr,Qa,r,h.pr.bN,h.pk.bN,j,i,g,f,e,ahj,aqZ,asR,aw0,auJ,al1];cases t<;>cases s<;>simp(disch:=omega) only[F1,go_sem,simprocAttr,c,d,aqZ,asR,aw0,auJ]
def axv(p:lB)(H:List ae)(lo:oN):
  ∃cv,D X0 (.fn (.func 64) [] []) [S p] ⟨H,lo⟩=some (.ret (.ay [.agg (dc {sX with code:=(decode p).getD []} cv),.int .i64 (if(decode p).isSome then 0 else 3:Nat)]) ⟨H,lo⟩)/\Rv cv 5 (((decode p).getD []).map db):=by
 obtain⟨N,c⟩: ∃N,H.length=N:=⟨_,rfl⟩;obtain⟨v,d1,d2⟩:=akW p (H++[.box [.aq,.int .i64 0,.int .u64 0,.int .u64 0,.int .u64 0,.int .u64 0,.int .u64 0,.int .u64 0,.int .u64 0,.int .u64 0] none]) none;have a:=cK d2 (bB (λ_=>rfl) _);obtain⟨t1,t2⟩:=nF (d2 ⟨[],none⟩);cases b:decode p with
 |some l=>
  rw[b]at d1 d2;refine⟨v,?_,d2⟩;refine aH E2 λM d=>?_
  obtain rfl:M=N:=by omega
  simp only[F1,go_sem,simprocAttr,E2,c,d1,t1,t2,a,o9];rfl
 |none=>
  rw[b]at d1 d2;simp only[awj,afG,aiz]at d1;refine⟨.aq,?_,.aq⟩;refine aH E2 λM d=>?_
  obtain rfl:M=N:=by omega
  simp only[F1,go_sem,simprocAttr,E2,c,d1,o9];rfl
def xH(r:Runner)(cv rv:AV):lA:=dc r.t cv++(bM r.c rv++[.bool r.busy,.int .i64 r.fr])
def cW(e:Event):lA:=[.int .i64 e.aa]++(bp e.c++(aA e.run++(bG e.r++[.int .i64 e.fr,.int .i64 e.to])))
def cG(m:aS)(p:Nat)(aF aQ:Nat->AV)(ev:AV):lA:=[.ptr p 0]++(arr 8 (λi=>xH (m.aC i) (aF i) (aQ i))++[.int .i64 m.now,ev])
section
variable{m:aS}{p:Nat}{aF aQ:Nat->AV}{ev:AV}{i:Nat}
theorem Mv: (arr 8 (λi=>xH (m.aC i) (aF i) (aQ i))).length=192:=by rfl
theorem oM: (cG m p aF aQ ev).length=195:=by rfl
def Gs{ag:Bool}{o:Nat}(h:i<8)(ho:o+k<=24)(a:0<k):Den.part ag k (cG m p aF aQ ev) (1+i*24+o)=Den.part ag k (xH (m.aC i) (aF i) (aQ i)) o:=by
 unfold cG;rw[jg (by grind),show 1+i*24+o- [AV.ptr p 0].length=i*24+o by grind,l7 (by rw[Mv];omega) a];exact jF (k:=24) (f:=λi=>xH (m.aC i) (aF i) (aQ i)) (λ_=>rfl) h ho a
theorem qk: (cG m p aF aQ ev)[0]?=some (.ptr p 0):=rfl
theorem Ao: (cG m p aF aQ ev)[193]?=some (.int .i64 m.now):=by rfl
theorem UO: (cG m p aF aQ ev)[194]?=some ev:=by rfl
def xI(h:i<8): (cG m p aF aQ ev)[1+i*24+22]?=some (.bool (m.aC i).busy):=Gs (ag:=false) (k:=1) h (by omega) (by omega)
def axw(h:i<8): (cG m p aF aQ ev)[1+i*24+23]?=some (.int .i64 (m.aC i).fr):=Gs (ag:=false) (k:=1) h (by omega) (by omega)
def Mw(h:i<8):Den.part true 10 (cG m p aF aQ ev) (1+i*24)=some (.agg (dc (m.aC i).t (aF i))):=Gs (o:=0) h (by omega) (by omega)
def CG(h:i<8):Den.part true 12 (cG m p aF aQ ev) (1+i*24+10)=some (.agg (bM (m.aC i).c (aQ i))):=Gs h (by omega) (by omega)
def Mx(h:i<8):Den.part true 2 (cG m p aF aQ ev) (1+i*24+19)=some (.agg (aA (m.aC i).c.run)):=Gs h (by omega) (by omega)
theorem akX{n:Nat}:aK (cG m p aF aQ ev) 193 [.int .i64 n]=cG {m with now:=n} p aF aQ ev:=by rfl
def akY:aK (cG m p aF aQ ev) 194 [v]=cG m p aF aQ v:=by
 unfold cG;rw[fo (by simp),fo (by rw[Mv];simp),Mv];rfl
def Gt{o:Nat}{vs:lA}{r:Runner}{cv:AV}(h:i<8)(ho:o+vs.length<=24)(a:aK (xH (m.aC i) (aF i) (aQ i)) o vs=xH r cv rv):
  aK (cG m p aF aQ ev) (1+i*24+o) vs=cG {m with aC:=av m.aC i r} p (av aF i cv) (av aQ i rv) ev:=by
 unfold cG;rw[fo (by grind),show 1+i*24+o- [AV.ptr p 0].length=i*24+o by grind,nd (by rw[Mv];omega),l8 (k:=24) (f:=λi=>xH (m.aC i) (aF i) (aQ i)) (λ_=>rfl) h ho,a]
 congr 2
 refine zs λj _=>?_
 by_cases e:j=i
 ·subst e;simp only[ch]
 ·simp only[cF e]
def UP{b:Bool}(h:i<8):aK (cG m p aF aQ ev) (1+i*24+22) [.bool b]=cG {m with aC:=av m.aC i {m.aC i with busy:=b}} p aF aQ ev:=by
 have:=Gt (m:=m) (p:=p) (aF:=aF) (aQ:=aQ) (ev:=ev) (o:=22) (vs:=[.bool b]) (r:={m.aC i with busy:=b}) (cv:=aF i) (rv:=aQ i) h (by simp) rfl;rwa[mE,mE]at this
def axx{n:Nat}(h:i<8):aK (cG m p aF aQ ev) (1+i*24+23) [.int .i64 n]=cG {m with aC:=av m.aC i {m.aC i with fr:=n}} p aF aQ ev:=by
 have:=Gt (m:=m) (p:=p) (aF:=aF) (aQ:=aQ) (ev:=ev) (o:=23) (vs:=[.int .i64 n]) (r:={m.aC i with fr:=n}) (cv:=aF i) (rv:=aQ i) h (by simp) rfl;rwa[mE,mE]at this
def akZ{t:Task}(h:i<8):aK (cG m p aF aQ ev) (1+i*24) (dc t (aF i))=cG {m with aC:=av m.aC i {m.aC i with t:=t}} p aF aQ ev:=by
 have:=Gt (m:=m) (p:=p) (aF:=aF) (aQ:=aQ) (ev:=ev) (o:=0) (vs:=dc t (aF i)) (r:={m.aC i with t:=t}) (cv:=aF i) (rv:=aQ i) h (by rw[xG];omega) rfl;rwa[mE,mE]at this
def Ap{c:Call}(h:i<8):aK (cG m p aF aQ ev) (1+i*24+10) (bM c rv)=cG {m with aC:=av m.aC i {m.aC i with c:=c}} p aF (av aQ i rv) ev:=by
 have:=Gt (m:=m) (p:=p) (aF:=aF) (aQ:=aQ) (ev:=ev) (o:=10) (vs:=bM c rv) (r:={m.aC i with c:=c}) (cv:=aF i) (rv:=rv) h (by rw[show(bM c rv).length=12 from rfl];omega) rfl;rwa[mE]at this
theorem aC1{x:Core}:cG {m with ai:=x} p aF aQ ev=cG m p aF aQ ev:=rfl
end
def Mu2(o:ae):Prop:=Mu o\/ ∃a d,o= .row a 14 m0 d
structure Fm(n:Nat)(S:lN)(H H':List ae):Prop where
 len:H.length<=H'.length
 low: ∀i,i<n->i∉S->H'[i]?=H[i]?
 box: ∀i o,i∉S-> ¬Mu2 o->H[i]?=some o->H'[i]?=some o
section
variable{n:Nat}{S T:lN}{A B C H W:List ae}
theorem Fm.refl:Fm n S A A:=⟨aen _,λ_ _ _=>rfl,λ_ _ _ _ h=>h⟩
theorem Fm.trans(h:Fm n S A B)(g:Fm n S B C):Fm n S A C:=⟨afY h.len g.len,λi a b=>(g.low i a b).trans (h.low i a b),λi o a ho c=>g.box i o a ho (h.box i o a ho c)⟩
def Fq.fm(h:Fq n S A B)(b: ∀i∈S,i∈T):Fm n T A B:=⟨h.len,λi a q=>h.low i a λr=>q (b i r),λi o a ho c=>h.box i o (λq=>a (b i q)) (λq=>ho (.inl q)) c⟩
theorem Fm.set(a:p∈S)(b:n<=A.length)(o:ae):Fm n S A (A.set p o):=(Fq.set a b o).fm λ_ h=>h
theorem Fm.app(L:List ae)(a:n<=A.length):Fm n S A (A++L):=(Fq.app L a).fm λ_ h=>h
theorem Fm.take{N:Nat}(h:Fm n S A B)(e:A.length=N)(d:n<=N):Fm n S A (B.take N):=⟨by rw[afT];have:=h.len;omega,λi a c=>by rw[afV (by omega)];exact h.low i a c,λi o a ho b=>by
 have:=dU b;rw[afV (by omega)];exact h.box i o a ho b⟩
def Fm.out(h:Fm n T H W)(f:H.length<=i)(d:n<=H.length)(o:ae):Fm n T H (W.set i o):=⟨by rw[afL];exact h.len,λj a c=>by rw[acK (by omega)];exact h.low j a c,λj o a ho b=>by
 have e:=dU b;rw[acK (by omega)];exact h.box j o a ho b⟩
def Fm.pre{L:List ae}(h:Fm n S (H++L) W)(a:n<=H.length):Fm n S H W:=(Fm.app L a).trans h
end
structure bH(n M p q:Nat)(m:aS)(qv ev:AV)(aF aQ:Nat->AV)(H:List ae):Prop where
 Mq:M<q
 co:dI n p q m.ai qv H
 box:H[M]?=some (.box (cG m p aF aQ ev) none)
 rN:cV (max n (M+1)) H ev 14 m0 (m.bq.map cW)
 cv: ∀i,Rv (aF i) 5 ((m.aC i).t.code.map db)
 rv: ∀i,Rv (aQ i) 1 ((m.aC i).c.aY.map hC)
section
variable{n M p q:Nat}{m:aS}{qv ev:AV}{aF aQ:Nat->AV}{H:List ae}
def bH.lt(h:bH n M p q m qv ev aF aQ H):M<H.length:=dU h.box
theorem bH.app(h:bH n M p q m qv ev aF aQ H)(L:List ae):bH n M p q m qv ev aF aQ (H++L):=⟨h.Mq,h.co.app L,bc h.box,h.rN.app L,h.cv,h.rv⟩
def bH.Mn(h:bH n M p q m qv ev aF aQ H):M∉[p,q]:=by have:=h.Mq;have:=h.co.qp;grind
def bH.ai{W:List ae}{c:Core}{b:AV}(h:bH n M p q m qv ev aF aQ H)(g:dI n p q c b W)(e:Fq n [p,q] H W):bH n M p q {m with ai:=c} b ev aF aQ W:=
 ⟨h.Mq,g,e.own h.Mn h.box,h.rN.nS λid aj all f=>e.box id _ (by
   have k:=h.co.box;have j:=h.co.ia
   grind) (λq=>by obtain⟨a,d,q⟩:=q;cases q) f,h.cv,h.rv⟩
theorem bH.set(h:bH n M p q m qv ev aF aQ H){m':aS}{nJ a:Nat->AV}(d:m'.ai=m.ai)(e:m'.bq=m.bq)(c: ∀i,Rv (nJ i) 5 ((m'.aC i).t.code.map db))(b: ∀i,Rv (a i) 1 ((m'.aC i).c.aY.map hC)):
  bH n M p q m' qv ev nJ a (H.set M (.box (cG m' p nJ a ev) none)):=
 ⟨h.Mq,d ▸ h.co.set h.box (by have:=h.Mq;have:=h.co.qp;omega) (by have:=h.Mq;omega) _,cO h.box,e ▸ h.rN.set h.box _,c,b⟩
def bH.fM(h:bH n M p q m qv ev aF aQ H)(o:ae):Fm n [M,p,q] H (H.set M o):=Fm.set (by simp) h.co.mp o
def bH.fc{W:List ae}(h:Fq n [p,q] H W):Fm n [M,p,q] H W:=h.fm λi a=>by grind
def bH.other(h:bH n M p q m qv ev aF aQ H){cs:lA}(a:H[i]?=some (.box cs tg))(d:i≠p)(c:i≠q)(b:i≠M)(o:ae):bH n M p q m qv ev aF aQ (H.set i o):=
 ⟨h.Mq,h.co.set a d c o,(acK b).trans h.box,h.rN.set a _,h.cv,h.rv⟩
theorem bH.oJ{W j:List ae}{N:Nat}{b c:AV}{d a:Nat->AV}{l:aS}(h:bH n M p q m qv ev aF aQ W)(e:j=W\/ (j=W.take N/\Q))(k:Q->qv=b/\ev=c)(g:bH n M p q l b c d a H0)(f:H0.length=N):bH n M p q m qv ev aF aQ j:=
 ⟨h.Mq,h.co.oJ e (λq=>(k q).1) g.co f,Mm e (by rw[<-f];exact g.lt) h.box,cV.oJ h.rN e (λq=>(k q).2) g.rN f,h.cv,h.rv⟩
end
def gT(n M p q:Nat)(H:List ae)(lo:oN)(m':aS)(qv ev:AV)(r:AV)(d:aX):Prop:=
 ∃b c nJ a H' ak,d= .ret r ⟨H',ak⟩/\bH n M p q m' b c nJ a H'/\Fm n [M,p,q] H H'/\gp (b=qv/\c=ev) p H H' lo ak
def gT.fin{n N:Nat}{o m:aS}{c:AV}{e d:Nat->AV}{H W:List ae}(g:bH n M p q o a c e d H)(l:H.length=N)(h:bH n M p q m qv ev aF aQ W)(f:Fm n [M,p,q] H W)(s:fE (qv=a/\ev=c) p b)(r:v.refs<=N):
  gT n M p q H lo m a c v (.ret (finish N lo v ⟨W,b⟩).1 (finish N lo v ⟨W,b⟩).2):=by
 have w:=g.co.mp;have u:=g.co.lt;rcases s with⟨rfl,k⟩| ⟨j,t,rfl⟩
 ·rw[iF (.inl rfl) r];refine⟨qv,ev,aF,aQ,_,lo,rfl,h.oJ (.inr ⟨rfl,k⟩) id g l,f.take l (by omega),.inl ⟨rfl,?_,k⟩⟩;rw[afT];have:=f.len;omega
 ·rw[vH (by omega)];exact⟨qv,ev,aF,aQ,W,cL lo j,rfl,h,f,.inr ⟨j,t,rfl⟩⟩
structure de(m:aS):Prop where
 ai:jM m.ai
 t: ∀i,lF (m.aC i).t
 c: ∀i,fK (m.aC i).c
 fr: ∀i,(m.aC i).fr<2147483648
 now:m.now<2147483648
 ev:m.bq.length<2147483648
 run: ∀i,(m.aC i).c.run.1<=64/\ (m.aC i).c.run.2<=64
def My{n:Nat}{m:aS}{H:List ae}(h:bH n M p q m qv ev aF aQ H)(t:Nat)(lo:oN):D XC (.fn (.func 45) [] []) [.ptr M 0,.int .i64 t] ⟨H,lo⟩=some (.ret (.bool (lp m t)) ⟨H,lo⟩):=by
 refine aH JP λN e=>?_
 have d: (t:Int)>=0:=by omega
 unfold lp;by_cases c:t<8
 ·have a: (t:Int)<8:=by omega
  have b: (bP m.ai q qv)[936+t]?=some (.bool (m.ai.S.alive t)):=by
   have:Den.part false 1 (bP m.ai q qv) (936+t)=some (.bool (m.ai.S.alive t)):=by
    unfold bP;rw[l7 (by rw[ee];omega) (by omega)];exact SN c
   exact this
  rw[ad0 c,al1];simp(disch:=omega) only[F1,go_sem,simprocAttr,JP,d,a,h.box,h.co.box,qk,b]
 ·have a: ¬(t:Int)<8:=by omega
  rw[adZ c,ahj];simp(disch:=omega) only[F1,go_sem,simprocAttr,JP,d,a]
def ak0:iH mN:=⟨by decide,by decide,by decide,by decide,by decide,by decide⟩
def CH:fK gQ:=⟨by decide,ak0,(λh a=>by cases a),⟨by decide,by decide⟩,by decide⟩
def bH.Gu{n:Nat}{m:aS}{H:List ae}(h:bH n M p q m qv ev aF aQ H)(i:Nat)(r:Runner)(cv rv:AV)(b:Rv cv 5 (r.t.code.map db))(a:Rv rv 1 (r.c.aY.map hC)):
  bH n M p q {m with aC:=av m.aC i r} qv ev (av aF i cv) (av aQ i rv) (H.set M (.box (cG {m with aC:=av m.aC i r} p (av aF i cv) (av aQ i rv) ev) none)):=
 h.set rfl rfl (λj=>by
  show Rv (av aF i cv j) 5 ((av m.aC i r j).t.code.map db);by_cases e:j=i
  ·subst e;rw[ch,ch];exact b
  ·rw[cF e,cF e];exact h.cv j) λj=>by
  show Rv (av aQ i rv j) 1 ((av m.aC i r j).c.aY.map hC);by_cases e:j=i
  ·subst e;rw[ch,ch];exact a
  ·rw[cF e,cF e];exact h.rv j
def jM.queue(b:jM x){r:aD}(c:r.1<=64/\r.2<=64)(d:x.Q.length+r.2<8589934592):jM (cQ x r):=by
 have f: (cQ x r).Q.length=x.Q.length+r.2:=by simp[cQ,gj]
 refine⟨b.S,b.P,b.M,λk a=>?_,by omega⟩;rcases aeq.1 a with a|a
 ·exact b.Q k a
 ·obtain⟨i,e,rfl⟩:=afJ.1 a
  grind
def jM.cut(a:jM x){c:Call}(b:c.run.1<=64/\c.run.2<=64)(d:x.Q.length+c.run.2<8589934592):jM (xi x c):=by
 have:=a.queue b d;exact⟨this.S,this.P,Ug this.M _,this.Q,this.Ql⟩
def ak1(x:Core)(c:Call): (xi x c).Q.length=x.Q.length+c.run.2:=by simp[xi,cQ,gj]
def de.UQ{m:aS}(h:de m)(i:Nat)(b:m.ai.Q.length<4294967296):de (lq m i)/\ (lq m i).ai.Q.length<=m.ai.Q.length+64:=by
 unfold lq;split
 ·have a:=h.run i;refine⟨⟨h.ai.cut a (by omega),λj=>?_,λj=>?_,λj=>?_,h.now,h.ev,λj=>?_⟩,?_⟩
  ·show lF (av m.aC i _ j).t;unfold av;split
   ·exact h.t i
   ·exact h.t j
  ·show fK (av m.aC i _ j).c;unfold av;split
   ·exact CH
   ·exact h.c j
  ·show(av m.aC i _ j).fr<_;unfold av;split
   ·exact h.fr i
   ·exact h.fr j
  ·show(av m.aC i _ j).c.run.1<=64/\ (av m.aC i _ j).c.run.2<=64;unfold av;split
   ·exact⟨by show 0<=64;omega,by show 0<=64;omega⟩
   ·exact h.run j
  ·rw[ak1];omega
 grind
def gU(m:aS)(k:Nat):aS:=(List.range k).foldl lq m
def Gv(m:aS)(k:Nat):gU m (k+1)=lq (gU m k) k:=by unfold gU;rw[aoH,al2];rfl
theorem UR{m:aS}(h:de m)(a:m.ai.Q.length<1073741824): ∀k,k<=8->de (gU m k)/\ (gU m k).ai.Q.length<=m.ai.Q.length+64*k
 |0,_=>⟨h,by show m.ai.Q.length<=_;omega⟩
 |k+1,c=>by
  obtain⟨b,f⟩:=UR h a k (by omega);obtain⟨e,d⟩:=b.UQ k (by omega);rw[Gv]
  grind
def axz{n:Nat}{m:aS}{H:List ae}(u:bH n M p q m qv ev aF aQ H)(Y:de m)(hQ:m.ai.Q.length<1073741824)(lo:oN):
  ∃P,D XC (.fn (.func 68) [] []) [.ptr M 0] ⟨H,lo⟩=some P/\gT n M p q H lo (jW m) qv ev (.ay []) P:=by
 have ho:Old M H (.box (cG m p aF aQ ev) none):=⟨u.box⟩;refine cz Qd λN O=>?_
 have Gw:M<N:=by rw[<-O];exact u.lt
 have V:p<N:=by rw[<-O];exact u.co.lt
 have X:=u.co.mp;have hMq:=u.Mq;have T:=u.co.qp;simp only[go_sem,simprocAttr,Qd];refine gN 8 (λk e W ak=> ∃i h d g,e 0= .ptr M 0/\e 4= .int .i64 k/\bH n M p q (gU m k) i h d g W/\fE (i=qv/\h=ev) p ak/\Fm n [M,p,q] H W) 0 (by omega) ?_ ?_
 ·refine⟨qv,ev,aF,aQ,?_⟩;simp only[go_sem,simprocAttr];exact⟨u,fE.no trivial,Fm.refl⟩
 rintro k hk e W ak ⟨i,h,d,g,C,B,l,r,A⟩ nn hn;simp only[bQ,go_sem,simprocAttr,aeN,C,B];refine⟨λZ=>?_,λZ=>?_⟩
 ·have f:k<8:=by omega
  have w: (0:Int)<=k/\ (k:Int)<8:=by omega
  obtain⟨x,U⟩:=UR Y hQ k (by omega);have s:=λlo=>My l k lo
  have G:=Gv m k;cases y: ((gU m k).aC k).busy with
  |false=>
   have e1:lq (gU m k) k=gU m k:=ada (by rw[y];simp);simp(disch:=omega) only[go_sem,simprocAttr,C,B,w,l.box,xI f,y];exact⟨f,i,h,d,g,by rw[G,e1];exact l,r,A⟩
  |true=>
   cases z:lp (gU m k) k with
   |true=>
    rw[z]at s;have e1:lq (gU m k) k=gU m k:=ada (by rw[z];simp);simp(disch:=omega) only[go_sem,simprocAttr,C,B,w,l.box,xI f,y,s];exact⟨f,i,h,d,g,by rw[G,e1];exact l,r,A⟩
   |false=>
    rw[z]at s;have e1:lq (gU m k) k={gU m k with ai:=xi (gU m k).ai ((gU m k).aC k).c,aC:=av (gU m k).aC k {(gU m k).aC k with busy:=false,c:=gQ}}:=adV ⟨y,z⟩;obtain⟨P,g1,E,W3,R,rfl,g2,Q,g4⟩:=ajZ l.co x.ai _ (x.c k) _ (cK (l.rv k) (bB (λ_=>rfl) _)) ak;have j:=l.ai g2 Q;have S: [AV.int .i64 0,.int .u8 0,.int .u32 0,.int .u32 0,.int .u32 0,.int .u32 0,.int .u64 0,.bool false,.aq,.int .i64 0,.int .i64 0,.int .i64 0]=bM gQ .aq:=rfl;have K:aI (bM gQ .aq)=0:=rfl;have L: (bM gQ .aq).length=12:=rfl;have J:1+k*24+22+1<=195:=by omega
    have I:1+k*24+10+12<=195:=by omega
    have F:=λo=>cO (o:=o) j.box
    simp(disch:=omega) only[go_sem,simprocAttr,C,B,w,l.box,xI f,qk,↓CG f,y,s,g1,j.box,oM,UP f,Ap f,S,K,L,J,I,F,alg,sJ,ch];have t:=j.Gu k {(gU m k).aC k with busy:=false,c:=gQ} (d k) .aq (j.cv k) .aq;rw[mE]at t;refine⟨f,E,h,d,av g k .aq,?_,r.step g4 (λa b=>⟨b.trans a.1,a.2⟩),(A.trans (bH.fc Q)).trans (j.fM _)⟩;rw[G,e1];exact t
 ·obtain rfl:k=8:=by omega
  exact gT.fin (v:=.ay []) u O l A r (aep _)
def US(a:aD)(b n:Nat)(j:a.2<4294967296)(m:b<17179869184/\n<17179869184)(H:List ae)(lo:oN):
  D XC (.fn (.func 147) [] []) [.agg (aA a),.int .i64 b,.int .i64 n] ⟨H,lo⟩=some (.ret (.agg (aA (handed a b n))) ⟨H,lo⟩):=by
 refine aH BR λN f=>?_
 have o: (aA a)[1]?=some (.int .i64 a.2):=rfl;have k: ∀r,List.take 2 (aA r)=aA r:=λ_=>rfl
 have l: ∀r,List.drop 2 (aA r)=[]:=λ_=>rfl
 have h: ∀r:aD,(aA r).length=2:=λ_=>rfl
 have g: ∀r,aI (aA r)=0:=λ_=>rfl
 unfold handed;by_cases i:0<a.2
 ·have d:decide (0< ((a.2:Nat):Int))=true:=ad0 (by omega);by_cases e:a.2<=n-b
  ·have c:decide (((a.2:Nat):Int)<=(n:Int)-b)=true:=ad0 (by omega);rw[adV ⟨e,i⟩];simp(disch:=omega) only[F1,go_sem,simprocAttr,BR,f,d,c,A9];rfl
  ·have c:decide (((a.2:Nat):Int)<=(n:Int)-b)=false:=adZ (by omega);rw[ada (λq=>e q.1)];simp(disch:=omega) only[F1,go_sem,simprocAttr,BR,f,c,h,g,A9]
 ·have d:decide (0< ((a.2:Nat):Int))=false:=adZ (by omega);rw[ada (λq=>i q.2)];by_cases e: ((a.2:Nat):Int)<=(n:Int)-b
  ·have c:decide (((a.2:Nat):Int)<=(n:Int)-b)=true:=ad0 e;simp(disch:=omega) only[F1,go_sem,simprocAttr,BR,f,d,c,h,g,A9]
  ·have c:decide (((a.2:Nat):Int)<=(n:Int)-b)=false:=adZ e;simp(disch:=omega) only[F1,go_sem,simprocAttr,BR,f,c,h,g,A9]
def bH.ak3{n:Nat}{m:aS}{H W:List ae}(h:bH n M p q m qv ev aF aQ H){e:Event}(j:cV (max n (M+1)) W v 14 m0 ((m.bq++[e]).map cW))(b: ∀ (i:Nat) (o:ae),(∀a d,o≠ae.row a 14 m0 d)->H[i]?=some o->W[i]?=some o)(k:H.length<=W.length):
  bH n M p q {m with bq:=m.bq++[e]} qv v aF aQ (W.set M (.box (cG {m with bq:=m.bq++[e]} p aF aQ v) none)):=by
 have c: ∀cs tg,∀a d,ae.box cs tg≠ .row a 14 m0 d:=λ_ _ _ _ e=>by cases e
 have f:=b M _ (c _ _) h.box;have r:=h.Mq;have l:=h.co.qp;refine⟨h.Mq,⟨by rw[afL];have:=h.co.mp;omega,h.co.qp,(acK (by omega)).trans (b p _ (c _ _) h.co.box),(acK (by omega)).trans (b q _ (c _ _) h.co.ia),?_⟩,cO f,j.set f _,h.cv,h.rv⟩;exact(h.co.ja.nS λid aj all g=>b id _ (λa d e=>by cases e) g).set f _
def ak4{n:Nat}{m:aS}{H W:List ae}(h:bH n M p q m qv ev aF aQ H)(j:H.length<=W.length)(k: ∀i,i<max n (M+1)->W[i]?=H[i]?)(f: ∀ (i:Nat) (o:ae),(∀a d,o≠ae.row a 14 m0 d)->H[i]?=some o->W[i]?=some o)(o:ae):Fm n [M,p,q] H (W.set M o):=by
 refine⟨by grind,λi b g=>by grind,λi o' b ho c=>?_⟩;rw[acK (by grind)];exact f i o' (λa d e=>ho (.inr ⟨a,d,e⟩)) c
def axA(t:Task)(r:bF): (sW t r).code=t.code:=by
 unfold sW;grind
def UT{n:Nat}{m:aS}{H:List ae}(f:bH n M p q m qv ev aF aQ H)(Y:de m)(t:Nat)(j:t<8)(c:Call)(rv:AV)(Mg:rv.refs=0)(run:aD)(r:bF)(hr:r.w<4294967296/\r.e<4294967296)(lo:oN):
  ∃cr,D XC (.fn (.func 146) [] []) [.ptr M 0,.int .i64 t,.agg (bM c rv),.agg (aA run),.agg (bG r)] ⟨H,lo⟩=some cr/\gT n M p q H lo (K9 m t c run r) qv ev (.ay []) cr:=by
 refine cz QC λN s=>?_
 have Gw:M<N:=by rw[<-s];exact f.lt
 have oI:p<N:=by rw[<-s];exact f.co.lt
 have hb:=λL=>bc (L:=L) f.box
 have I: (0:Int)<=t/\ (t:Int)<8:=by omega
 have K:Den.part true 6 (bM c rv) 1=some (.agg (bp c.c)):=rfl;have hlr: ∀r:aD,List.take 2 (aA r)=aA r:=λ_=>rfl
 have Lg: ∀r:aD,(aA r).length=2:=λ_=>rfl
 have hls: ∀r:bF,List.take 3 (bG r)=bG r:=λ_=>rfl
 have T: ∀c:cx,bp c=[.int .u8 c.op,.int .u32 c.r,.int .u32 c.s,.int .u32 c.a,.int .u32 c.b,.int .u64 c.v]:=λ_=>rfl
 have k: ∀r:aD,aA r=[.int .i64 r.1,.int .i64 r.2]:=λ_=>rfl
 have h: ∀r:bF,bG r=[.int .i64 r.e,.int .u64 r.v,.int .u32 r.w]:=λ_=>rfl
 have R: ∀a b:Nat,[AV.int .i64 (t:Int),.int .u8 c.c.op,.int .u32 c.c.r,.int .u32 c.c.s,.int .u32 c.c.a,.int .u32 c.c.b,.int .u64 c.c.v,.int .i64 run.1,.int .i64 run.2,.int .i64 r.e,.int .u64 r.v,.int .u32 r.w,.int .i64 a,.int .i64 b]=cW ⟨t,c.c,run,r,a,b⟩:=λ_ _=>rfl
 obtain⟨B,hB⟩: ∃B:List ae,B=[.box (bM c rv) none,.box (aA run) none,.box (bG r) none]:=⟨_,rfl⟩;have i:=f.app B;obtain⟨v',W,g1,g2,Z,g4,x,g6,g7,g8⟩:=cV.append (bytes:=96) (lo:=none) (y:=cW ⟨t,c.c,run,r,(m.aC t).fr,m.now⟩) i.rN (by have:=i.lt;have:=i.co.mp;omega) (by omega) rfl rfl (by rw[aer];have:=Y.ev;unfold room;omega);have eE:m.bq.map cW++[cW ⟨t,c.c,run,r,(m.aC t).fr,m.now⟩]=(m.bq++[(⟨t,c.c,run,r,(m.aC t).fr,m.now⟩:Event)]).map cW:=by rw[afI];rfl
 rw[eE]at g2;have w:=i.ak3 g2 x Z;have U:=ak4 i Z g4 x (.box (cG {m with bq:=m.bq++[⟨t,c.c,run,r,(m.aC t).fr,m.now⟩]} p aF aQ v') none);rw[hB]at g1;rw[k,h]at g1;have S: ∀e,(cW e).length=14:=λ_=>rfl
 have het: ∀e,List.take 14 (cW e)=cW e:=λ_=>rfl
 have X: ∀cs tg,∀a d,ae.box cs tg≠ .row a 14 m0 d:=λ_ _ _ _ e=>by cases e
 have V:=x M _ (X _ _) i.box;have wr:=x (N+2) _ (X _ _) (show(H++B)[N+2]?=some (.box (bG r) none) by rw[hB,bA s];rfl);rw[h]at wr;have J:=λo=>cO (o:=o) V
 have z: ∀o,(W.set M o)[N+2]?=_:=λo=>(acK (by omega)).trans wr
 have E: ¬v'.refs<=M+1:=by omega
 have G: ∀H lo,D XC (.fn (.func 175) [] []) [.agg (dc (m.aC t).t (aF t)),.agg [.int .i64 r.e,.int .u64 r.v,.int .u32 r.w]] ⟨H,lo⟩=some (.ret (.agg (dc (sW (m.aC t).t r) (aF t))) ⟨H,lo⟩):=λH lo=>c0 (aw8 (f.cv t) (Y.t t) r hr H lo)
 have l:=cK (f.cv t) (bB (λ_=>rfl) _);have F:=λt'=>Gm (t:=t') l
 have hz: [AV.int .i64 0,.int .u8 0,.int .u32 0,.int .u32 0,.int .u32 0,.int .u32 0,.int .u64 0,.bool false,.aq,.int .i64 0,.int .i64 0,.int .i64 0]=bM gQ .aq:=rfl;have A:aI (bM gQ .aq)=0:=rfl;have C: (bM gQ .aq).length=12:=rfl;have Q:1+t*24+10<=195:=by omega
 have P:1+t*24+22+1<=195:=by omega
 have O:1+t*24+10+12<=195:=by omega
 simp only[go_sem,simprocAttr,QC,s,I,hb,Ao,UO,axw j,↓K,T,k,h,R,S,het,g1,g6,g7,E,V,z,J,akY,oM,↓Mw j,G,F,akZ j,UP j,Ap j,hz,A,C,Q,P,O,alg,sJ,ch,xG];have g:=w.Gu t {m.aC t with t:=sW (m.aC t).t r,busy:=false,c:=gQ} (aF t) .aq (by rw[axA];exact f.cv t) .aq;rw[mE,alg]at g;have u:=(Fm.app B (by have:=f.co.mp;omega)).trans (U.trans (w.fM (.box (cG {m with bq:=m.bq++[⟨t,c.c,run,r,(m.aC t).fr,m.now⟩],aC:=av m.aC t {m.aC t with t:=sW (m.aC t).t r,busy:=false,c:=gQ}} p aF (av aQ t .aq) v') none)));rw[alg]at u;exact gT.fin (v:=.ay []) f s g u (.inr ⟨M,by have:=f.Mq;have:=f.co.qp;omega,rfl⟩) (aep _)
def xJ(m:aS)(t:Nat):aS:={m with ai:=(fQ m.ai (m.aC t).c).x,aC:=av m.aC t {m.aC t with c:=(fQ m.ai (m.aC t).c).c}}
def UU(m:aS)(t:Nat):aD:=if(fQ m.ai (m.aC t).c).r.e≠0\/ (fQ m.ai (m.aC t).c).c.c.op≠2 then(0,0)else(m.aC t).c.run
theorem ak5(m:aS)(t:Nat):pZ m t=if(fQ m.ai (m.aC t).c).ended then K9 (xJ m t) t (fQ m.ai (m.aC t).c).c (handed (UU m t) m.ai.Q.length (fQ m.ai (m.aC t).c).x.Q.length) (fQ m.ai (m.aC t).c).r else xJ m t:=rfl
def ak6{n:Nat}{m:aS}{H:List ae}(hD: ∀op,kE op)(g:bH n M p q m qv ev aF aQ H)(hm:de m)(t:Nat)(j:t<8)(hQ:m.ai.Q.length<2147483648)
  (hd:rM (dx (eO ⟨m.ai,(m.aC t).c,bO,false⟩).x.S (eO ⟨m.ai,(m.aC t).c,bO,false⟩).c.aa (eO ⟨m.ai,(m.aC t).c,bO,false⟩).c.c (eO ⟨m.ai,(m.aC t).c,bO,false⟩).c.run) (m.aC t).c.c)
  (B:de (xJ m t)) (hr: (fQ m.ai (m.aC t).c).r.w<4294967296/\ (fQ m.ai (m.aC t).c).r.e<4294967296) (o5: (fQ m.ai (m.aC t).c).c.c.op<256) (lo:oN):
  ∃cr,D XC (.fn (.func 101) [] []) [.ptr M 0,.int .i64 t] ⟨H,lo⟩=some cr/\gT n M p q H lo (pZ m t) qv ev (.ay []) cr:=by
 refine cz BQ λN z=>?_
 have Gw:M<N:=by rw[<-z];exact g.lt
 have oI:p<N:=by rw[<-z];exact g.co.lt
 have hMq:=g.Mq;have Mo:=g.co.qp;have UW:=g.co.mp;have P: (0:Int)<=t/\ (t:Int)<8:=by omega
 have hb:=λL=>bc (L:=L) g.box
 have hcb:=λL=>bc (L:=L) g.co.box
 have NV:=λL lo=>((g.app L).co.ja.rd (lo:=lo)).bN
 have hrz:=cK (g.rv t) (bB (λ_=>rfl) _);obtain⟨cr,g1,qv2,h,W,G,rfl,g2,g3,g4,g5⟩:=aw6 hD (g.co.app [.box (aA (m.aC t).c.run) none,.box vK none,.box nI none]) hm.ai (hm.c t) (g.rv t) hd hQ none;rw[ak5];have R: ∀r:aD,(aA r).length=2:=λ_=>rfl
 have Mz: ∀r:aD,List.take 2 (aA r)=aA r:=λ_=>rfl
 have lR: ∀r:aD,List.drop 2 (aA r)=[]:=λ_=>rfl
 have Q: ∀r:aD,aI (aA r)=0:=λ_=>rfl
 have O: [AV.int .i64 0,.int .u8 0,.int .u32 0,.int .u32 0,.int .u32 0,.int .u32 0,.int .u64 0,.bool false,.aq,.int .i64 0,.int .i64 0,.int .i64 0]=vK:=rfl;have I: [AV.int .i64 0,.int .u64 0,.int .u32 0]=nI:=rfl;generalize hs:fQ m.ai (m.aC t).c=s at*;have e:=λlo=>(g.co.ja.rd (lo:=lo)).bN
 have nM1:N∉[p,q]:=by simp;omega
 have nM2:N+1∉[p,q]:=by simp;omega
 have nM3:N+2∉[p,q]:=by simp;omega
 have v0:=g4.own nM1 (by rw[dv z];rfl);have v1:=g4.own nM2 (by rw[bA z];rfl);have v2:=g4.own nM3 (by rw[bA z];rfl);have hA:=(g.app [.box (aA (m.aC t).c.run) none,.box vK none,.box nI none]).ai g2 g4;have J:vK.length=12:=rfl;have l:nI.length=3:=rfl;have K:List.drop 12 vK=[]:=rfl;have u:List.drop 3 nI=[]:=rfl;have Z: ∀c rv,(bM c rv).length=12:=λ_ _=>rfl
 have X: ∀c rv,List.take 12 (bM c rv)=bM c rv:=λ_ _=>rfl
 have w:=cK g3 (bB (λ_=>rfl) _);have Y:=Uw s.c w;have s1:=λo=>cO (o:=o) v1
 have y: ∀o,(W.set (N+1) o)[N+2]?=_:=λo=>(acK (by omega)).trans v2
 have vM: ∀o o',((W.set (N+1) o).set (N+2) o')[M]?=_:=λo o'=>(acK (by omega)).trans ((acK (by omega)).trans hA.box)
 have A: ∀o o':ae,((W.set (N+1) o).set (N+2) o')[N+1]?=some o:=λo o'=>(acK (by omega)).trans (s1 o)
 have T:1+t*24+10+12<=195:=by omega
 have MA:=((hA.other v1 (by omega) (by omega) (by omega) (.box (bM s.c h) none)).other (y _) (by omega) (by omega) (by omega) (.box (bG s.r) none));have k:=MA.Gu t {m.aC t with c:=s.c} (aF t) h (g.cv t) g3;rw[mE]at k;have F:Fm n [M,p,q] H (((W.set (N+1) (.box (bM s.c h) none)).set (N+2) (.box (bG s.r) none)).set M (.box (cG {m with ai:=s.x,aC:=av m.aC t {m.aC t with c:=s.c}} p aF (av aQ t h) ev) none)):=by
  have h1:=((bH.fc (M:=M) g4).pre (by omega)).out (i:=N+1) (by omega) (by omega) (.box (bM s.c h) none);exact(h1.out (i:=N+2) (by omega) (by omega) (.box (bG s.r) none)).trans (MA.fM _)
 have S:fE (qv2=qv/\ev=ev) p G:=(gp.n g5).imp (λq=>⟨q.1,q.2,rfl⟩) id;obtain⟨W3,C⟩: ∃W3,W3=((W.set (N+1) (.box (bM s.c h) none)).set (N+2) (.box (bG s.r) none)).set M (.box (cG {m with ai:=s.x,aC:=av m.aC t {m.aC t with c:=s.c}} p aF (av aQ t h) ev) none):=⟨_,rfl⟩;have x:=C.symm;have CI:N+1+1=N+2:=rfl;have w0:W3[N]?=some (.box (aA (m.aC t).c.run) none):=by rw[C,acK (by omega),acK (by omega),acK (by omega)];exact v0
 have w1:W3[N+1]?=some (.box (bM s.c h) none):=by rw[C,acK (by omega)];exact A _ _
 have w2:W3[N+2]?=some (.box (bG s.r) none):=by rw[C,acK (by omega)];exact cO (y _)
 rw[<-C]at k F;have CJ: (bG s.r)[0]?=some (.int .i64 s.r.e):=rfl;have CK: (bM s.c h)[1]?=some (.int .u8 s.c.c.op):=rfl;have eM:xJ m t={m with ai:=s.x,aC:=av m.aC t {m.aC t with c:=s.c}}:=by unfold xJ;rw[hs]
 have eR:UU m t=if s.r.e≠0\/s.c.c.op≠2 then(0,0)else(m.aC t).c.run:=by unfold UU;rw[hs]
 rw[eM]at B⊢;rw[eR];have hqb:s.x.Q.length<8589934592:=B.ai.Ql;have v5:=hm.run t;cases U:s.ended with
 |false=>
  simp only[go_sem,simprocAttr,BQ,z,P,g.box,g.co.box,hb,qk,KL,↓KL,e,↓Mx j,R,Q,↓CG j,O,I,g1,v1,y,vM,A,J,l,K,u,Z,X,Y,uj,rK,oM,Ap j,T,U,CI,x];exact gT.fin (v:=.ay []) g z k F S (aep _)
 |true=>
  by_cases he:s.r.e=0
  ·have V:decide (((s.r.e:Nat):Int)=0)=true:=ad0 (by omega);by_cases ho:s.c.c.op=2
   ·have UX:decide (((s.c.c.op:Nat):Int)=2)=true:=ad0 (by omega);rw[adV rfl,ada (by omega)];have f:=k;have E:=F;have d:=λlo=>(f.co.ja.rd (lo:=lo)).bN
    have hh:=λH lo=>US (m.aC t).c.run m.ai.Q.length s.x.Q.length (by skip;omega) (by omega) H lo
    obtain⟨cr,g6,qv6,ev6,ala,alb,W6,lo6,rfl,g7,g8,g9⟩:=UT f B t j s.c h w (handed (m.aC t).c.run m.ai.Q.length s.x.Q.length) s.r hr G;simp only[go_sem,simprocAttr,BQ,z,P,g.box,g.co.box,hb,qk,KL,↓KL,e,↓Mx j,R,Q,↓CG j,O,I,g1,v1,y,vM,A,J,l,K,u,Z,X,Y,uj,xA,rK,oM,Ap j,T,U,CI,x,w0,w1,w2,CJ,CK,V,UX,k.box,f.co.box,d,hh,g6];exact gT.fin (v:=.ay []) g z g7 (E.trans g8) (S.step g9 λa b=>⟨b.1.trans a.1,b.2.trans a.2⟩) (aep _)
   ·have UX:decide (((s.c.c.op:Nat):Int)=2)=false:=adZ (by omega);rw[adV rfl,adV (.inr ho)];have f:=k.other w0 (by omega) (by omega) (by omega) (.box [.int .i64 0,.int .i64 0] none);have E:=F.out (i:=N) (by omega) (by omega) (.box [.int .i64 0,.int .i64 0] none);have u0:=λo=>cO (o:=o) w0
    have u1: ∀o,(W3.set N o)[N+1]?=_:=λo=>(acK (by omega)).trans w1
    have u2: ∀o,(W3.set N o)[N+2]?=_:=λo=>(acK (by omega)).trans w2
    have d:=λlo=>(f.co.ja.rd (lo:=lo)).bN
    have hh: ∀H lo,D XC (.fn (.func 147) [] []) [.agg [.int .i64 0,.int .i64 0],.int .i64 m.ai.Q.length,.int .i64 s.x.Q.length] ⟨H,lo⟩=some (.ret (.agg (aA (handed (0,0) m.ai.Q.length s.x.Q.length))) ⟨H,lo⟩):=λH lo=>US (0,0) m.ai.Q.length s.x.Q.length (by show 0<4294967296;omega) (by omega) H lo
    obtain⟨cr,g6,qv6,ev6,ala,alb,W6,lo6,rfl,g7,g8,g9⟩:=UT f B t j s.c h w (handed (0,0) m.ai.Q.length s.x.Q.length) s.r hr G;simp only[go_sem,simprocAttr,BQ,z,P,g.box,g.co.box,hb,qk,KL,↓KL,e,↓Mx j,R,lR,Q,↓CG j,O,I,g1,v1,y,vM,A,J,l,K,u,Z,X,Y,uj,xA,rK,oM,Ap j,T,U,CI,x,w0,w1,w2,CJ,CK,V,UX,u0,u1,u2,f.box,f.co.box,d,hh,g6];exact gT.fin (v:=.ay []) g z g7 (E.trans g8) (S.step g9 λa b=>⟨b.1.trans a.1,b.2.trans a.2⟩) (aep _)
  ·have V:decide (((s.r.e:Nat):Int)=0)=false:=adZ (by omega);rw[adV rfl,adV (.inl he)];have f:=k.other w0 (by omega) (by omega) (by omega) (.box [.int .i64 0,.int .i64 0] none);have E:=F.out (i:=N) (by omega) (by omega) (.box [.int .i64 0,.int .i64 0] none);have u0:=λo=>cO (o:=o) w0
   have u1: ∀o,(W3.set N o)[N+1]?=_:=λo=>(acK (by omega)).trans w1
   have u2: ∀o,(W3.set N o)[N+2]?=_:=λo=>(acK (by omega)).trans w2
   have d:=λlo=>(f.co.ja.rd (lo:=lo)).bN
   have hh: ∀H lo,D XC (.fn (.func 147) [] []) [.agg [.int .i64 0,.int .i64 0],.int .i64 m.ai.Q.length,.int .i64 s.x.Q.length] ⟨H,lo⟩=some (.ret (.agg (aA (handed (0,0) m.ai.Q.length s.x.Q.length))) ⟨H,lo⟩):=λH lo=>US (0,0) m.ai.Q.length s.x.Q.length (by show 0<4294967296;omega) (by omega) H lo
   obtain⟨cr,g6,qv6,ev6,ala,alb,W6,lo6,rfl,g7,g8,g9⟩:=UT f B t j s.c h w (handed (0,0) m.ai.Q.length s.x.Q.length) s.r hr G;simp only[go_sem,simprocAttr,BQ,z,P,g.box,g.co.box,hb,qk,KL,↓KL,e,↓Mx j,R,lR,Q,↓CG j,O,I,g1,v1,y,vM,A,J,l,K,u,Z,X,Y,uj,xA,rK,oM,Ap j,T,U,CI,x,w0,w2,CJ,V,u0,u1,u2,f.box,f.co.box,d,hh,g6];exact gT.fin (v:=.ay []) g z g7 (E.trans g8) (S.step g9 λa b=>⟨b.1.trans a.1,b.2.trans a.2⟩) (aep _)
structure ald(m:aS)(t:Nat):Prop where
 d:rM (dx (eO ⟨m.ai,(m.aC t).c,bO,false⟩).x.S (eO ⟨m.ai,(m.aC t).c,bO,false⟩).c.aa (eO ⟨m.ai,(m.aC t).c,bO,false⟩).c.c (eO ⟨m.ai,(m.aC t).c,bO,false⟩).c.run) (m.aC t).c.c
 m':de (xJ m t)
 r: (fQ m.ai (m.aC t).c).r.w<4294967296/\ (fQ m.ai (m.aC t).c).r.e<4294967296
 op: (fQ m.ai (m.aC t).c).c.c.op<256
def axF{t:Task}(h:lF t):iH (iD t).1:=by
 unfold iD;split
 ·exact⟨by decide,by decide,by decide,by decide,by decide,by decide⟩
 ·rename_i x a;have ho:=Gq h a;split
  ·exact⟨by decide,by decide,by decide,by decide,by decide,by decide⟩
  ·split
   ·exact ak0
   ·have c:=ho.op;have b:=ho.n;exact⟨by grind,aoe _ (by omega),aoe _ (by omega),aoe _ (by omega),by grind,h.aY 5⟩
def axG(t:Task): (rB t).code=t.code:=by
 unfold rB
 grind
def MC(m:aS)(t:Nat):aS:={m with aC:=av m.aC t {m.aC t with c:={gQ with aa:=t,c:=(iD (m.aC t).t).1},busy:=true,fr:=m.now}}
def de.wanted{m:aS}(h:de m){t:Nat}(a:t<8):de (MC m t):=by
 refine⟨h.ai,λj=>?_,λj=>?_,λj=>?_,h.now,h.ev,λj=>?_⟩
 ·show lF (av m.aC t _ j).t;unfold av;split
  ·exact h.t t
  ·exact h.t j
 ·show fK (av m.aC t _ j).c;unfold av;split
  ·exact⟨by grind,axF (h.t t),CH.aY,CH.run,CH.fb⟩
  ·exact h.c j
 ·show(av m.aC t _ j).fr<_;unfold av;split
  ·exact h.now
  ·exact h.fr j
 ·show(av m.aC t _ j).c.run.1<=64/\ (av m.aC t _ j).c.run.2<=64;unfold av;split
  ·exact⟨by show 0<=64;omega,by show 0<=64;omega⟩
  ·exact h.run j
def axH{n:Nat}{m:aS}{H:List ae}(hD: ∀op,kE op)(b:bH n M p q m qv ev aF aQ H)(y:de m)(t:Nat)(d:t<8)(F:m.ai.Q.length<2147483648)
  (A: ∀m,de m->m.ai.Q.length<2147483648->ald m t) (lo:oN):
  ∃s,D XC (.fn (.func 67) [] []) [.ptr M 0,.int .i64 t] ⟨H,lo⟩=some s/\gT n M p q H lo (rC m t) qv ev (.ay []) s:=by
 refine cz E3 λN i=>?_
 have Gw:M<N:=by rw[<-i];exact b.lt
 have oI:p<N:=by rw[<-i];exact b.co.lt
 have UW:=b.co.mp;have k: (0:Int)<=t/\ (t:Int)<8:=by omega
 have E:=λL=>bc (L:=L) b.box
 have hw:=λH lo=>c0 (UL (b.cv t) (y.t t) H lo)
 have j: [AV.int .u8 0,.int .u32 0,.int .u32 0,.int .u32 0,.int .u32 0,.int .u64 0]=bp mN:=rfl;have Y: ∀c,(bp c).length=6:=λ_=>rfl
 have Z: ∀c,List.drop 6 (bp c)=[]:=λ_=>rfl
 have ct: ∀c,List.take 6 (bp c)=bp c:=λ_=>rfl
 have s: ∀c,aI (bp c)=0:=λ_=>rfl
 have z:=cK (b.cv t) (bB (λ_=>rfl) _);have B:=b.app [.box (bp (iD (m.aC t).t).1) none];unfold rC;dsimp only;cases h: (m.aC t).busy with
 |true=>
  have g:=A m y F;obtain⟨X,g1,G,W,C,u,W6,I,rfl,V,U,T⟩:=ak6 hD B y t d F g.d g.m' g.r g.op none;simp only[go_sem,simprocAttr,E3,i,k,b.box,E,↓Mw d,xI d,h,hw,j,Y,Z,s,g1];exact gT.fin (v:=.ay []) b i V (U.pre (by omega)) (gp.n T) (aep _)
 |false=>
  cases w: (iD (m.aC t).t).2 with
  |true=>
   rw[w]at hw;have x:=y.wanted d;have g:=A (MC m t) x F;have a:=B.Gu t {m.aC t with c:={gQ with aa:=t,c:=(iD (m.aC t).t).1},busy:=true,fr:=m.now} (aF t) .aq (b.cv t) .aq;rw[mE]at a;obtain⟨X,g1,G,W,C,u,W6,I,rfl,V,U,T⟩:=ak6 hD a x t d F g.d g.m' g.r g.op none;have P:1+t*24+10+12<=195:=by omega
   have Q:1+t*24+22+1<=195:=by omega
   have l:1+t*24+23+1<=195:=by omega
   have O:=λL o=>cO (o:=o) (E L)
   have r:AV.int .i64 (t:Int):: (bp (iD (m.aC t).t).1++[.bool false,.aq,.int .i64 0,.int .i64 0,.int .i64 0])=bM {gQ with aa:=t,c:=(iD (m.aC t).t).1} .aq:=rfl;have R: ∀c,aI (bM c .aq)=0:=λ_=>rfl
   have S: ∀c,(bM c .aq).length=12:=λ_=>rfl
   have f:AV.bool (m.aC t).busy= .bool false:=by rw[h]
   simp only[go_sem,simprocAttr,E3,i,k,b.box,E,Ao,↓Mw d,xI d,f,hw,j,Y,Z,ct,s,O,alg,r,R,S,Ap d,UP d,axx d,sJ,ch,oM,l,Q,P,g1];have hf:Fm n [M,p,q] H ((H++[ae.box (bp (iD (m.aC t).t).1) none]).set M (ae.box (cG (MC m t) p aF (av aQ t .aq) ev) none)):=(Fm.app _ (by omega)).trans (B.fM _);exact gT.fin (v:=.ay []) b i V (hf.trans U) (gp.n T) (aep _)
  |false=>
   rw[w]at hw;have K:=λH lo=>c0 (axh (b.cv t) (y.t t) H lo)
   have a:=B.Gu t {m.aC t with t:=rB (m.aC t).t} (aF t) (aQ t) (by rw[axG];exact b.cv t) (b.rv t);rw[mE,mE]at a;have J:=λt'=>Gm (t:=t') z
   have l:1+t*24+10<=195:=by omega
   have f:AV.bool (m.aC t).busy= .bool false:=by rw[h]
   simp only[go_sem,simprocAttr,E3,i,k,b.box,E,↓Mw d,xI d,f,hw,j,Y,Z,s,K,J,akZ d,oM,l,xG];have e: (⟨rB (m.aC t).t,(m.aC t).c,false,(m.aC t).fr⟩:Runner)={m.aC t with t:=rB (m.aC t).t}:=by rw[<-h]
   rw[e];exact gT.fin (v:=.ay []) b i a ((Fm.app _ (by omega)).trans (B.fM _)) (fE.no ⟨rfl,rfl⟩) (aep _)
def dI.axI{n:Nat}{H W:List ae}(h:dI n p q x qv H)(r:cV (max n (p+1)) W v 1 od ((x.Q++[k]).map fS))(t:H.length<=W.length)(u: ∀i,i<max n (p+1)->W[i]?=H[i]?)(b: ∀ (i:Nat) (o:ae),(∀a d,o≠ae.row a 1 od d)->H[i]?=some o->W[i]?=some o):
  dI n p q {x with Q:=x.Q++[k]} v (W.set p (.box (bP x q v) none))/\Fq n [p,q] H (W.set p (.box (bP x q v) none)):=by
 have c: ∀cs tg,∀a d,ae.box cs tg≠ .row a 1 od d:=λ_ _ _ _ e=>by cases e
 have f:=b p _ (c _ _) h.box;have g:=h.qp;have j:=h.mp;refine⟨⟨by grind,h.qp,cO f,(acK (by omega)).trans (b q _ (c _ _) h.ia),r.set f _⟩,⟨by grind,λi l s=>?_,λi o l ho m=>?_⟩⟩
 ·grind
 ·rw[acK (by grind)];exact b i o (λa d e=>ho ⟨a,d,e⟩) m
theorem ale: ∀ (l:List aD) (x:Core) (s:bu),l.foldl cQ {x with S:=s}={l.foldl cQ x with S:=s}
 | [],_,_=>rfl
 |r::l,x,s=>ale l (cQ x r) s
def fF:cx:={mN with op:=20}
def j5(m:aS)(d:bu×bF×List aD)(k:Nat):Core:=(d.2.2.take k).foldl cQ {m.ai with S:=d.1}
def axJ{n:Nat}{m:aS}{H:List ae}(hD: ∀op,kE op)(x:bH n M p q m qv ev aF aQ H)(hm:de m)(t:Nat)(ht:t<8)(hQ:m.ai.Q.length<2147483648)
  (hd:rM (dx m.ai.S t fF (0,0)) fF) (lo:oN):
  ∃cr,D XC (.fn (.func 66) [] []) [.ptr M 0,.int .i64 t] ⟨H,lo⟩=some cr/\gT n M p q H lo (zM m t) qv ev (.ay []) cr:=by
 refine cz Qc λN hN=>?_
 have Gw:M<N:=by rw[<-hN];exact x.lt
 have oI:p<N:=by rw[<-hN];exact x.co.lt
 have UW:=x.co.mp;have hMq:=x.Mq;have Mo:=x.co.qp;have hb:=λL=>bc (L:=L) x.box
 have hcb:=λL=>bc (L:=L) x.co.box
 have hcx:iH fF:=⟨by decide,by decide,by decide,by decide,by decide,by decide⟩;obtain⟨bv,d1,d2⟩:=Ud m.ai.S hm.ai.S t (by omega) fF hcx (0,0) ⟨show 0<4294967296 by omega,show 0<4294967296 by omega⟩ (hD _) (H++[.box (bp fF) none,.box m2 none,.box nI none]) none;have d1:=cB d1;have eS:zM m t={m with ai:=j5 m (dx m.ai.S t fF (0,0)) (dx m.ai.S t fF (0,0)).2.2.length,bq:=m.bq++[⟨t,fF,(0,0),(dx m.ai.S t fF (0,0)).2.1,m.now,m.now⟩]}:=by
  unfold j5;rw[afH,ale];rfl
 rw[eS];generalize dx m.ai.S t fF (0,0)=d at*;have hz: [AV.int .u8 20,.int .u32 0,.int .u32 0,.int .u32 0,.int .u32 0,.int .u64 0]=bp fF:=rfl;have CJ:aA (0,0)=[.int .i64 0,.int .i64 0]:=rfl;rw[CJ]at d1;have hzr: [AV.int .i64 0,.int .u64 0,.int .u32 0]=nI:=rfl;have cl: ∀c,(bp c).length=6:=λ_=>rfl
 have cd: ∀c,List.drop 6 (bp c)=[]:=λ_=>rfl
 have ct: ∀c,List.take 6 (bp c)=bp c:=λ_=>rfl
 have cr: ∀c,aI (bp c)=0:=λ_=>rfl
 have U:nI.length=3:=rfl;have V:List.drop 3 nI=[]:=rfl;have hA:=(x.app [.box (bp fF) none,.box (bo d.1) none,.box (bG d.2.1) none]);have I:=hA.ai (hA.co.ajW d.1) (hA.co.fp _);have G:=bH.fc (M:=M) (hA.co.fp (.box (bP {m.ai with S:=d.1} q qv) none));have CI:N+1+1=N+2:=rfl;simp only[go_sem,simprocAttr,Qc,hN,CI,hb,hcb,qk,KL,↓KL,KS,hz,hzr,cl,ct,cr,d1,DZ,mF,rK,U,V,d2.bN];refine gN d.2.2.length (λk e W ak=> ∃s,e 0= .ptr M 0/\e 1= .int .i64 t/\e 4= .ptr N 0/\e 6= .ptr (N+2) 0/\e 34=bv/\e 35= .int .i64 d.2.2.length/\e 36= .int .i64 k/\bH n M p q {m with ai:=j5 m d k} s ev aF aQ W/\fE (s=qv/\ev=ev) p ak/\W[N]?=some (.box (bp fF) none)/\W[N+2]?=some (.box (bG d.2.1) none)/\Fm n [M,p,q] H W) 0 (by omega) ?_ ?_
 ·refine⟨qv,?_⟩;simp(disch:=omega) only[go_sem,simprocAttr];exact⟨I,fE.no trivial,(Fm.app _ (by omega)).trans G⟩
 rintro k hk e W ak ⟨s,C,e1,R,e6,l,i,h,o,g,J,K,P⟩ nn hn;simp only[bQ,go_sem,simprocAttr,aeM,C,l,i,h];refine⟨λhh=>?_,λhh=>?_⟩
 ·have w:k<d.2.2.length:=by omega
  generalize F:d.2.2.getD k default=f at*;have v5:=hd.runs f (by rw[<-F];exact eo w);have uO: ∀r:aD,(aA r).length=2:=λ_=>rfl
  have A8: ∀r,aI (aA r)=0:=λ_=>rfl
  have Mz: ∀r,List.take 2 (aA r)=aA r:=λ_=>rfl
  have lR: ∀r,List.drop 2 (aA r)=[]:=λ_=>rfl
  have O4: (aA f)[1]?=some (.int .i64 f.2):=rfl;have aC5: (aA f)[0]?=some (.int .i64 f.1):=rfl;simp(disch:=omega) only[go_sem,simprocAttr,d2.ca,d2.cD,F,hn,uO,A8];have X:=CB (d.2.2.take k) {m.ai with S:=d.1} (λz hz=>(hd.runs z (ahz hz)).2);have X: (j5 m d k).Q.length<=m.ai.Q.length+64*(d.2.2.take k).length:=X;have Ua: (d.2.2.take k).length<=k:=by simp;omega
  have hdl:=hd.len;refine⟨by omega,?_⟩;refine gN f.2 (λj e T E=> ∃u,e 0= .ptr M 0/\e 1= .int .i64 t/\e 4= .ptr N 0/\e 6= .ptr (N+2) 0/\e 34=bv/\e 35= .int .i64 d.2.2.length/\e 36= .int .i64 k/\e 9= .ptr nn 0/\e 41= .int .i64 f.2/\e 42= .int .i64 j/\bH n M p q {m with ai:=jr (j5 m d k) f j} u ev aF aQ T/\fE (u=qv/\ev=ev) p E/\T[nn]?=some (.box (aA f) none)/\T[N]?=some (.box (bp fF) none)/\T[N+2]?=some (.box (bG d.2.1) none)/\Fm n [M,p,q] H T) 0 (by omega) ?_ ?_
  ·refine⟨s,?_⟩;simp(disch:=omega) only[go_sem,simprocAttr,C,e1,R,e6,l,i,h];refine⟨?_,by simpa using g,bc J,bc K,P.trans (Fm.app _ (by have:=o.co.mp;omega))⟩;have e1:jr (j5 m d k) f 0=j5 m d k:=by unfold jr;simp
   rw[e1];exact o.app _
  have hK0:=o.co.box;have aC8:p<nn:=by rw[<-hn];exact o.co.lt
  clear g J K C e1 R e6 l i h o P hn;rintro j hj e T E ⟨u,C,e1,R,e6,l,i,h,e9,e41,e42,A,g,wn,J,K,P⟩ n2 hn2;simp(disch:=omega) only[bQ,go_sem,simprocAttr,aeL,C,e1,R,e6,l,i,h,e41,e42];refine⟨λhh=>?_,λhh=>?_⟩
  ·have Y:j<f.2:=by omega
   have hwl:=A.co.lt;have hwm:=A.co.mp;have NV: (jr (j5 m d k) f j).Q.length<=m.ai.Q.length+64*k+f.2:=by
    have: (jr (j5 m d k) f j).Q.length=(j5 m d k).Q.length+((gj f).take j).length:=by simp[jr]
    have h2: ((gj f).take j).length<=f.2:=by simp[gj];omega
    omega
   obtain⟨v',W3,g1,g2,g3,g4,B,g6,g7,g8⟩:=cV.append (bytes:=8) (lo:=E) (y:=[.int .i64 ((f.1:Int)+j)]) A.co.ja (by omega) (by omega) rfl rfl (by rw[aer];unfold room;show((jr (j5 m d k) f j).Q.length+1)*8<=_;omega);have eQ: (jr (j5 m d k) f j).Q.map fS++[[.int .i64 ((f.1:Int)+j)]]=((jr (j5 m d k) f j).Q++[f.1+j]).map fS:=by rw[afI];rfl
   rw[eQ]at g2;obtain⟨c1,c2⟩:=A.co.axI g2 g3 g4 B;have Z:=A.ai c1 c2;have eT: {jr (j5 m d k) f j with Q:=(jr (j5 m d k) f j).Q++[f.1+j]}=jr (j5 m d k) f (j+1):=by
    unfold jr;rw[ajY Y,<-adW]
   rw[eT]at Z;have O: ∀cs tg,∀a d,ae.box cs tg≠ .row a 1 od d:=λ_ _ _ _ e=>by cases e
   have wp':=B p _ (O _ _) A.co.box;have g8': ¬v'.refs<=p+1:=by omega
   simp(disch:=omega) only[go_sem,simprocAttr,C,e1,R,e6,l,i,h,e9,e41,e42,A.box,A.co.box,qk,KL,↓KL,wn,g1,wp',KS,g6,g7,g8'];refine⟨Y,v',Z,?_,B nn _ (O _ _) wn,B N _ (O _ _) J,B (N+2) _ (O _ _) K,P.trans (bH.fc c2)⟩;rcases g with⟨rfl,_⟩| ⟨j2,hj2,rfl⟩
   ·exact .inr ⟨p,aen _,rfl⟩
   ·exact .inr ⟨min p j2,by omega,rfl⟩
  ·obtain rfl:j=f.2:=by omega
   have C:j5 m d (k+1)=jr (j5 m d k) f f.2:=by
    rw[ajX];unfold j5;rw[<-F,afP,adR w,al2,afK,adR w];rfl
   exact⟨w,u,by rw[C];exact A,g.imp (λq=>⟨q.1,q.2.1⟩) id,J,K,P⟩
 ·obtain rfl:k=d.2.2.length:=by omega
  have g:fE (s=qv/\ev=ev) p ak:=g;obtain⟨v',W3,g1,g2,g3,g4,B,g6,g7,g8⟩:=cV.append (bytes:=96) (lo:=ak) (y:=cW ⟨t,fF,(0,0),d.2.1,m.now,m.now⟩) o.rN (by have:=o.lt;have:=o.co.mp;omega) (by omega) rfl rfl (by rw[aer];unfold room;have:=hm.ev;show(m.bq.length+1)*96<=_;omega);have eE:m.bq.map cW++[cW ⟨t,fF,(0,0),d.2.1,m.now,m.now⟩]=(m.bq++[(⟨t,fF,(0,0),d.2.1,m.now,m.now⟩:Event)]).map cW:=by rw[afI];rfl
  have g2:cV (max n (M+1)) W3 v' 14 m0 ((m.bq++[(⟨t,fF,(0,0),d.2.1,m.now,m.now⟩:Event)]).map cW):=eE ▸ g2;have I:=o.ak3 g2 B g3;have G:=ak4 o g3 g4 B (.box (cG {m with bq:=m.bq++[⟨t,fF,(0,0),d.2.1,m.now,m.now⟩]} p aF aQ v') none);have O: ∀cs tg,∀a d,ae.box cs tg≠ .row a 14 m0 d:=λ_ _ _ _ e=>by cases e
  have wM:=B M _ (O _ _) o.box;have hv': ¬v'.refs<=M+1:=by omega
  have TB: ∀c:cx,bp c=[.int .u8 c.op,.int .u32 c.r,.int .u32 c.s,.int .u32 c.a,.int .u32 c.b,.int .u64 c.v]:=λ_=>rfl
  have hse: ∀r:bF,bG r=[.int .i64 r.e,.int .u64 r.v,.int .u32 r.w]:=λ_=>rfl
  have xK: ∀a b:Nat,[AV.int .i64 (t:Int),.int .u8 fF.op,.int .u32 fF.r,.int .u32 fF.s,.int .u32 fF.a,.int .u32 fF.b,.int .u64 fF.v,.int .i64 0,.int .i64 0,.int .i64 d.2.1.e,.int .u64 d.2.1.v,.int .u32 d.2.1.w,.int .i64 a,.int .i64 b]=cW ⟨t,fF,(0,0),d.2.1,a,b⟩:=λ_ _=>rfl
  have qB: ∀e,(cW e).length=14:=λ_=>rfl
  have het: ∀e,List.take 14 (cW e)=cW e:=λ_=>rfl
  simp only[go_sem,simprocAttr,o.box,C,e1,R,e6,Ao,UO,J,K,TB,hse,xK,qB,het,g1,g6,g7,hv',wM,akY,oM];refine gT.fin (v:=.ay []) x hN I (P.trans G) ?_ (aep _);rcases g with⟨rfl,_⟩| ⟨j2,hj2,rfl⟩
  ·exact .inr ⟨M,by omega,rfl⟩
  ·exact .inr ⟨min M j2,by omega,rfl⟩
end Go.Proofs.YtcdeobefbpnfeaaGreatDoor
