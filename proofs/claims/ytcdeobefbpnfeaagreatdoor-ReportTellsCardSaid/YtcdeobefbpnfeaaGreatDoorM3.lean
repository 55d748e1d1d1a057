/- A part. -/
import Derived.Test.YtcdeobefbpnfeaaGreatDoorM2
set_option linter.all false
set_option maxRecDepth 10000
set_option maxHeartbeats 1000000
namespace Go.Proofs.YtcdeobefbpnfeaaGreatDoor
open Go Go.Den
variable{aa k i sz p q m M:Nat}{c:cy}{a v qv rv ev:AV}{b lo:oN}{af:List lA}{l:List aD}{tg:Option TypeId}{H0:List ae}{Q:Prop}{x:Core}{r:bG}{aE aO:Nat->AV}
def aqK:=@List.take_set_of_le
def axT:=@List.all_eq_not_any_not
def MJ(m:Marks)(a aa:Nat):Marks:=if jm a aa then au m a (Cp (m a) aa)else m
def awl(m:Marks)(r: ∀i,iH (m i))(a aa:Nat)(s:aa<4294967296)(H:List ae)(lo:oN):
  D X0 (.fn (.func 176) [] []) [.agg (cS m),.int .i64 a,.int .i64 aa] ⟨H,lo⟩=some (.ret (.agg (cS (MJ m a aa))) ⟨H,lo⟩):=by
 refine aH FF λN l=>?_
 have g:pK.length=320:=by rfl
 have d:List.drop 320 pK=[]:=ah2 (by omega);have q: ∀m:Marks,List.take 320 (cS m)=cS m:=λm=>aeE (by rw[eC];omega)
 have b:=λH lo=>US a aa H lo
 unfold MJ;cases c:jm a aa with
 |false=>
  rw[c]at b;simp only[F1,go_sem,simprocAttr,FF,l,b,↓rM,eC,j9,g,d]
  try rfl
 |true=>
  rw[c]at b;obtain⟨j,t⟩:a<32/\aa<8:=by unfold jm at c;simpa using c
  have f: (0:Int)<=a/\ (a:Int)<32:=by omega
  have k:a*10<=319:=by omega
  have n:=(r a).has;simp only[ahJ];unfold Cp;by_cases p: (m a).has=aa+1
  ·have e: (((m a).has:Nat):Int)=(aa:Int)+1:=by omega
   have h:aJ (cS m) (a*10) [.int .u8 0]=cS (au m a {m a with has:=0}):=CT (o:=0) j (by simp) rfl;rw[aez p];simp only[F1,go_sem,simprocAttr,FF,l,b,f,↓vU j,e,h,k,↓rM,eC,j9,g,d]
  ·have e: ¬(((m a).has:Nat):Int)=(aa:Int)+1:=by omega
   rw[aeu p,mJ];simp(disch:=omega) only[F1,go_sem,simprocAttr,FF,l,b,f,↓vU j,e,↓rM,eC,j9,g,d]
def qq(m:Marks)(aa k:Nat):Marks:=λi=>if i<k then rq m aa i else m i
def awm(m:Marks)(a:aa<8)(b:k<32):qq m aa (k+1)=au (qq m aa k) k (xk (Cp (m k) aa) aa):=by
 funext i
 unfold qq au;by_cases e:i=k
 ·subst e;rw[aez (by omega),aez rfl];unfold rq;rw[aez (by unfold jm;grind)]
 grind
def awn(m:Marks)(aa:Nat):qq m aa 32=rq m aa:=by
 funext i
 unfold qq;by_cases h:i<32
 ·grind
 ·rw[aeu h];unfold rq;rw[aeu (by unfold jm;grind)]
def awo(m:Marks)(k:Nat)(a: ¬aa<8):qq m aa k=m:=by
 funext i
 unfold qq rq;split
 ·rw[aeu (by unfold jm;grind)]
 ·rfl
def akh{l:fA}(h:iH l)(aa:Nat):iH (Cp l aa):=by
 unfold Cp;split
 ·exact⟨by simp,h.n,h.lt,h.inj⟩
 omega
def awp{l:fA}(h:iH l)(n:i<l.n):iH (Tz l i):=by
 have m:=h.n;have f:=h.lt;unfold Tz;refine⟨h.has,by grind,λj=>?_,λa b k g c=>?_⟩
 ·show(if j=l.n-1 then 0 else if i<=j/\j<7 then l.wait (j+1)else l.wait j)<8
  grind
 ·have e:a<l.n-1:=k;have d:b<l.n-1:=g;simp only[au,aeu (show a≠l.n-1 by omega),aeu (show b≠l.n-1 by omega)]at c;have key: ∀j,j<l.n-1->(if i<=j/\j<7 then l.wait (j+1)else l.wait j)=l.wait (if i<=j then j+1 else j):=by grind
  rw[key a e,key b d]at c;have:=h.inj _ _ (by grind) (by grind) c
  grind
def aki{l:fA}(h:iH l)(aa:Nat):iH (xk l aa):=by
 unfold xk;split
 ·exact h
 ·rename_i i a;exact awp h (akb a).1
def UT{m:Marks}(a: ∀i,iH (m i))(aa:Nat): ∀i,iH (rq m aa i):=by
 intro i;unfold rq;split
 ·exact aki (akh (a i) aa) aa
 grind
def awq{m:Marks}(a: ∀i,iH (m i))(aa k:Nat): ∀i,iH (qq m aa k i):=by
 intro i;unfold qq;split
 ·exact UT a aa i
 grind
def awr{m:Marks}(g: ∀i,iH (m i))(c:Nat): ∀i,iH ((jn m c aa).1 i):=by
 unfold jn;split
 ·omega
 rename_i h;obtain⟨v,p⟩:c<32/\aa<8:=by unfold jm at h;grind
 split
 ·omega
 split
 ·intro i;show iH (au _ _ _ _);unfold au;split
  ·have:=aki (g c) aa;exact⟨by show aa+1<=8;omega,this.n,this.lt,this.inj⟩
  grind
 split
 ·rename_i f;intro i;show iH (au _ _ _ _);unfold au;split
  ·have w:=akg (g c) p f;have k:=g c;have e: ∀j,j< (m c).n->(m c).wait j≠aa:=by
    intro j q he;unfold rp at f;rw[awB]at f;have:=f j (al1.2 q);simp at this;omega
   refine⟨k.has,by show(m c).n+1<=8;omega,λj=>?_,λa b u s l=>?_⟩
   ·show(if j=(m c).n then aa else(m c).wait j)<8;split
    ·exact p
    ·exact k.lt j
   ·have t:a< (m c).n+1:=u;have r:b< (m c).n+1:=s;have d: (if a=(m c).n then aa else(m c).wait a)=(if b=(m c).n then aa else(m c).wait b):=l;by_cases o:a=(m c).n<;>by_cases n:b=(m c).n
    ·omega
    ·rw[aez o,aeu n]at d;exact absurd d.symm (e b (by omega))
    ·rw[aeu o,aez n]at d;exact absurd d (e a (by omega))
    ·rw[aeu o,aeu n]at d;exact k.inj a b (by omega) (by omega) d
  ·exact g i
 omega
def aws(m:Marks)(z: ∀i,iH (m i))(aa:Nat)(y:aa<4294967296)(H:List ae)(lo:oN):
  D X0 (.fn (.func 155) [] []) [.agg (cS m),.int .i64 aa] ⟨H,lo⟩=some (.ret (.agg (cS (rq m aa))) ⟨H,lo⟩):=by
 refine aH Ri λN E=>?_
 have x:pK.length=320:=by rfl
 have j:List.drop 320 pK=[]:=ah2 (by rw[x];omega);have f: ∀m:Marks,List.take 320 (cS m)=cS m:=λm=>aeE (by rw[eC];omega)
 have g: ∀m:Marks,List.drop 320 (cS m)=[]:=λm=>ah2 (by rw[eC];omega)
 simp only[go_sem,simprocAttr,Ri,E];refine dQ 32 (λk e H'=>H'=H++[.box (cS (qq m aa k)) none,.box pK none]/\e 1= .int .i64 aa/\e 2= .ptr N 0/\e 4= .ptr (N+1) 0/\e 6= .int .i64 k) 0 (by omega) ?_ ?_
 ·simp only[go_sem,simprocAttr];rfl
 rintro k G e H' ⟨rfl,w,v,u,t⟩ n F;simp(disch:=omega) only[bO,go_sem,simprocAttr,afF,w,v,u,t];refine⟨λC=>?_,λC=>?_⟩
 ·have d:k<32:=by omega
  have h: (0:Int)<=k/\ (k:Int)<32:=by omega
  have r:k*10+10<=320:=by omega
  have a:=λH lo=>awl _ (awq z aa k) k aa y H lo
  have b:=λH lo=>US k aa H lo
  have s:qq m aa k k=m k:=by unfold qq;rw[aeu (by omega)]
  by_cases A:aa<8
  ·have c:jm k aa=true:=by unfold jm;simp;omega
   have B:=awm m A d;unfold MJ at a;rw[c,s,aez rfl]at a;rw[c]at b;have p:=λH lo=>akf _ (akh (z k) aa) aa y H lo
   have q: ∀ (m:Marks) (l:fA),aJ (cS m) (k*10) (fB l)=cS (au m k l):=λm l=>CT (o:=0) d (by rw[Aj];omega) rfl
   simp(disch:=omega) only[go_sem,simprocAttr,w,v,u,t,b,a,h,r,↓xF d,p,q,cw,sP,eC,j9,Aj,GC,f,g,agB];rw[B];exact⟨d,rfl⟩
  ·have c:jm k aa=false:=by unfold jm;simp;omega
   unfold MJ at a;rw[c,aeu (by simp)]at a;rw[c]at b;simp only[awo m _ A]at a⊢;simp(disch:=omega) only[go_sem,simprocAttr,w,v,u,t,b,a,h,eC,j9,f,g,agB];exact d
 ·obtain rfl:k=32:=by omega
  rw[awn];simp(disch:=omega) only[F1,go_sem,simprocAttr,eC,j9,x,j,f]
noncomputable def GF:lA->AS->Option aX:=oo XB (D XB) Lw 207 K3
def CU(args:lA)(E:AS):Option aX:=match args with
 | [.aq,.int .i64 n]=>if n=0 then some (.ret .aq E)else if 0<n/\n<=1024 then some (.ret (.ref E.heap.length 0 2 0 0 false) (E.push (.row 0 2 eX [])))else none
 |_=>none
noncomputable def XC:Ctx:={XB with cg:=λf=>if f=207 then some GF else if f=226 then some CU else XB.cg f}
theorem UU:Ext XB XC where
 dL:=rfl
 fV:=rfl
 code:=rfl
 cg:=λf=>by
  by_cases b:f=207
  ·subst b;exact .inr ⟨rfl,rfl⟩
  ·by_cases a:f=226
   ·subst a;exact .inr ⟨rfl,rfl⟩
   ·left;show(if f=207 then some GF else if f=226 then some CU else XB.cg f)=XB.cg f
    grind
section
variable{v:AV}{args:lA}{E:AS}{r:aX}
def cB(h:D XB v args E=some r):D XC v args E=some r:=vF UU h
def cX(h:D X v args E=some r):D XC v args E=some r:=vF UU (lX h)
def c0(h:D X0 v args E=some r):D XC v args E=some r:=vF UU (lz h)
end
def awt{X:Ctx}{f:FuncId}{p:lA->AS->Option aX}{args a:lA}{E:AS}{b:aX}(c:X.cg f=some p)(h:p (args++a) E=some b):D X (.fn (.func f) [] a) args E=some b:=by
 refine H9 ?_;simp only[Go.Den.step,c,ah1];exact h
def UW{s:bF}(f:br s)(l:j8 c){a b:Nat}{H:List ae}(n:H[a]?=some (.box (bn s) none))(m:H[b]?=some (.box (bp c) none))(N:Nat)(o:H.length=N)(lo:oN):
  ∃v J ak,D XC (.fn (.func 207) [] [.ptr a 0,.ptr b 0]) [] ⟨H,lo⟩=some (.ret v ⟨H++J,ak⟩)/\aP N (H++J) v 1 b8 ((under s.T c.r).map hC)/\ (ak=lo\/ ∃j,N<=j/\ak=cM lo j):=by
 suffices i: ∃d,GF [.ptr a 0,.ptr b 0] ⟨H,lo⟩=some d/\ (λd=> ∃v J ak,d=aX.ret v ⟨H++J,ak⟩/\aP N (H++J) v 1 b8 ((under s.T c.r).map hC)/\ (ak=lo\/ ∃j,N<=j/\ak=cM lo j)) d by
  obtain⟨d,t,v,J,ak,rfl,q⟩:=i;exact⟨v,J,ak,awt (p:=GF) rfl t,q⟩
 refine wF (X:=XB) K3 rfl λM u=>?_
 obtain⟨v,J,ak,e,h,g⟩:=Gl s.T f.T f.tr c.r l.r N H o none;have e:=lX e;simp only[go_sem,simprocAttr,K3,n,m,↓SL,gp,e,sq];refine⟨_,_,_,rfl,h,?_⟩;rcases g with rfl| ⟨j,k,rfl⟩
 ·exact .inl rfl
 ·exact .inr ⟨j,k,rfl⟩
def awu(n:Nat)(c:n<=1024)(H:List ae)(lo:oN):
  D XC (.fn (.func 226) [] []) [.aq,.int .i64 n] ⟨H,lo⟩=some (.ret (if n=0 then .aq else .ref H.length 0 2 0 0 false) ⟨H++(if n=0 then[]else[.row 0 2 eX []]),lo⟩):=by
 refine D6 (p:=CU) rfl ?_;unfold CU;by_cases h:n=0
 ·grind
 ·have b: ¬((n:Nat):Int)=0:=by omega
  have a: (0:Int)<n/\ (n:Int)<=1024:=by omega
  simp only[aeu h,aeu b,aez a];rfl
abbrev VR:=AV×List aD
def fG(l:List VR):List aD:=l.flatMap (·.2)
def Al(x:VR):lA:=[x.1]
def MK{l:List VR}(h:k<l.length):fG (l.take (k+1))=fG (l.take k)++(l.getD k default).2:=by
 unfold fG;rw[agu,amL,agn,adQ h];simp
def awv{N:Nat}{H:List ae}{bytes:Nat}{ty:TypeId}(h:aP N H v sz ty af)(a:0<sz)(d:af.length*bytes<=room):dv ⟨H,lo⟩ ty sz bytes v []=some (v,⟨H,lo⟩):=by
 unfold dv;rw[aez ⟨a,rfl⟩];rcases h.2 with⟨rfl,_⟩| ⟨id,aj,c,rfl,b⟩
 ·rfl
 grind
def aww(l:List VR)(hl:l.length<=3)(P: ∀x∈l,x.2.length<=64)(H:List ae)(R: ∀x∈l,Rd ⟨H,none⟩ x.1 2 (x.2.map aA))(lo:oN):
  D XC (.fn (.func 223) [] []) [.sl (l.map Al) true] ⟨H,lo⟩=some (.ret (ek (fG l)) ⟨H,lo⟩):=by
 refine aH RY λN X=>?_
 have s:Rv (.sl (l.map Al) true) 1 (l.map Al):=.sl (by intro el d;obtain⟨x,_,rfl⟩:=ago.1 d;rfl);have y: ∀k,(fG (l.take k)).length<=64*k:=by
  intro k
  induction k with
  |zero=>simp[fG]
  |succ k ih=>
   by_cases h:k<l.length
   ·rw[MK h,aeZ];have:=P _ (dY h);omega
   ·rw[aeE (by omega)];rw[aeE (by omega)]at ih;omega
 generalize(AV.sl (l.map Al) true)=V at*;simp only[go_sem,simprocAttr,RY,s.bJ];refine dQ l.length (λk e H'=>H'=H/\e 0=V/\e 3= .int .i64 (fG (l.take k)).length/\e 9=V/\e 10= .int .i64 l.length/\e 11= .int .i64 k) 0 (by omega) ?_ ?_
 ·simp only[go_sem,simprocAttr];rfl
 rintro k hk e H' ⟨rfl,h0,O,Y,B,A⟩ n hn;simp only[bO,go_sem,simprocAttr,afW,O,Y,B,A];refine⟨λK=>?_,λK=>?_⟩
 ·have a:k<l.length:=by omega
  have j:=(R _ (dY a)).bJ;have w:=y (k+1);have U:=y k;rw[MK a,aeZ]at w;have u: ((fG (l.take k)).length:Int)+(l.getD k default).2.length=((fG (l.take (k+1))).length:Nat):=by rw[MK a,aeZ];omega
  have I: ¬(((fG (l.take (k+1))).length:Nat):Int)<0:=by omega
  have g: (Al (l.getD k default))[0]?=some (l.getD k default).1:=rfl;have T:=y (k+1);simp(disch:=omega) only[go_sem,simprocAttr,h0,O,Y,B,A,s.bW,s.cp,g,j,u,I];exact⟨by omega,a⟩
 ·obtain rfl:k=l.length:=by omega
  have c:fG (l.take l.length)=fG l:=by rw[agk]
  rw[c]at O;have M:=awu (fG l).length (by have:=y l.length;rw[c]at this;omega);simp only[go_sem,simprocAttr,c,h0,M,s.bJ];obtain⟨v0,t⟩: ∃v0,v0=(if(fG l).length=0 then .aq else AV.ref H'.length 0 2 0 0 false):=⟨_,rfl⟩;obtain⟨W0,z⟩: ∃W0,W0=H'++(if(fG l).length=0 then[]else[ae.row 0 2 eX []]):=⟨_,rfl⟩;rw[<-t,<-z];have F:aP N W0 v0 2 eX ([].map aA)/\ ((fG l).length=0->v0= .aq)/\H'<+:W0:=by
   rw[t,z];by_cases h: (fG l).length=0
   ·rw[aez h,aez h];exact⟨aP.aq,λ_=>rfl,by simp⟩
   ·rw[aeu h,aeu h];exact⟨⟨by simp,.inr ⟨H'.length,0,by omega,rfl,by simp⟩⟩,λq=>absurd q h,aok _ _⟩
  refine dQ l.length (λk e W=>(∃v,e 6=v/\aP N W v 2 eX ((fG (l.take k)).map aA)/\ ((fG l).length=0->v= .aq))/\H'<+:W/\e 25=V/\e 26= .int .i64 l.length/\e 27= .int .i64 k) 0 (by omega) ?_ ?_
  ·simp only[go_sem,simprocAttr];exact⟨⟨_,rfl,F.1,F.2.1⟩,F.2.2⟩
  rintro k hk e W ⟨⟨v,Z,r,f⟩,b,p,o,m⟩ n hn;simp only[bO,F1,go_sem,simprocAttr,afV,Z,p,o,m];refine⟨λK=>?_,λK=>?_⟩
  ·have a:k<l.length:=by omega
   have j:=Rd.mono (ak:=none) (R _ (dY a)) b;have g: (Al (l.getD k default))[0]?=some (l.getD k default).1:=rfl;have d:=j.eq;have w:=y k;have hzk:=P _ (dY a);have C:=MK a;simp(disch:=omega) only[go_sem,simprocAttr,Z,s.bW,s.cp,g,d];generalize Bb: (l.getD k default).2=rr at*;by_cases Q:rr=[]
   ·subst Q;rw[agB]at C;rw[avF,awv r (by omega) (by rw[ae3];unfold room;omega)];simp(disch:=omega) only[go_sem,simprocAttr,p,o,m];rw[C];exact⟨by omega,a,⟨v,rfl,r,f⟩,b⟩
   ·have J: ¬(fG l).length=0:=by
      intro q;have q2:fG l=[]:=ajM.1 q;have:fG l=fG (l.take (k+1))++fG (l.drop (k+1)):=by
       unfold fG;rw[<-amL,amI]
      rw[C]at this;rw[q2]at this;simp[Q]at this
    refine⟨by omega,?_⟩;refine pE (bytes:=16) (ys:=rr.map aA) r b X (by omega) (by intro el d;obtain⟨x,_,rfl⟩:=ago.1 d;rfl) (bB (λ_=>rfl) _) (by rw[ae3,ae3];unfold room;omega) λv' W2 E G=>?_
    simp(disch:=omega) only[go_sem,simprocAttr,p,o,m];rw[C,agp];exact⟨a,⟨v',rfl,E,λq=>absurd q J⟩,G⟩
  ·obtain rfl:k=l.length:=by omega
   rw[c]at r;have S:=r.D5 (lo:=lo) (by rw[bB (λ_=>rfl)];omega);rw[yH]at S;rw[S];refine dk ?_ (lL X λi hi=>?_)
   ·unfold ek;by_cases h: (fG l).length=0
    ·rw[f h,ajM.1 h];rfl
    ·have h1: (fG l).isEmpty=false:=by
       cases hq:fG l with
       |nil=>rw[hq]at h;exact absurd rfl h
       |cons=>rfl
     rw[h1];rcases r.2 with⟨_,q⟩| ⟨id,aj,_,rfl,_⟩
     ·rw[aqL]at q;rw[q]at h;exact absurd rfl h
     ·rfl
   ·obtain⟨L,rfl⟩:=b;rw[acK (by omega)]
def awx(x y:aD)(c:x.1+x.2<4294967296)(b:y.1+y.2<4294967296)(p:Nat)(H:List ae)(lo:oN)(d:H[p]?=some (.box (aA x) none)):
  D X0 (.fn (.func 222) [] [.ptr p 0]) [.agg (aA y)] ⟨H,lo⟩=some (.ret (.bool (holds y x)) ⟨H,lo⟩):=by
 refine fj RX λN e=>?_
 have a: ∀L,(H++L)[p]?=some (.box (aA x) none):=λL=>bf d
 simp only[F1,go_sem,simprocAttr,RX,e,a,ahC y x b c]
def awy(b:Rv v 2 (l.map aA))(d:l≠[]): ∃c,v= .sl (l.map aA) c:=by
 obtain⟨e,a,f⟩:=b ⟨[],none⟩;cases v<;>simp only[]at e
 ·simp only[Den.elems]at a;simp_all
 ·simp only[Den.elems]at a
  grind
 ·trivial
def awz(b: ∀el∈af,el.length=sz){c:Bool}(f:i<=af.length): ∃w,gw sz (.sl af c) none (some (.int .i64 i)) none=some w/\Rv w sz (af.take i):=by
 refine⟨.sl (af.take i) (c&&i==af.length),?_,.sl λel a=>b el (ahZ a)⟩;have d:gv af.length none (some (.int .i64 i))=some (0,i):=by
  have e: (i:Int)<=af.length:=by omega
  simp[gv,lS,e]
 simp only[gw,d,lT]
 grind
def akj(b: ∀el∈af,el.length=sz){c:Bool}(g:i<=af.length): ∃w,gw sz (.sl af c) (some (.int .i64 i)) none none=some w/\Rv w sz (af.drop i):=by
 refine⟨.sl (af.drop i) (c&&af.length==af.length),?_,.sl λel a=>b el (aoC a)⟩;have d:gv af.length (some (.int .i64 i)) none=some (i,af.length):=by
  have f: (i:Int)<=af.length:=by omega
  simp[gv,lS,f]
 have e:af.all (λel=>el.length==sz)=true:=by grind
 simp only[gw,d,lT];rw[aez e,aeE (by simp)]
def akk(l:List aD): ∀el∈l.map aA,el.length=2:=by intro el a;obtain⟨x,_,rfl⟩:=ago.1 a;rfl
def UX(v:AV)(l:List aD)(x:aD):AV:=match ru l x with
 |some a=>.ax [.agg [ek a],.bool true]
 |none=>.ax [.agg [v],.bool false]
def nL{E:AS}(h:Rd E v sz af):v.cq=false/\v.cells=[v]:=by
 have a:=h.kind;cases v<;>simp only[]at a<;>exact⟨rfl,rfl⟩
def awA(v:AV)(l:List aD)(E:Rv v 2 (l.map aA))(G:Cu l)(x:aD)(Gc:x.1<4294967296)(TI:x.2<4294967296)(H:List ae)(lo:oN):
  D XC (.fn (.func 213) [] []) [.agg [v],.int .i64 (x.1:Nat),.int .i64 (x.2:Nat)] ⟨H,lo⟩=some (.ret (UX v l x) ⟨H,lo⟩):=by
 refine aH FK λN p=>?_
 have hm:=λH lo=>c0 (TE x Gc TI H lo)
 have hr:aA x=[.int .i64 (x.1:Nat),.int .i64 (x.2:Nat)]:=rfl;rw[hr]at hm;have F:v.refs=0:=cL E (bB (λ_=>rfl) l);unfold UX;cases f:lq x with
 |false=>
  have e0:ru l x=none:=by unfold ru;rw[aez f]
  rw[e0];rw[f]at hm;simp only[F1,go_sem,simprocAttr,FK,p,hm,F]
 |true=>
  rw[f]at hm;have hx:1<=x.2/\x.1+x.2<=64:=by simpa[lq]using f
  have d:=λH lo h=>c0 (ahx v (.fn (.func 222) [] [.ptr (N+2) 0]) l E (by have:=G.1;omega) (λy=>holds y x) H lo h)
  have d:=d (H++[.box [v] none,.box [.aq] none,.box (aA x) none]) none (λy Z=>awx x y (by omega) (by have:=G.2 y Z;omega) (N+2) _ none (by rw[bA p];rfl));rw[hr]at d;have e1:ru l x=match l.findIdx? λy=>holds y x with
   |none=>none
   |some i=>some (l.take i++((if(l.getD i (0,0)).1<x.1 then[((l.getD i (0,0)).1,x.1- (l.getD i (0,0)).1)]else[])++(if x.1+x.2< (l.getD i (0,0)).1+(l.getD i (0,0)).2 then[(x.1+x.2,(l.getD i (0,0)).1+(l.getD i (0,0)).2- (x.1+x.2))]else[]))++l.drop (i+1)):=by
   unfold ru;rw[aeu (by rw[f];simp)];rfl
  rw[e1];unfold kM at d;cases hi:l.findIdx? (λy=>holds y x)with
  |none=>
   rw[hi]at d;simp only at d;simp only[F1,go_sem,simprocAttr,FK,p,hm,d,F]
  |some i=>
   rw[hi]at d;simp only at d⊢;have I:i<l.length:=by
    obtain⟨h,_⟩:=asI.1 hi;exact h
   have hi0: ¬((i:Nat):Int)<0:=by omega
   have Bd:=G.1;have MM:=λl=>cL (mM l) (bB (g:=aA) (λ_=>rfl) l)
   have gA:l.getD i (0,0)=l.getD i default:=rfl;rw[gA];have hyb:=G.2 _ (dY I);have aCO:=E.bW (k:=.i64) (a:=i);obtain⟨c,hvc⟩:=awy E (by rintro rfl;simp at I);obtain⟨w1,s1,U⟩:=awz (c:=c) (akk l) (i:=i) (by rw[ae3];omega);obtain⟨R,s2,T⟩:=akj (c:=c) (akk l) (i:=i+1) (by rw[ae3];omega);rw[<-hvc]at s1 s2;rw[<-List.map_take]at U;rw[<-List.map_drop]at T;generalize Z:l.getD i default=y at*;obtain⟨B,hB⟩: ∃B:List ae,B=[.box [v] none,.box [.aq] none,.box (aA x) none,.box (aA y) none]:=⟨_,rfl⟩;have O: (H++B).length=N+4:=by rw[hB];simp[p]
   have im: ∀W,(H++B)<+:W->W[N]?=some (.box [v] none)/\W[N+1]?=some (.box [.aq] none)/\W[N+2]?=some (.box (aA x) none)/\W[N+3]?=some (.box (aA y) none):=by
    rintro W ⟨L,rfl⟩;rw[hB,aev];refine⟨by rw[dq p];rfl,by rw[bA p];rfl,by rw[bA p];rfl,by rw[bA p];rfl⟩
   have DS: (aA x)[0]?=some (.int .i64 x.1):=rfl;have wu: (aA y)[0]?=some (.int .i64 y.1):=rfl;have hex:=λH lo=>c0 (Ct x (by omega) H lo)
   have J:=λH lo=>c0 (Ct y (by omega) H lo)
   have tx:List.take 2 (aA x)=aA x:=rfl;have ty:List.take 2 (aA y)=aA y:=rfl;have dz: ∀r:aD,List.drop 2 (aA r)=[]:=λ_=>rfl
   have lx: ∀r:aD,(aA r).length=2:=λ_=>rfl
   have bl: ∀a b:Nat,[AV.int .i64 (a:Int),AV.int .i64 (b:Int)]=aA (a,b):=λ_ _=>rfl
   simp(disch:=omega) only[go_sem,simprocAttr,FK,p,hm,d,hi0,E.bW,E.cp,Z,lx];refine⟨by omega,?_⟩;refine abm (λe W ak=>ak=none/\ (H++B)<+:W/\aP (N+4) W (e 12) 2 eX ((if y.1<x.1 then[(y.1,x.1-y.1)]else[]).map aA)/\e 3= .ptr N 0/\e 6= .ptr (N+1) 0/\e 8= .ptr (N+2) 0/\e 10= .int .i64 i/\e 11= .ptr (N+3) 0) ?_ ?_
   ·simp(disch:=omega) only[bO,go_sem,simprocAttr];refine⟨λa=>?_,λa=>?_⟩
    ·have V: (x.1:Int)-y.1=((x.1-y.1:Nat):Int):=by omega
     simp only[go_sem,simprocAttr,V];refine pE (N:=N+4) (H0:=H++B) (af:=[]) (bytes:=16) (ys:=[aA (y.1,x.1-y.1)]) aP.aq (by rw[hB];exact aq8) O (by omega) (by intro el t;rw[ae5.1 t];rfl) rfl (by simp[room]) λv' W2 Y X=>?_
     simp only[go_sem,simprocAttr,Ip];rw[aez (by omega)];exact⟨X,Y⟩
    ·simp only[go_sem,simprocAttr,Ip];rw[aeu (by omega)];exact⟨by rw[hB];exact aq8,aP.aq⟩
   ·rintro e W ak ⟨rfl,s,q,e3,e6,e8,n,m⟩;obtain⟨C,M⟩: ∃C,C=(if y.1<x.1 then[(y.1,x.1-y.1)]else[]):=⟨_,rfl⟩;have aCP:C.length<=1:=by rw[M];split<;>simp
    rw[<-M]at q⊢;obtain⟨g0,g1,g2,Q⟩:=im W s;simp only[go_sem,simprocAttr,g2,Q,e8,m,hex,J];refine abm (λe W ak=>ak=none/\ (H++B)<+:W/\aP (N+4) W (e 12) 2 eX ((C++(if x.1+x.2<y.1+y.2 then[(x.1+x.2,y.1+y.2- (x.1+x.2))]else[])).map aA)/\e 3= .ptr N 0/\e 6= .ptr (N+1) 0/\e 8= .ptr (N+2) 0/\e 10= .int .i64 i/\e 11= .ptr (N+3) 0) ?_ ?_
    ·simp only[bO,go_sem,simprocAttr];refine⟨λa=>?_,λa=>?_⟩
     ·have V: (y.1:Int)+y.2- ((x.1:Int)+x.2)=((y.1+y.2- (x.1+x.2):Nat):Int):=by omega
      have q2: (x.1:Int)+x.2=((x.1+x.2:Nat):Int):=by omega
      simp(disch:=omega) only[go_sem,simprocAttr,g2,Q,e8,m,hex,J,V];rw[q2];refine pE (H0:=H++B) (bytes:=16) (ys:=[aA (x.1+x.2,y.1+y.2- (x.1+x.2))]) q s O (by omega) (by intro el t;rw[ae5.1 t];rfl) rfl (by rw[ae3];simp[room];omega) λv' W2 Y X=>?_
      simp only[go_sem,simprocAttr,Ip,e3,e6,e8,n,m];rw[aez (by omega),agp];exact⟨X,Y⟩
     ·simp only[go_sem,simprocAttr,Ip,e3,e6,e8,n,m];rw[aeu (by omega),agB];exact⟨s,q⟩
    ·clear g0 g1 g2 Q s q e3 e6 e8 n m e W;rintro e W ak ⟨rfl,s,q,e3,e6,e8,n,m⟩;obtain⟨P,A⟩: ∃P,P=C++(if x.1+x.2<y.1+y.2 then[(x.1+x.2,y.1+y.2- (x.1+x.2))]else[]):=⟨_,rfl⟩;have aCQ:P.length<=2:=by rw[A];split<;>simp<;>omega
     rw[<-A]at q;generalize hw:e 12=w at*;obtain⟨g0,g1,g2,Q⟩:=im W s;have u:=λlo=>aww [(w1,l.take i),(w,P),(R,l.drop (i+1))] (by simp) (by have:=G.1;simp;omega) W (by
      intro z hz;simp only[agF,List.not_mem_nil,or_false]at hz;rcases hz with rfl|rfl|rfl
      ·exact U _
      ·exact q.rd
      ·exact T _) lo
     have K:fG [(w1,l.take i),(w,P),(R,l.drop (i+1))]=l.take i++(C++((if x.1+x.2<y.1+y.2 then[(x.1+x.2,y.1+y.2- (x.1+x.2))]else[])++l.drop (i+1))):=by simp[fG,A]
     rw[K]at u;generalize(l.take i++(C++((if x.1+x.2<y.1+y.2 then[(x.1+x.2,y.1+y.2- (x.1+x.2))]else[])++l.drop (i+1))))=LL at*;obtain⟨t7,t8⟩:=nL (mM LL ⟨[],none⟩);have oQ:W.take N=H:=lL p λj hj=>by
      obtain⟨L,rfl⟩:=s;rw[aev,acK (by omega)]
     have qL: ∀o,(W.set (N+1) o).take N=H:=λo=>by rw[aqK (by omega),oQ]
     simp only[amF,avF,Al]at u;obtain⟨t1,t2⟩:=nL (U ⟨[],none⟩);obtain⟨t3,t4⟩:=nL (T ⟨[],none⟩);obtain⟨t5,t6⟩:=nL (q.rd (lo:=none));have S:gw 2 v (some (.int .i64 ((i:Int)+1))) none none=some R:=s2;simp(disch:=omega) only[F1,go_sem,simprocAttr,g0,g1,e3,e6,n,hw,s1,S,t1,t2,t3,t4,t5,t6,t7,t8,cQ g1,qL,u,MM]
abbrev xG(a b:aD):Prop:=a.1+a.2<b.1
structure eU(l:List aD):Prop where
 pw:l.Pairwise xG
 bd: ∀x∈l,1<=x.2/\x.1+x.2<=64
def eU.ok(h:eU l):Cu l:=by
 refine⟨?_,λx c=>(h.bd x c).2⟩;have f: (l.map (·.1)).Nodup:=by
  rw[avk,aAC];refine h.pw.imp λ {a b} d he=>?_
  omega
 have:=Mt 64 _ f (by
  intro a e;obtain⟨x,c,rfl⟩:=ago.1 e;have:=h.bd x c;omega)
 grind
def eU.nil:eU []:=⟨.nil,by simp⟩
def eU.app{a b:List aD}(e:eU a)(d:eU b)(c: ∀x∈a,∀y∈b,xG x y):eU (a++b):=
 ⟨anh.2 ⟨e.pw,d.pw,c⟩,λx f=>(ae2.1 f).elim (e.bd x) (d.bd x)⟩
def eU.one{x:aD}(c:1<=x.2)(b:x.1+x.2<=64):eU [x]:=⟨List.pairwise_singleton _ _,λy a=>by grind⟩
def awD: ∀ (l:List aD) (x:aD) (put:Bool) (out k:List aD),1<=x.2->x.1+x.2<=64->eU l->eU out->(∀a∈out,∀b∈l,xG a b)->(put=false-> ∀a∈out,xG a x)->(put=true-> ∀b∈l,xG x b)->
  iz x put out l=some k->eU k:=by
 intro l
 induction l with
 |nil=>
  intro x put out k s r _ ho _ p _ h;unfold iz at h;cases h;cases put with
  |true=>grind
  |false=>exact ho.app (eU.one s r) λa d b e=>by rw[ae5.1 e];exact p rfl a d
 |cons y ys t=>
  intro x put out k s r A ho j p w h;have i:=aoB.1 A.pw;have g:eU ys:=⟨i.2,λz B=>A.bd z (agE _ B)⟩;have u:=A.bd y (alc ..);have m: ∀a∈out,xG a y:=λa d=>j a d y (alc ..)
  unfold iz at h;split at h
  ·rename_i c;refine t x put (out++[y]) k s r g (ho.app (eU.one u.1 u.2) λa d b e=>by rw[ae5.1 e];exact m a d) ?_ ?_ (λq b e=>w q b (agE _ e)) h
   ·intro a d b e;rcases ae2.1 d with d|d
    ·exact j a d b (agE _ e)
    ·rw[ae5.1 d];exact i.1 b e
   ·intro q a d;rcases ae2.1 d with d|d
    ·exact p q a d
    ·rw[ae5.1 d];exact c
  ·split at h
   ·rename_i c;have v:eU (out++(if put then[]else[x])):=by
     cases put with
     |true=>simpa using ho
     |false=>
      refine ho.app (eU.one s r) λa d b e=>?_
      have:b=x:=by simpa using e
      rw[this];exact p rfl a d
    have o: ∀a∈out++(if put then[]else[x]),xG a y:=by
     intro a d;rcases ae2.1 d with d|d
     ·exact m a d
     ·cases put with
      |true=>simp at d
      |false=>
       have:a=x:=by simpa using d
       rw[this];exact c
    refine t x true (out++(if put then[]else[x])++[y]) k s r g (v.app (eU.one u.1 u.2) λa d b e=>by rw[ae5.1 e];exact o a d) ?_ (λq=>by cases q) ?_ h
    ·intro a d b e;have n:xG y b:=i.1 b e;rcases ae2.1 d with d|d
     ·have:=o a d;have D:y.1+y.2<b.1:=n;have C:a.1+a.2<y.1:=this;show a.1+a.2<b.1;omega
     ·rw[ae5.1 d];exact n
    ·intro _ b e;have D:y.1+y.2<b.1:=i.1 b e;have C:x.1+x.2<y.1:=c;show x.1+x.2<b.1;omega
   ·split at h
    ·rename_i G F E;have f:put=false:=by
      cases put with
      |false=>rfl
      |true=>
       have:x.1+x.2<y.1:=w rfl y (alc ..);omega
     refine t (y.1,y.2+x.2) put out k (by show 1<=y.2+x.2;omega) (by show y.1+(y.2+x.2)<=64;omega) g ho (λa d b e=>j a d b (agE _ e)) (λ_ a d=>m a d) (λq=>by rw[f]at q;cases q) h
    ·split at h
     ·rename_i G F E H;have f:put=false:=by
       cases put with
       |false=>rfl
       |true=>
        have:x.1+x.2<y.1:=w rfl y (alc ..);omega
      refine t (x.1,x.2+y.2) put out k (by show 1<=x.2+y.2;omega) (by show x.1+(x.2+y.2)<=64;omega) g ho (λa d b e=>j a d b (agE _ e)) (λq a d=>p q a d) (λq=>by rw[f]at q;cases q) h
     ·cases h
theorem eU.iW{a:List aD}{x:aD}(h:eU l)(b:iW l x=some a):eU a:=by
 unfold Go.Proofs.YtcdeobefbpnfeaaGreatDoor.iW at b;split at b
 ·rename_i hm;have c:1<=x.2/\x.1+x.2<=64:=by simpa[lq]using hm
  exact awD l x false [] a c.1 c.2 h eU.nil (by simp) (λ_=>by simp) (λq=>by cases q) b
 grind
theorem eU.take{s:List aD}{x:aD}(h:eU l)(j:ru l x=some s):eU s:=by
 unfold ru at j;split at j
 ·cases j
 rename_i hm;have J:1<=x.2/\x.1+x.2<=64:=by simpa[lq]using hm
 split at j
 ·cases j
 rename_i i E;cases j;obtain⟨m,g,_⟩:=asI.1 E;have p:l.getD i (0,0)=l[i]:=by simp[agn,adQ m]
 rw[p];have d:l=l.take i++(l[i]::l.drop (i+1)):=by rw[<-aom m,amI]
 generalize I:l[i]=y at*;generalize l.take i=A at*;generalize l.drop (i+1)=B at*;have k:=h.pw;have e:=h.bd;rw[d]at k e;obtain⟨w,v,r⟩:=anh.1 k;obtain⟨u,t⟩:=aoB.1 v;have C:=e y (by simp);have F:x=y\/ (y.1<=x.1/\x.1+x.2<=y.1+y.2):=by simpa using g
 have D:y.1<=x.1/\x.1+x.2<=y.1+y.2:=by
  rcases F with rfl|q
  ·exact⟨ae0 _,ae0 _⟩
  ·exact q
 have H:eU A:=⟨w,λz o=>e z (by simp[o])⟩;have hB:eU B:=⟨t,λz o=>e z (by simp[o])⟩;have G:eU ((if y.1<x.1 then[(y.1,x.1-y.1)]else[])++(if x.1+x.2<y.1+y.2 then[(x.1+x.2,y.1+y.2- (x.1+x.2))]else[])):=by
  refine eU.app ?_ ?_ ?_
  ·split
   ·exact eU.one (by show 1<=x.1-y.1;omega) (by show y.1+(x.1-y.1)<=64;omega)
   ·exact eU.nil
  ·split
   ·exact eU.one (by show 1<=y.1+y.2- (x.1+x.2);omega) (by show x.1+x.2+(y.1+y.2- (x.1+x.2))<=64;omega)
   ·exact eU.nil
  ·intro a c b f;split at c<;>split at f<;>simp at c f;rw[c,f];show y.1+(x.1-y.1)<x.1+x.2;omega
 have n: ∀a∈((if y.1<x.1 then[(y.1,x.1-y.1)]else[])++(if x.1+x.2<y.1+y.2 then[(x.1+x.2,y.1+y.2- (x.1+x.2))]else[])),y.1<=a.1/\a.1+a.2<=y.1+y.2:=by
  intro a c;rcases ae2.1 c with c|c
  ·split at c
   ·rw[ae5.1 c];exact⟨ae0 _,by show y.1+(x.1-y.1)<=_;omega⟩
   ·cases c
  ·split at c
   ·rw[ae5.1 c];exact⟨by show y.1<=x.1+x.2;omega,by show x.1+x.2+(y.1+y.2- (x.1+x.2))<=_;omega⟩
   ·cases c
 refine(H.app G λa c b f=>?_).app hB λa c b f=>?_
 ·have L:a.1+a.2<y.1:=r a c y (by simp);have:=n b f;show a.1+a.2<b.1;omega
 ·have K:y.1+y.2<b.1:=u b f;rcases ae2.1 c with c|c
  ·exact r a c b (by simp[f])
  ·have:=n a c;show a.1+a.2<b.1;omega
def qs(f:Nat->Nat):lA:=arr 32 λj=>[.int .u8 (f j)]
theorem UY(f:Nat->Nat): (qs f).length=32:=by rfl
def nM(p:cU):AV:=if p.free.isEmpty then .aq else .sl (p.free.map aA) p.cK
def xH(p:cU):Rv (nM p) 2 (p.free.map aA):=by
 unfold nM;split
 ·rename_i h;rw[aAN.1 h];exact .aq
 ·exact .sl (by intro el h;obtain⟨x,_,rfl⟩:=ago.1 h;rfl)
def ck(p:cU):lA:=[.int .i64 p.n,nM p]++arr 64 λi=>qs (p.bytes i)
def xI(p:cU): (ck p).length=2050:=by
 unfold ck;rw[aeZ,zw (k:=32) (λi=>UY (p.bytes i))];rfl
structure gb(p:cU):Prop where
 n:p.n<=64
 free:eU p.free
 bytes: ∀i j,p.bytes i j<256
theorem UZ{p:cU}:Den.part false 1 (ck p) 0=some (.int .i64 p.n):=rfl
def xJ{p:cU}:Den.part true 1 (ck p) 1=some (.agg [nM p]):=by
 unfold ck;rw[mK (by simp) (by omega)];rfl
def awE{p:cU}{j:Nat}(b:i<64)(a:j<32):Den.part false 1 (ck p) (2+i*32+j)=some (.int .u8 (p.bytes i j)):=by
 unfold ck;rw[jY (by grind),show 2+i*32+j- [AV.int .i64 p.n,nM p].length=i*32+j by grind,jG (k:=32) (f:=λi=>qs (p.bytes i)) (λi=>UY _) b (by omega) (by omega)];have:=jG (ag:=false) (m:=1) (n:=32) (k:=1) (i:=j) (o:=0) (f:=λj=>[AV.int .u8 (p.bytes i j)]) (λ_=>rfl) a (by omega) (by omega);rw[Nat.mul_one,agr]at this;exact this
theorem akl{p:cU}{l:List aD}:aJ (ck p) 1 [ek l]=ck {p with free:=l,cK:=false}:=by rfl
theorem akm{p:cU}:aJ (ck p) 1 [nM p]=ck p:=by rfl
def akn{p:cU}{o:Nat}{vs:lA}{f:Nat->Nat}(a:i<64)(ho:o+vs.length<=32)(b:aJ (qs (p.bytes i)) o vs=qs f):aJ (ck p) (2+i*32+o) vs=ck {p with bytes:=au p.bytes i f}:=by
 unfold ck;rw[fy (by grind),show 2+i*32+o- [AV.int .i64 p.n,nM p].length=i*32+o by grind,ln (k:=32) (f:=λi=>qs (p.bytes i)) (λi=>UY _) a ho,b,oG qs];rfl
def awF{p:cU}{j v:Nat}(b:i<64)(a:j<32):aJ (ck p) (2+i*32+j) [.int .u8 v]=ck {p with bytes:=au p.bytes i (au (p.bytes i) j v)}:=by
 refine akn b (by grind) ?_;unfold qs;have:=ln (n:=32) (k:=1) (i:=j) (o:=0) (vs:=[AV.int .u8 v]) (f:=λj=>[AV.int .u8 (p.bytes i j)]) (λ_=>rfl) a (by simp);rw[Nat.mul_one,agr]at this;rw[this];have e:aJ [AV.int .u8 (p.bytes i j)] 0 [AV.int .u8 v]=[AV.int .u8 v]:=rfl;rw[e,oG (λx:Nat=>[AV.int .u8 x])]
def awG{p:cU}{H:List ae}(a:i<64)(h:H[q]?=some (.box (ck p) none)):
  rX ⟨H,lo⟩ [.int .u8 0] (.fw q 1 (2+i*32) 32)=some ⟨H.set q (.box (ck {p with bytes:=au p.bytes i λ_=>0}) none),lo⟩:=by
 have e:aJ (ck p) (2+i*32) (List.replicate 32 [AV.int .u8 0]).flatten=ck {p with bytes:=au p.bytes i λ_=>0}:=by
  have:=akn (p:=p) (i:=i) (o:=0) (vs:=(List.replicate 32 [AV.int .u8 0]).flatten) (f:=λ_=>0) a (by decide) (by rfl);omega
 simp only[rX,h,AS.set];rw[aez ⟨rfl,by rw[xI];omega,rfl⟩,e];simp
def ako{X:Ctx}{n id off:Nat}:qD X n sz (.ptr id off) none none=some (.fw id sz off n):=by
 simp[qD,gv,lS]
def awH{p:cU}{H:List ae}(c:i<64)(h:H[q]?=some (.box (ck p) none))(lo:oN):
  D X0 (.fn (.func 214) [] []) [.ptr q (2+i*32)] ⟨H,lo⟩=some (.ret (.ax []) ⟨H.set q (.box (ck {p with bytes:=au p.bytes i λ_=>0}) none),lo⟩):=by
 refine aH RQ λN d=>?_
 have b:=λlo=>awG (lo:=lo) c h
 have a: ∀o,(H.set q o).take N=H.set q o:=λo=>aeE (by grind)
 simp only[F1,go_sem,simprocAttr,RQ,ako,b,a]
theorem vV{o:Nat}:dA .ptr (.ptr q o) .dy=some false:=rfl
def U0{p:cU}(k:gb p){H:List ae}(m:i<2147483648)(h:H[q]?=some (.box (ck p) none)){fv:AV}{H':List ae}(r:H'.length=H.length)
  (n:gM p i=0->i<64->D X0 fv [.ptr q (2+i*32)] ⟨H,none⟩=some (.ret (.ax []) ⟨H',none⟩)) (lo:oN):
  D X0 (.fn (.func 140) [] []) [.ptr q 0,.int .i64 i,fv] ⟨H,lo⟩=some (.ret (.int .i64 (gM p i)) ⟨if gM p i=0 then H' else H,lo⟩):=by
 have ho:Old q H (.box (ck p) none):=⟨h⟩;refine aH FB λN s=>?_
 have o:=k.n;have c: ¬((i:Nat):Int)<0:=by omega
 have a:=asw (nM p) p.free (xH _) k.free.ok i m;have f:LX p.free i=TA p.free i:=rfl;rw[f]at a;by_cases l:p.n<=i
 ·have b: (i:Int)>=p.n:=by omega
  have d:gM p i=2:=by unfold gM;grind
  rw[d];simp(disch:=omega) only[F1,go_sem,simprocAttr,FB,vV,c,h,↓UZ,b]
 ·have b: ¬(i:Int)>=p.n:=by omega
  cases g:TA p.free i with
  |true=>
   rw[g]at a;have d:gM p i=12:=by unfold gM;rw[aeu l,aez g]
   rw[d];simp(disch:=omega) only[F1,go_sem,simprocAttr,FB,vV,c,h,↓UZ,↓xJ,b,a]
  |false=>
   rw[g]at a;have d:gM p i=0:=by unfold gM;rw[aeu l,g];rfl
   rw[d];have j:=n d (by omega);have e: (0:Int)<=i/\ (i:Int)<64:=by omega
   simp(disch:=omega) only[F1,go_sem,simprocAttr,FB,vV,c,h,↓UZ,↓xJ,b,a,e,j]
theorem GG{E:AS}{o:Nat}:od E (.ptr i o) tg=some (.ptr E.heap.length 0,E.push (.box [.ptr i o] tg)):=rfl
theorem akp{E:AS}{f:Fn}{bs cs:lA}:od E (.fn f bs cs) tg=some (.ptr E.heap.length 0,E.push (.box [.fn f bs cs] tg)):=rfl
theorem akq(n:Nat): ((n:Nat):Int).tdiv 32=((n/32:Nat):Int):=by rfl
theorem awI(n:Nat): ((n:Nat):Int).tmod 32=((n % 32:Nat):Int):=by rfl
section
variable{p:cU}(hp:gb p){i q:Nat}{H:List ae}(h:H[q]?=some (.box (ck p) none))(lo:oN)
include hp h
theorem awJ(e:i<2147483648):D X0 (.fn (.func 192) [] []) [.ptr q 0,.int .i64 i] ⟨H,lo⟩=some (.ret (.int .i64 (gM p i)) ⟨H.set q (.box (ck (ry p i)) none),lo⟩):=by
 have ho:Old q H (.box (ck p) none):=⟨h⟩;refine aH KZ λN g=>?_
 have a:=λlo=>U0 hp e h (fv:=.fn (.func 214) [] []) (H':=H.set q (.box (ck (ry p i)) none)) (by simp) (λd c=>by
  rw[awH c h];unfold ry;grind) lo
 have b: ∀o,(H.set q o).take N=H.set q o:=λo=>aeE (by grind)
 by_cases d:gM p i=0
 ·rw[d]at a;simp only[F1,go_sem,simprocAttr,KZ,a,b]
  grind
 ·simp only[aeu d]at a;have f:ry p i=p:=by unfold ry;grind
  rw[f,qm h];simp(disch:=omega) only[F1,go_sem,simprocAttr,KZ,a]
theorem awK(t:i<64){a b:Nat}(r:H[a]?=some (.box [.ptr q 0] none))(n:H[b]?=some (.box [.int .i64 i] none))(v:AV):
  D X0 (.fn (.func 141) [] [.ptr a 0,.ptr b 0]) [v] ⟨H,lo⟩=some (.ret (.ax []) ⟨H.set q (.box (ck (LQ p i)) none),lo⟩):=by
 refine fj KN λN s=>?_
 have f: ∀H lo,D X0 (.fn (.func 142) [] []) [.agg [nM p],.int .i64 i,.int .i64 1] ⟨H,lo⟩=some (.ret (qj (nM p) p.free (i,1)) ⟨H,lo⟩):=λH lo=>ahI (nM p) p.free (xH _) hp.free.ok (i,1) (by omega) (by simp) H lo
 have c: ∀o,(H.set q o).take N=H.set q o:=λo=>aeE (by grind)
 unfold qj at f;have j:= @akl p;have d:= @akm p;have k:=λl=>cL (mM l) (bB (g:=aA) (λ_=>rfl) l)
 have m:=cL (xH p) (bB (g:=aA) (λ_=>rfl) _);unfold LQ;cases e:iW p.free (i,1)with
 |some l=>
  simp only[e]at f⊢;simp only[F1,go_sem,simprocAttr,KN,s,r,n,h,↓xJ,f,j,c,xI,k]
 |none=>
  simp only[e]at f⊢;simp only[F1,go_sem,simprocAttr,KN,s,r,n,h,↓xJ,f,d,c,xI,m]
theorem awL(g:i<2147483648):D X0 (.fn (.func 99) [] []) [.ptr q 0,.int .i64 i] ⟨H,lo⟩=some (.ret (.int .i64 (gM p i)) ⟨H.set q (.box (ck (rA p i)) none),lo⟩):=by
 have ho:Old q H (.box (ck p) none):=⟨h⟩;refine aH KF λN e=>?_
 have f:q<N:=by grind
 obtain⟨B,hB⟩: ∃B:List ae,B=[.box [.ptr q 0] none,.box [.int .i64 i] none]:=⟨_,rfl⟩;have a:=λlo=>U0 hp g (bf (L:=B) h) (fv:=.fn (.func 141) [] [.ptr N 0,.ptr (N+1) 0]) (H':=(H++B).set q (.box (ck (rA p i)) none)) (by simp) (λc d=>by
  rw[awK hp (bf (L:=B) h) none d (by grind) (by grind)];unfold rA;grind) lo
 have b: ∀o,((H++B).set q o).take N=H.set q o:=λo=>by grind
 rw[hB]at a b;by_cases c:gM p i=0
 ·rw[c]at a;simp only[ahJ]at a;simp only[F1,go_sem,simprocAttr,KF,GG,e,a,b];rw[c];rfl
 ·simp only[aeu c]at a;have j:rA p i=p:=by unfold rA;rw[aeu c]
  rw[j,qm h];simp only[F1,go_sem,simprocAttr,KF,GG,e,a]
theorem akr{at':Nat}(r:at'<68719476736){f:Fn}{cs:lA}{H':List ae}(o:H'.length=H.length)
  (m: ∀L,gM p (at'/32)=0->at'/32<64->D X0 (.fn f [] cs) [.ptr q (2+at'/32*32+at' % 32)] ⟨H++L,none⟩=some (.ret (.ax []) ⟨H'++L,none⟩)):
  D X0 (.fn (.func 217) [] []) [.ptr q 0,.int .i64 at',.fn f [] cs] ⟨H,lo⟩=some (.ret (.int .i64 (gM p (at'/32))) ⟨if gM p (at'/32)=0 then H' else H,lo⟩):=by
 have ho:Old q H (.box (ck p) none):=⟨h⟩;refine aH K8 λN g=>?_
 have l:q<N:=by rw[<-g];exact ho.lt
 have n:H'.length=N:=by omega
 have e:gM p (at'/32)=0->at'/32<64->D X0 (.fn (.func 225) [] [.ptr (N+1) 0,.ptr N 0]) [.ptr q (2+at'/32*32)] ⟨H++[.box [.int .i64 at'] none,.box [.fn f [] cs] none],none⟩=some (.ret (.ax []) ⟨H'++[.box [.int .i64 at'] none,.box [.fn f [] cs] none],none⟩):=by
  intro b j;refine fj R0 λM k=>?_
  have d:=m [.box [.int .i64 at'] none,.box [.fn f [] cs] none] b j;simp(disch:=omega) only[F1,go_sem,simprocAttr,R0,awI,k,d];exact⟨by omega,dk rfl (aeE (by simp at k⊢;omega))⟩
 have a:=λlo=>U0 hp (i:=at'/32) (by omega) (bf (L:=[.box [.int .i64 at'] none,.box [.fn f [] cs] none]) h) (H':=H'++[.box [.int .i64 at'] none,.box [.fn f [] cs] none]) (by simp;omega) e lo
 have c: ¬((at':Nat):Int)<0:=by omega
 by_cases b:gM p (at'/32)=0
 ·rw[b]at a;simp only[ahJ]at a;simp(disch:=omega) only[F1,go_sem,simprocAttr,K8,akp,vV,akq,g,c,a];rw[b,aez rfl];rfl
 ·simp only[aeu b]at a;simp(disch:=omega) only[F1,go_sem,simprocAttr,K8,akp,vV,akq,g,c,a];rw[aeu b]
theorem awM{at':Nat}(k:at'<68719476736):D X0 (.fn (.func 198) [] []) [.ptr q 0,.int .i64 at'] ⟨H,lo⟩=some (.ret (.ax [.int .u8 (s9 p at'),.int .i64 (gM p (at'/32))]) ⟨H,lo⟩):=by
 have ho:Old q H (.box (ck p) none):=⟨h⟩;refine aH K1 λN d=>?_
 have g:q<N:=by grind
 have a:=λlo=>akr hp (bf (L:=[.box [.int .u8 0] none]) h) lo k (f:=.func 219) (cs:=[.ptr N 0]) (H':=H++[.box [.int .u8 (p.bytes (at'/32) (at' % 32))] none]) (by simp) (λL c b=>by
  refine fj RT λM l=>?_
  have j: ∀L,(H++L)[q]?=some (.box (ck p) none):=λL=>bf h
  have e:=awE (p:=p) b (show at' % 32<32 by omega);simp(disch:=omega) only[F1,go_sem,simprocAttr,RT,j,↓e];exact dk rfl (aeE (by simp at l⊢;omega)))
 unfold s9;by_cases c:gM p (at'/32)=0
 ·rw[c]at a⊢;simp only[ahJ]at a⊢;simp only[F1,go_sem,simprocAttr,K1,d,a,pJ]
 ·simp only[aeu c]at a⊢;simp only[F1,go_sem,simprocAttr,K1,d,a,pJ]
theorem awN{at' b:Nat}(m:at'<68719476736):D X0 (.fn (.func 196) [] []) [.ptr q 0,.int .i64 at',.int .u8 b] ⟨H,lo⟩=some (.ret (.int .i64 (gM p (at'/32))) ⟨H.set q (.box (ck (vC p at' b)) none),lo⟩):=by
 have ho:Old q H (.box (ck p) none):=⟨h⟩;refine aH K0 λN d=>?_
 have k:q<N:=by grind
 have a:=λlo=>akr hp (bf (L:=[.box [.int .u8 b] none]) h) lo m (f:=.func 218) (cs:=[.ptr N 0]) (H':=(H++[ae.box [.int .u8 b] none]).set q (.box (ck {p with bytes:=au p.bytes (at'/32) (au (p.bytes (at'/32)) (at' % 32) b)}) none)) (by simp) (λL g e=>by
  refine fj RS λM n=>?_
  have l: ∀L,(H++L)[q]?=some (.box (ck p) none):=λL=>bf h
  have j:=awF (p:=p) (v:=b) e (show at' % 32<32 by omega);simp(disch:=omega) only[F1,go_sem,simprocAttr,RS,l,j,xI]
  grind)
 unfold vC;have c: ∀L o,((H++L).set q o).take N=H.set q o:=λL o=>by
  rw[ard _ _ (by omega),kj (by simp[d])]
 by_cases g:gM p (at'/32)=0
 ·rw[g]at a⊢;simp only[ahJ]at a⊢;simp only[F1,go_sem,simprocAttr,K0,d,a,c]
 ·simp only[aeu g]at a⊢;rw[qm h];simp only[F1,go_sem,simprocAttr,K0,d,a]
theorem awO{n:Nat}(w:n<=1024):D XC (.fn (.func 191) [] []) [.ptr q 0,.int .i64 n] ⟨H,lo⟩=some (.ret (.ax [.int .i64 (jJ p n).2.1,.int .i64 (jJ p n).2.2]) ⟨H.set q (.box (ck (jJ p n).1) none),lo⟩):=by
 have ho:Old q H (.box (ck p) none):=⟨h⟩;refine aH B0 λN y=>?_
 have u:q<N:=by grind
 have k:=λl=>cL (mM l) (bB (g:=aA) (λ_=>rfl) l)
 have j:= @akl p;have e:= @akm p;have m:=cL (xH p) (bB (g:=aA) (λ_=>rfl) _);have c: ∀o,(H.set q o).take N=H.set q o:=λo=>aeE (by grind)
 by_cases s:n<1
 ·have a: ((n:Nat):Int)<1:=by omega
  have v:jJ p n=(p,0,2):=by unfold jJ;rw[aez s]
  rw[v,qm h];simp(disch:=omega) only[F1,go_sem,simprocAttr,B0,vV,a]
 ·have a: ¬((n:Nat):Int)<1:=by omega
  have b:=λH lo=>c0 (asz (nM p) p.free (xH _) hp.free.ok n H lo)
  unfold LY at b;have e1:jJ p n=match p.free.find? (fits n)with
   |none=>(p,0,6)
   |some x=>(match ru p.free (x.1,n)with|some l=>{p with free:=l,cK:=false}|none=>p,x.1,0):=by unfold jJ;rw[aeu s];rfl
  rw[e1];cases f:p.free.find? (fits n)with
  |none=>
   simp only[f]at b⊢;rw[qm h];simp(disch:=omega) only[F1,go_sem,simprocAttr,B0,vV,a,h,↓xJ,b]
  |some x=>
   simp only[f]at b⊢;have t:=hp.free.bd x (are f);have d:=λH lo=>awA (nM p) p.free (xH _) hp.free.ok (x.1,n) (by simp;omega) (by simp;omega) H lo
   unfold UX at d;cases r:ru p.free (x.1,n)with
   |none=>
    simp only[r]at d⊢;simp only[F1,go_sem,simprocAttr,B0,vV,a,h,↓xJ,b,d,e,c,xI,m]
   |some l=>
    simp only[r]at d⊢;simp only[F1,go_sem,simprocAttr,B0,vV,a,h,↓xJ,b,d,j,c,xI,k]
end
def kO(a:Nat):Prop:= ∀E,jx XA.fV E .int .du (.lR uR) (.int .u8 a) true=some (match rL a with|some f=>.ax [.fn (.func f) [] [],.bool true]|none=>.ax [.du,.bool false])
theorem rN{r:bG}:aI (bH r)=0:=rfl
def aks(s:bF)(g:br s)(aa:Nat)(f:aa<4294967296)(c:cy)(i:j8 c)(k:kO c.op)(H:List ae)(lo:oN):
  D XC (.fn (.func 111) [] []) [.agg (bn s),.int .i64 aa,.agg (bp c)] ⟨H,lo⟩=some (.ret (.int .i64 (oL s aa c)) ⟨H,lo⟩):=by
 refine aH KJ λN j=>?_
 have h:=λH lo=>cB (UR s g aa f c i k H lo)
 unfold oL;by_cases l:0<fk s aa c
 ·have a: ((fk s aa c:Nat):Int)>0:=by omega
  rw[aez l];simp only[F1,go_sem,simprocAttr,KJ,j,DZ,h,a]
 ·have a: ¬((fk s aa c:Nat):Int)>0:=by omega
  rw[aeu l];obtain⟨v,d1,d2⟩:=UQ s g aa f c i (0,0) ⟨show 0<4294967296 by omega,show 0<4294967296 by omega⟩ k (H++[.box (bn s) none,.box (bp c) none]) none;have d1:=cB d1;have b:aA (0,0)=[.int .i64 0,.int .i64 0]:=rfl;rw[b]at d1;generalize dX s aa c (0,0)=d at*;have e: (bH d.2.1)[0]?=some (.int .i64 d.2.1.e):=rfl;simp only[F1,go_sem,simprocAttr,KJ,j,DZ,h,a,d1,e,mL,rN]
def akt(s:bF)(f:br s)(aa:Nat)(e:aa<4294967296)(c:cy)(h:j8 c)(i:kO c.op)(H:List ae)(lo:oN):
  D XC (.fn (.func 75) [] []) [.agg (bn s),.int .i64 aa,.agg (bp c)] ⟨H,lo⟩=some (.ret (.bool (Co s aa c)) ⟨H,lo⟩):=by
 refine aH KA λN b=>?_
 have g:=aks s f aa e c h i;unfold Co;by_cases d:c.op=15
 ·have a: (c.op:Int)=15:=by omega
  have j:decide (oL s aa c=10)=decide (((oL s aa c:Nat):Int)=10):=agv.2 (by omega);rw[aeD d,alk,j];simp only[F1,go_sem,simprocAttr,KA,b,DZ,gp,a,g]
 ·have a: ¬(c.op:Int)=15:=by omega
  rw[aeC d,ahM];simp only[F1,go_sem,simprocAttr,KA,b,gp,a]
def GH(s:bF)(h:Nat):AV:=if s.T.az h then .sl [hC h] true else .aq
def aku(s:bF)(g:br s)(h:Nat)(f:h<4294967296)(H:List ae)(lo:oN):
  D XC (.fn (.func 206) [] []) [.agg (bn s),.int .u32 h] ⟨H,lo⟩=some (.ret (GH s h) ⟨H,lo⟩):=by
 refine aH K2 λN d=>?_
 have b:=λH lo=>c0 (eP s.T.b h f H lo)
 have c:az s.T.b h=s.T.az h:=rfl;rw[c]at b;unfold GH;have a:Den.part true 96 (bn s) 0=some (.agg (b9 s.T.b)):=by rfl
 cases e:s.T.az h with
 |true=>
  rw[e]at b;simp only[F1,go_sem,simprocAttr,K2,d,↓a,b];rfl
 |false=>
  rw[e]at b;simp only[F1,go_sem,simprocAttr,K2,d,↓a,b]
def Am(s:bF)(h:Nat):Rv (GH s h) 1 ((oM s h).map hC):=by
 unfold GH oM;split
 ·exact .sl (by intro el a;rw[ae5.1 a];rfl)
 ·exact .aq
def awP(l:lN)(p:l.length<2147483648)(v:AV)(H:List ae)(b:Rd ⟨H,none⟩ v 1 (l.map hC))(x:Nat)(lo:oN):
  D X0 (.fn (.func 221) [] []) [v,.int .u32 x] ⟨H,lo⟩=some (.ret (.int .i64 (kM (λy=>decide (y=x)) l)) ⟨H,lo⟩):=by
 refine aH RW λN t=>?_
 simp only[go_sem,simprocAttr,RW,b.bJ];refine dQ l.length (λk e H'=>H'=H/\ (∀j,j<k->decide (l.getD j default=x)=false)/\e 0=v/\e 1= .int .u32 x/\e 7= .int .i64 l.length/\e 8= .int .i64 k) 0 (by omega) ?_ ?_
 ·simp only[go_sem,simprocAttr];omega
 rintro k r e H' ⟨rfl,f,n,i,h,g⟩ m hm;simp(disch:=omega) only[bO,F1,go_sem,simprocAttr,afU,n,i,h,g];refine⟨λo=>?_,λo=>?_⟩
 ·have c:k<l.length:=by omega
  have d: ∀y,(hC y)[0]?=some (.int .u32 y):=λ_=>rfl
  by_cases e1:l.getD k default=x
  ·have a: ((x:Nat):Int)=(l.getD k default:Nat):=by omega
   simp(disch:=omega) only[F1,go_sem,simprocAttr,b.bW,b.cp,d,a];rw[zV c f (aeD e1)];exact⟨by omega,rfl⟩
  ·have a: ¬((x:Nat):Int)=(l.getD k default:Nat):=by omega
   simp(disch:=omega) only[go_sem,simprocAttr,n,i,h,g,b.bW,b.cp,d,a];refine⟨by omega,c,λj s=>?_⟩;rcases(show j<k\/j=k by omega)with q|rfl
   ·exact f j q
   ·exact aeC e1
 ·obtain rfl:k=l.length:=by omega
  rw[zW f]
def awQ(l:lN)(b:l.length<2147483648)(v:AV)(H:List ae)(a:Rd ⟨H,none⟩ v 1 (l.map hC))(x:Nat)(lo:oN):
  D X0 (.fn (.func 209) [] []) [v,.int .u32 x] ⟨H,lo⟩=some (.ret (.bool (l.contains x)) ⟨H,lo⟩):=by
 refine aH RN λN c=>?_
 simp(disch:=omega) only[F1,go_sem,simprocAttr,RN,awP l b v H a x none,zU]
 grind
section
variable{s:bF}(hs:br s){c:cy}(hc:j8 c){a b:Nat}{H:List ae}(ha:H[a]?=some (.box (bn s) none))(hb:H[b]?=some (.box (bp c) none))(lo:oN)
include hs hc ha hb
theorem akv:D XC (.fn (.func 205) [] [.ptr a 0,.ptr b 0]) [] ⟨H,lo⟩=some (.ret (GH s c.r) ⟨H,lo⟩):=by
 refine fj RM λN e=>?_
 have d:=cL (Am s c.r) (bB (λ_=>rfl) _);simp(disch:=omega) only[F1,go_sem,simprocAttr,RM,ha,hb,↓SL,gp,aku s hs c.r hc.r,d]
theorem awR{u:Nat}(p:H[u]?=some (.box [.fn (.func 207) [] [.ptr a 0,.ptr b 0]] none)):
  ∃v,D XC (.fn (.func 208) [] [.ptr u 0,.ptr a 0,.ptr b 0]) [] ⟨H,lo⟩=some (.ret v ⟨H,lo⟩)/\Rv v 1 ((if under s.T c.r=[]\/s.T.az c.s=false then[]else if(under s.T c.r).contains c.s then under s.T c.r else under s.T c.r++[c.s]).map hC):=by
 suffices E: ∃o,D XC (.fn (.func 208) [] [.ptr u 0,.ptr a 0,.ptr b 0]) [] ⟨H,lo⟩=some o/\ (λo=> ∃v,o=aX.ret v ⟨H,lo⟩/\Rv v 1 ((if under s.T c.r=[]\/s.T.az c.s=false then[]else if(under s.T c.r).contains c.s then under s.T c.r else under s.T c.r++[c.s]).map hC)) o by
  obtain⟨o,M,v,rfl,K⟩:=E;exact⟨v,M,K⟩
 refine uf B1 rfl rfl rfl λN q=>?_
 obtain⟨v,J,ak,g1,g2,O⟩:=UW hs hc ha hb N q none;have e:=λH lo=>c0 (eP s.T.b c.s hc.s H lo)
 have z:az s.T.b c.s=s.T.az c.s:=rfl;rw[z]at e;have k:Den.part true 96 (bn s) 0=some (.agg (b9 s.T.b)):=by rw[<-vL (x:=⟨s,0,mU,(0,0),0,false,[]⟩) (bk:=.aq) (by omega) (by omega)];exact Uo
 have F:=z5 hs.tr c.r;have G:=iZ g2 ak;have d:=G.bJ;have w:=λL=>bf (L:=L) ha
 have t:=λL=>bf (L:=L) hb
 have h:=λlo=>c0 (awQ (under s.T c.r) (by omega) v (H++J) (iZ g2 none) c.s lo)
 have f:eA N ak:=eA.of O;have j: (H++J).take N=H:=by rw[<-q];simp
 have y:=bB (g:=hC) (λ_=>rfl) (under s.T c.r);by_cases r:under s.T c.r=[]
 ·have n: ((under s.T c.r).length:Int)=0:=by rw[r];rfl
  rw[aez (.inl r)];simp only[go_sem,simprocAttr,B1,p,g1,d,n];rw[iG f (ae4 _),j];exact⟨_,rfl,.aq⟩
 ·have n: ¬((under s.T c.r).length:Int)=0:=by
    have:=azW.2 r;omega
  cases B:s.T.az c.s with
  |false=>
   rw[B]at e;rw[aez (.inr rfl)];simp only[go_sem,simprocAttr,B1,p,g1,d,n,w,t,↓k,gp,e];rw[iG f (ae4 _),j];exact⟨_,rfl,.aq⟩
  |true=>
   rw[B]at e;rw[aeu (by simp[r])];cases m: (under s.T c.r).contains c.s with
   |true=>
    rw[m]at h;rw[aez rfl];simp only[go_sem,simprocAttr,B1,p,g1,d,n,w,t,↓k,gp,e,h];rw[Gm f g2 (by rw[y];omega),j];exact⟨_,rfl,aP.pG g2⟩
   |false=>
    rw[m]at h;rw[aeu (by simp)];simp only[go_sem,simprocAttr,B1,p,g1,d,n,w,t,↓k,gp,e,h];refine pE (H0:=H) (ys:=[[.int .u32 c.s]]) g2 (aok _ _) q (by omega) (by intro el A;rw[ae5.1 A];rfl) rfl (by unfold room;simp;omega) λv' W C I=>?_
    simp only[go_sem,simprocAttr];have l:aP N W v' 1 b8 ((under s.T c.r++[c.s]).map hC):=by rw[agp];exact C
    rw[Gm f l (by rw[bB (λ_=>rfl)];omega)];refine⟨_,dk rfl (lL q λi P=>?_),aP.pG l⟩;obtain⟨L,rfl⟩:=I;rw[acK (by omega)]
theorem awS: ∃v,D XC (.fn (.func 210) [] [.ptr a 0,.ptr b 0]) [] ⟨H,lo⟩=some (.ret v ⟨H,lo⟩)/\Rv v 1 ((if(cn s.K c.s).2=0 then oM s (cn s.K c.s).1.aQ else[]).map hC):=by
 suffices n: ∃g,D XC (.fn (.func 210) [] [.ptr a 0,.ptr b 0]) [] ⟨H,lo⟩=some g/\ (λg=> ∃v,g=aX.ret v ⟨H,lo⟩/\Rv v 1 ((if(cn s.K c.s).2=0 then oM s (cn s.K c.s).1.aQ else[]).map hC)) g by grind
 refine uf K4 rfl rfl rfl λN k=>?_
 have j:=λH lo=>c0 (CD s.K hs.K c.s hc.s H lo)
 have m:=λL=>bf (L:=L) ha
 have f: ∀t:Tok,(fO t).length=5:=λ_=>rfl
 have e: ∀t:Tok,aI (fO t)=0:=λ_=>rfl
 have h: ∀t:Tok,(fO t)[0]?=some (.int .u32 t.aQ):=λ_=>rfl
 by_cases l: (cn s.K c.s).2=0
 ·have d: (((cn s.K c.s).2:Nat):Int)=0:=by omega
  have ho:=aku s hs (cn s.K c.s).1.aQ (hs.K.get c.s).aQ;have i:=cL (Am s (cn s.K c.s).1.aQ) (bB (λ_=>rfl) _);rw[aez l];simp only[F1,go_sem,simprocAttr,K4,k,ha,hb,↓SL,gp,m,f,e,h,j,d,ho,i];exact⟨_,rfl,Am s _⟩
 ·have d: ¬(((cn s.K c.s).2:Nat):Int)=0:=by omega
  rw[aeu l];simp only[F1,go_sem,simprocAttr,K4,k,ha,hb,↓SL,gp,f,e,j,d];exact⟨_,rfl,.aq⟩
theorem awT{u:Nat}(l:H[u]?=some (.box [.fn (.func 207) [] [.ptr a 0,.ptr b 0]] none))(h:H[i]?=some (.box [.fn (.func 205) [] [.ptr a 0,.ptr b 0]] none)):
  ∃v,D XC (.fn (.func 211) [] [.ptr b 0,.ptr i 0,.ptr u 0]) [] ⟨H,lo⟩=some (.ret v ⟨H,lo⟩)/\Rv v 1 ((if c.b=1 then oM s c.r else under s.T c.r).map hC):=by
 suffices n: ∃e,D XC (.fn (.func 211) [] [.ptr b 0,.ptr i 0,.ptr u 0]) [] ⟨H,lo⟩=some e/\ (λe=> ∃v,e=aX.ret v ⟨H,lo⟩/\Rv v 1 ((if c.b=1 then oM s c.r else under s.T c.r).map hC)) e by grind
 refine uf K5 rfl rfl rfl λN j=>?_
 by_cases k:c.b=1
 ·have d: (c.b:Int)=1:=by omega
  have g:=cL (Am s c.r) (bB (λ_=>rfl) _);rw[aez k];simp(disch:=omega) only[F1,go_sem,simprocAttr,K5,hb,h,gp,d,akv hs hc ha hb,g];exact⟨_,rfl,Am s _⟩
 ·have d: ¬(c.b:Int)=1:=by omega
  obtain⟨v,J,ak,g1,g2,m⟩:=UW hs hc ha hb N j none;have f: (H++J).take N=H:=by rw[<-j];simp
  rw[aeu k];simp only[go_sem,simprocAttr,K5,hb,l,gp,d,g1];rw[Gm (eA.of m) g2 (by rw[bB (λ_=>rfl)];omega),f];exact⟨_,rfl,aP.pG g2⟩
end
abbrev ft(N:Nat):AV:=.fn (.func 205) [] [.ptr N 0,.ptr (N+1) 0]
abbrev lP(N:Nat):AV:=.fn (.func 207) [] [.ptr N 0,.ptr (N+1) 0]
abbrev MN(N:Nat):AV:=.fn (.func 208) [] [.ptr (N+3) 0,.ptr N 0,.ptr (N+1) 0]
abbrev MO(N:Nat):AV:=.fn (.func 210) [] [.ptr N 0,.ptr (N+1) 0]
abbrev MQ(N:Nat):AV:=.fn (.func 211) [] [.ptr (N+1) 0,.ptr (N+2) 0,.ptr (N+3) 0]
def awU(N:Nat):List (AV×AV):=[(.int .u8 1,ft N),(.int .u8 2,ft N),(.int .u8 3,ft N),(.int .u8 4,ft N),(.int .u8 5,ft N),(.int .u8 10,ft N),(.int .u8 12,ft N),(.int .u8 18,ft N),(.int .u8 19,ft N),(.int .u8 6,lP N),(.int .u8 7,lP N),(.int .u8 9,lP N),(.int .u8 11,lP N),(.int .u8 8,MN N),(.int .u8 13,MO N),(.int .u8 14,MQ N)]
def nN(N k:Nat):List (AV×AV):=(awU N).take k
theorem awV(N:Nat):ae.map []= .map (nN N 0):=rfl
def mo{N:Nat}{H:List ae}(d:H.length=N)(B:List ae)(f:B.length=4){key:Int}(i:v.refs<=N+5)(h:lU (.int .u8 key) v (nN N k)=some (nN N (k+1)))(lo:oN):
  mw ⟨H++(B++[.map (nN N k)]),lo⟩ .int (.mp (N+4)) (.int .u8 key) v=some ⟨H++(B++[.map (nN N (k+1))]),lo⟩:=by
 simp only[mw,kR,ahJ];have e: (H++(B++[ae.map (nN N k)]))[N+4]?=some (.map (nN N k)):=by grind
 simp only[e,h];have g: (H++(B++[ae.map (nN N k)])).set (N+4) (.map (nN N (k+1)))=H++(B++[.map (nN N (k+1))]):=by
  rw[aqu _ _ (by omega),aqu _ _ (by omega)];simp[d,f]
 simp only[AS.set,g]
 grind
def GJ(N d:Nat):Option AV:=
 if[1,2,3,4,5,10,12,18,19].contains d then some (ft N)
 else if[6,7,9,11].contains d then some (lP N)
 else if d=8 then some (MN N)else if d=13 then some (MO N)else if d=14 then some (MQ N)else none
def awW(N d:Nat):eu (.int .u8 d) (nN N 16)=some (GJ N d):=by
 have key: ∀ (es:List (Nat×AV)),eu (.int .u8 d) (es.map λx=>(.int .u8 (x.1:Nat),x.2))=some ((es.find? λx=>decide (x.1=d)).map (·.2)):=by
  intro es
  induction es with
  |nil=>rfl
  |cons x xs j=>
   simp only[amF,eu,o9,ahJ,List.find?_cons]
   grind
 have e:nN N 16=[(1,ft N),(2,ft N),(3,ft N),(4,ft N),(5,ft N),(10,ft N),(12,ft N),(18,ft N),(19,ft N),(6,lP N),(7,lP N),(9,lP N),(11,lP N),(8,MN N),(13,MO N),(14,MQ N)].map λx:Nat×AV=>(.int .u8 (x.1:Nat),x.2):=rfl
 rw[e,key];by_cases h:d<=19
 ·rcases(show d=0\/d=1\/d=2\/d=3\/d=4\/d=5\/d=6\/d=7\/d=8\/d=9\/d=10\/d=11\/d=12\/d=13\/d=14\/d=15\/d=16\/d=17\/d=18\/d=19 by omega)with q|q|q|q|q|q|q|q|q|q|q|q|q|q|q|q|q|q|q|q<;>subst q<;>rfl
 ·have hc: ∀l:lN,l.all (λk=>decide (k<=19))=true->l.contains d=false:=by
    intro l g;rw[Bool.eq_false_iff];intro hm;have:=agx.1 g d (by simpa using hm);simp at this;omega
  have f: ∀l:List (Nat×AV),(l.map (·.1)).all (λk=>decide (k<=19))=true->l.find? (λx=>decide (x.1=d))=none:=by
   intro l g;rw[awB];intro x i;have:=agx.1 g x.1 (List.mem_map_of_mem i);simp at this⊢;omega
  rw[f _ rfl];unfold GJ;rw[hc _ rfl,hc _ rfl,aeu (by simp),aeu (by simp),aeu (by omega),aeu (by omega),aeu (by omega)];rfl
def awX{s:bF}(hs:br s)(hc:j8 c)(H:List ae)(lo:oN):
  ∃v,D XC (.fn (.func 189) [] []) [.agg (bn s),.agg (bp c)] ⟨H,lo⟩=some (.ret v ⟨H,lo⟩)/\Rv v 1 ((s8 s c).map hC):=by
 suffices X: ∃r,D XC (.fn (.func 189) [] []) [.agg (bn s),.agg (bp c)] ⟨H,lo⟩=some r/\ (λr=> ∃v,r=aX.ret v ⟨H,lo⟩/\Rv v 1 ((s8 s c).map hC)) r by
  obtain⟨r,h1,v,rfl,Z⟩:=X;exact⟨v,h1,Z⟩
 refine cA RA λN d=>?_
 have V:N<=N+1:=by omega
 have U:N<=N+2:=by omega
 have Y: (ft N).refs=N+2:=by simp[AV.refs,aI]
 have P: (lP N).refs=N+2:=by simp[AV.refs,aI]
 obtain⟨B,hB⟩: ∃B:List ae,B=[.box (bn s) none,.box (bp c) none,.box [ft N] none,.box [lP N] none]:=⟨_,rfl⟩;have hm:=awV N;have G:=mo (k:=0) (key:=1) (v:=ft N) d B (by rw[hB];rfl) (by simp[AV.refs,aI]) rfl;have F:=mo (k:=1) (key:=2) (v:=ft N) d B (by rw[hB];rfl) (by simp[AV.refs,aI]) rfl;have C:=mo (k:=2) (key:=3) (v:=ft N) d B (by rw[hB];rfl) (by simp[AV.refs,aI]) rfl;have A:=mo (k:=3) (key:=4) (v:=ft N) d B (by rw[hB];rfl) (by simp[AV.refs,aI]) rfl;have z:=mo (k:=4) (key:=5) (v:=ft N) d B (by rw[hB];rfl) (by simp[AV.refs,aI]) rfl;have y:=mo (k:=5) (key:=10) (v:=ft N) d B (by rw[hB];rfl) (by simp[AV.refs,aI]) rfl;have x:=mo (k:=6) (key:=12) (v:=ft N) d B (by rw[hB];rfl) (by simp[AV.refs,aI]) rfl;have w:=mo (k:=7) (key:=18) (v:=ft N) d B (by rw[hB];rfl) (by simp[AV.refs,aI]) rfl;have p8:=mo (k:=8) (key:=19) (v:=ft N) d B (by rw[hB];rfl) (by simp[AV.refs,aI]) rfl;have u:=mo (k:=9) (key:=6) (v:=lP N) d B (by rw[hB];rfl) (by simp[AV.refs,aI]) rfl;have o:=mo (k:=10) (key:=7) (v:=lP N) d B (by rw[hB];rfl) (by simp[AV.refs,aI]) rfl;have n:=mo (k:=11) (key:=9) (v:=lP N) d B (by rw[hB];rfl) (by simp[AV.refs,aI]) rfl;have m:=mo (k:=12) (key:=11) (v:=lP N) d B (by rw[hB];rfl) (by simp[AV.refs,aI]) rfl;have l:=mo (k:=13) (key:=8) (v:=MN N) d B (by rw[hB];rfl) (by simp[AV.refs,aI]) rfl;have j:=mo (k:=14) (key:=13) (v:=MO N) d B (by rw[hB];rfl) (by simp[AV.refs,aI]) rfl;have i:=mo (k:=15) (key:=14) (v:=MQ N) d B (by rw[hB];rfl) (by simp[AV.refs,aI]) rfl;rw[hB]at G F C A z y x w p8 u o n m l j i;simp only[ahY,ah1]at G F C A z y x w p8 u o n m l j i;simp only[go_sem,simprocAttr,RA,d,V,U,hm,Y,P,gp,G,F,C,A,z,y,x,w,p8,u,o,n,m,l,j,i];have O: ∀E:AS,E.heap[N+4]?=some (.map (nN N 16))->jx XC.fV E .int .du (.mp (N+4)) (.int .u8 c.op) true=some (match GJ N c.op with|some v=>.ax [v,.bool true]|none=>.ax [.du,.bool false]):=by
  intro E h;simp only[jx,kR,ahJ,mapOf,h,awW];cases GJ N c.op<;>rfl
 rw[O _ (by rw[bA d];rfl)];obtain⟨W,g⟩: ∃W,W=H++[.box (bn s) none,.box (bp c) none,.box [ft N] none,.box [lP N] none,.map (nN N 16)]:=⟨_,rfl⟩;have w0:W[N]?=some (.box (bn s) none):=by rw[g,dq d];rfl
 have w1:W[N+1]?=some (.box (bp c) none):=by rw[g,bA d];rfl
 have T:W[N+2]?=some (.box [ft N] none):=by rw[g,bA d];rfl
 have R:W[N+3]?=some (.box [lP N] none):=by rw[g,bA d];rfl
 have wt: ∀L,(W++L).take N=H:=λL=>by rw[g,aev,kj d]
 have e:W.take N=H:=by rw[g,kj d]
 have Q:W.length=N+5:=by rw[g];simp[d]
 rw[<-g];unfold s8 GJ;by_cases p: [1,2,3,4,5,10,12,18,19].contains c.op
 ·simp only[p,ahJ];have K:=cL (Am s c.r) (bB (λ_=>rfl) _);simp only[F1,go_sem,simprocAttr,akv hs hc w0 w1,K,e];exact⟨_,rfl,Am s _⟩
 ·by_cases q: [6,7,9,11].contains c.op
  ·obtain⟨v,J,ak,g1,g2,g3⟩:=UW hs hc w0 w1 (N+5) Q none;simp only[p,q,ahJ,ajc,agm];simp only[go_sem,simprocAttr,g1];rw[Gm (eA.le (eA.of g3) (by omega)) (aP.le (M:=N) g2 (by omega)) (by rw[bB (λ_=>rfl)];omega),wt];exact⟨_,rfl,aP.pG g2⟩
  ·by_cases t:c.op=8
   ·obtain⟨v,g1,g2⟩:=awR hs hc w0 w1 none R;have f:=cL g2 (bB (λ_=>rfl) _);simp only[aeu p,aeu q,aez t];simp only[F1,go_sem,simprocAttr,g1,f,e];exact⟨_,rfl,g2⟩
   ·by_cases I:c.op=13
    ·obtain⟨v,g1,g2⟩:=awS hs hc w0 w1 none;have f:=cL g2 (bB (λ_=>rfl) _);simp only[aeu p,aeu q,aeu t,aez I];simp only[F1,go_sem,simprocAttr,g1,f,e];exact⟨_,rfl,g2⟩
    ·by_cases S:c.op=14
     ·obtain⟨v,g1,g2⟩:=awT hs hc w0 w1 none R T;have f:=cL g2 (bB (λ_=>rfl) _);simp only[aeu p,aeu q,aeu t,aeu I,aez S];simp only[F1,go_sem,simprocAttr,g1,f,e];exact⟨_,rfl,g2⟩
     ·simp only[p,q,t,I,S,ajc,agm];simp only[F1,go_sem,simprocAttr,e];exact⟨_,rfl,.aq⟩
def bQ(x:Core)(q:Nat)(qv:AV):lA:=bn x.S++([.ptr q 0]++(cS x.M++[qv]))
section
variable{x:Core}{q:Nat}{qv:AV}
def An: (bQ x q qv).length=1274:=by simp only[bQ,aeZ,en,eC];rfl
def U1:aI (bQ x q qv)=max (q+1) qv.refs:=by
 simp only[bQ,F0,mL,j9];simp[aI,AV.refs]
def MR:Den.part true 952 (bQ x q qv) 0=some (.agg (bn x.S)):=by exact xd (en _) (by omega)
def U2{ag:Bool}{o:Nat}(ho:952<=o):Den.part ag m (bQ x q qv) o=Den.part ag m ([.ptr q 0]++(cS x.M++[qv])) (o-952):=by
 unfold bQ;rw[jY (by rw[en];exact ho),en]
def U3:Den.part false 1 (bQ x q qv) 952=some (.ptr q 0):=by rw[U2 (by omega)];rfl
def akw:Den.part true 320 (bQ x q qv) 953=some (.agg (cS x.M)):=by
 rw[U2 (by omega),jY (by simp)];exact xd (eC _) (by omega)
def U4:Den.part false 1 (bQ x q qv) 1273=some qv:=by
 rw[U2 (by omega),jY (by simp),jY (by rw[eC];simp),eC];rfl
def akx{s:bF}:aJ (bQ x q qv) 0 (bn s)=bQ {x with S:=s} q qv:=by
 unfold bQ;rw[nr (by rw[en,en];omega),kG (by rw[en,en])]
def aky{m:Marks}:aJ (bQ x q qv) 953 (cS m)=bQ {x with M:=m} q qv:=by
 unfold bQ;rw[fy (by rw[en];omega),en,fy (by simp),nr (by simp[eC])];have:953-952- [AV.ptr q 0].length=0:=rfl;rw[this,kG (by rw[eC,eC])]
def akz:aJ (bQ x q qv) 1273 [v]=bQ x q v:=by
 unfold bQ;rw[fy (by rw[en];omega),en,fy (by simp),fy (by rw[eC];simp),eC];rfl
theorem aCR{P:cU}:bQ {x with P:=P} q qv=bQ x q qv:=rfl
theorem awY{Q:lN}:bQ {x with Q:=Q} q qv=bQ x q qv:=rfl
def GK: (bQ x q qv)[952]?=some (.ptr q 0):=U3
def U5: (bQ x q qv)[1273]?=some qv:=U4
def KL:=gG @MR<|gG @U3<|gG @akw<|gG @U4<|gG @GK @U5
def KS:=gG @akx<|gG @aky<|gG @akz @An
end
def cW(N:Nat)(H:List ae)(v:AV)(sz:Nat)(ty:TypeId)(af:List lA):Prop:=
 (∀el∈af,el.length=sz)/\ ((v= .aq/\af=[])\/ ∃id aj off all,N<=id/\v= .ref id aj sz off af.length false/\H[id]?=some (.row aj sz ty all)/\off+af.length<=all.length/\ (all.drop off).take af.length=af)
theorem cW.aq{N:Nat}{H:List ae}{ty:TypeId}:cW N H .aq sz ty []:=⟨by simp,.inl ⟨rfl,rfl⟩⟩
section
variable{N:Nat}{H H':List ae}{v:AV}{sz:Nat}{ty:TypeId}{af:List lA}
def cW.rd(h:cW N H v sz ty af):Rd ⟨H,lo⟩ v sz af:=by
 obtain⟨c,b⟩:=h;rcases b with⟨rfl,rfl⟩| ⟨id,aj,off,all,e,rfl,a,f,d⟩
 ·exact .aq
 ·refine⟨trivial,?_,c⟩;simp only[elems,a,azs]
  grind
def cW.nX(h:cW N H v sz ty af)(b: ∀ (id aj:Nat) (all:List lA),H[id]?=some (ae.row aj sz ty all)->H'[id]?=some (ae.row aj sz ty all)):cW N H' v sz ty af:=by
 obtain⟨a,c⟩:=h;refine⟨a,?_⟩
 grind
def cW.mono(h:cW N H v sz ty af)(b:M<=N):cW M H v sz ty af:=by
 obtain⟨a,c⟩:=h;refine⟨a,?_⟩
 grind
def cW.app(h:cW N H v sz ty af)(L:List ae):cW N (H++L) v sz ty af:=h.nX λ_ _ _ a=>bf a
theorem cW.set(h:cW N H v sz ty af){cs:lA}(b:H[p]?=some (.box cs tg))(o:ae):cW N (H.set p o) v sz ty af:=h.nX λid _ _ a=>by grind
theorem cW.take{n:Nat}{a:List lA}(h:cW N H v sz ty af)(e:cW N H0 v sz ty a)(k:H0.length=n):cW N (H.take n) v sz ty af:=by
 obtain⟨d,b⟩:=h;refine⟨d,?_⟩;rcases b with b| ⟨id,aj,off,all,o,g,j,l,i⟩
 ·grind
 ·rcases e.2 with⟨q,_⟩| ⟨c,_,_,_,_,q,f,_⟩
  ·grind
  grind
def cW.tail{a:lA}{bytes:Nat}(h:cW N H v sz ty (a::af)): ∃w,gw sz v (some (.int .i64 1)) none none=some w/\cW N H w sz ty af/\w.cq=false/\w.cells=[w]/\w.refs=v.refs:=by
 obtain⟨i,c⟩:=h;rcases c with⟨_,c⟩| ⟨id,aj,off,all,f,rfl,e,k,j⟩
 ·grind
 ·refine⟨.ref id aj sz (off+1) af.length false,?_,⟨λel d=>i el (agE _ d),.inr ⟨id,aj,off+1,all,f,rfl,e,by grind,?_⟩⟩,rfl,rfl,rfl⟩
  ·have g:gv (a::af).length (some (.int .i64 1)) none=some (1,af.length+1):=by
     have: (1:Int)<=af.length+1:=by omega
     simp[gv,lS,this]
   simp only[gw,g,lT]
   grind
  ·have: (all.drop off).take (af.length+1)=a::af:=by omega
   have c:all.drop (off+1)=(all.drop off).drop 1:=by simp
   rw[c];generalize all.drop off=l at this;cases l with
   |nil=>grind
   |cons b l=>grind
def cW.append{bytes:Nat}{y:lA}(h:cW N H v sz ty af)(r:N<=H.length)(f:0<sz)(t:y.length=sz)(j:aI y=0)(p: (af.length+1)*bytes<=room):
  ∃v' H',dv ⟨H,lo⟩ ty sz bytes v [y]=some (v',⟨H',lo⟩)/\cW N H' v' sz ty (af++[y])/\H.length<=H'.length/\ (∀i,i<N->H'[i]?=H[i]?)/\ (∀ (i:Nat) (o:ae),(∀a d,o≠ae.row a sz ty d)->H[i]?=some o->H'[i]?=some o)/\v'.cq=false/\v'.cells=[v']/\N<v'.refs:=by
 have c:0<sz/\ [y].all (λel=>el.length==sz)=true:=⟨f,by grind⟩;obtain⟨z,s⟩:=h;have e: ∀el∈af++[y],el.length=sz:=by grind
 rcases s with⟨rfl,rfl⟩| ⟨id,aj,off,all,k,rfl,b,u,g⟩
 ·refine⟨.ref H.length 0 sz 0 1 false,H++[.row 0 sz ty [y]],?_,⟨e,.inr ⟨H.length,0,0,[y],r,rfl,by simp,by simp,by simp⟩⟩,by simp,λi n=>acK (by omega),λi o _ ho=>bf ho,rfl,rfl,by simp only[AV.refs];omega⟩;unfold dv;rw[aez c];simp only[aq9];rw[aeu (by omega),aez (by omega)];rfl
 ·have l:=dZ b;refine⟨.ref id (aj+1) sz 0 (af.length+1) false,H.set id (.row (aj+1) sz ty (af++[y])),?_,⟨e,.inr ⟨id,aj+1,0,af++[y],k,by simp,by grind,by simp,aeE (by simp)⟩⟩,by simp,λi n=>acG (by omega),λi o ho w=>?_,rfl,rfl,by simp only[AV.refs];omega⟩
  ·unfold dv;rw[aez c];simp only[b,aq9];rw[aez ⟨trivial,trivial,trivial,trivial,by omega,p⟩,aeu (by omega)];have:cb [y]=0:=by simp[cb,j]
   simp[AS.set,this,g]
  grind
end
def Mu(o:ae):Prop:= ∃a d,o= .row a 1 ot d
structure Fq(m:Nat)(S:lN)(H H':List ae):Prop where
 len:H.length<=H'.length
 low: ∀i,i<m->i∉S->H'[i]?=H[i]?
 box: ∀i o,i∉S-> ¬Mu o->H[i]?=some o->H'[i]?=some o
section
variable{m:Nat}{S T:lN}{A B C H W:List ae}
theorem Fq.refl:Fq m S A A:=⟨ae0 _,λ_ _ _=>rfl,λ_ _ _ _ h=>h⟩
theorem Fq.trans(h:Fq m S A B)(g:Fq m S B C):Fq m S A C:=⟨agD h.len g.len,λi a b=>(g.low i a b).trans (h.low i a b),λi o a ho c=>g.box i o a ho (h.box i o a ho c)⟩
def Fq.mono(h:Fq m S A B)(b: ∀i∈S,i∈T):Fq m T A B:=⟨h.len,λi a q=>h.low i a λr=>q (b i r),λi o a ho c=>h.box i o (λq=>a (b i q)) ho c⟩
theorem Fq.set(b:p∈S)(_:m<=A.length)(o:ae):Fq m S A (A.set p o):=⟨by simp,λi _ a=>acG (by grind),λi w c _ h=>by grind⟩
def Fq.app(L:List ae)(a:m<=A.length):Fq m S A (A++L):=⟨by simp,λi b _=>acK (by omega),λi o _ _ h=>bf h⟩
def Fq.pre{L:List ae}(h:Fq m S (H++L) W)(a:m<=H.length):Fq m S H W:=(Fq.app L a).trans h
theorem Fq.take{N:Nat}(h:Fq m S A B)(e:A.length=N)(d:m<=N):Fq m S A (B.take N):=⟨by rw[agw];have:=h.len;omega,λi a c=>by rw[agz (by omega)];exact h.low i a c,λi o a ho b=>by
 have:=dZ b;rw[agz (by omega)];exact h.box i o a ho b⟩
def Fq.own{cs:lA}(h:Fq m S A B)(b:p∉S)(c:A[p]?=some (.box cs tg)):B[p]?=some (.box cs tg):=h.box p _ b (λq=>by obtain⟨a,d,q⟩:=q;cases q) c
end
def gq(Q:Prop)(B:Nat)(H H':List ae)(lo ak:oN):Prop:=(ak=lo/\H'.length=H.length/\Q)\/ ∃j,j<=B/\ak=cM lo j
def akA{a b:Nat}:cM (cM lo a) b=cM lo (min a b):=by
 cases lo with
 |none=>exact ahX some (Nat.min_comm b a)
 |some c=>show some (min b (min a c))=some (min (min a b) c);grind
theorem gq.same{B:Nat}{H:List ae}(h:Q):gq Q B H H lo lo:=.inl ⟨rfl,rfl,h⟩
section
variable{m N B:Nat}{S:lN}{H L W H2:List ae}{lo mW:oN}{Q:Prop}{v:AV}
def MS(h:H.length=N)(k:B<N)(e:m<=N)(i:Fq m S (H++L) W)(f:gq Q B (H++L) W none mW)(d:v.refs<=N):
  ∃H2 a,finish N lo v ⟨W,mW⟩=(v,⟨H2,a⟩)/\Fq m S H H2/\gq Q B H H2 lo a/\ (H2=W\/ (H2=W.take N/\Q)):=by
 have b:=i.pre (by omega);rcases f with⟨rfl,l,c⟩| ⟨j,g,rfl⟩
 ·refine⟨W.take N,lo,iG (.inl rfl) d,b.take h e,.inl ⟨rfl,?_,c⟩,.inr ⟨rfl,c⟩⟩
  grind
 ·refine⟨W,cM lo j,?_,b,.inr ⟨j,g,rfl⟩,.inl rfl⟩;have:cM none j=some j:=rfl;exact vS (by omega)
def MT{o:ae}(h:H2=W\/ (H2=W.take N/\Q))(b:i<N)(a:W[i]?=some o):H2[i]?=some o:=by grind
def cW.oV{n:Nat}{ty:TypeId}{v v':AV}{a:List lA}(h:cW n W v' sz ty af)(c:H2=W\/ (H2=W.take N/\Q))(b:Q->v'=v)(e:cW n H v sz ty a)(d:H.length=N):cW n H2 v' sz ty af:=by
 rcases c with rfl| ⟨rfl,q⟩
 ·exact h
 ·have:=b q;subst this;exact h.take e d
end
structure dI(m p q:Nat)(x:Core)(qv:AV)(H:List ae):Prop where
 mp:m<=H.length
 qp:q<p
 box:H[p]?=some (.box (bQ x q qv) none)
 ib:H[q]?=some (.box (ck x.P) none)
 jb:cW (max m (p+1)) H qv 1 ot (x.Q.map fS)
section
variable{m p q:Nat}{x:Core}{qv:AV}{H:List ae}
def dI.lt(h:dI m p q x qv H):p<H.length:=dZ h.box
theorem dI.app(h:dI m p q x qv H)(L:List ae):dI m p q x qv (H++L):=⟨by have:=h.mp;grind,h.qp,bf h.box,bf h.ib,h.jb.app L⟩
theorem dI.set(h:dI m p q x qv H){cs:lA}(c:H[i]?=some (.box cs tg))(b:i≠p)(a:i≠q)(o:ae):dI m p q x qv (H.set i o):=
 ⟨by simpa using h.mp,h.qp,(acG b).trans h.box,(acG a).trans h.ib,h.jb.set c o⟩
theorem dI.oV{W H2:List ae}{N:Nat}{d:Core}(h:dI m p q x qv W)(b:H2=W\/ (H2=W.take N/\Q))(e:Q->qv=a)(c:dI m p q d a H0)(f:H0.length=N):dI m p q x qv H2:=
 have g:=c.lt
 ⟨by
   rcases b with rfl| ⟨rfl,_⟩
   ·exact h.mp
   ·have:=h.mp;have:=c.mp;grind,h.qp,MT b (by omega) h.box,MT b (by have:=h.qp;omega) h.ib,cW.oV h.jb b e c.jb f⟩
def dI.akB(h:dI m p q x qv H)(M:Marks):dI m p q {x with M:=M} qv (H.set p (.box (bQ {x with M:=M} q qv) none)):=
 ⟨by simpa using h.mp,h.qp,cQ h.box,(acG (by have:=h.qp;omega)).trans h.ib,h.jb.set h.box _⟩
def dI.akC(h:dI m p q x qv H)(s:bF):dI m p q {x with S:=s} qv (H.set p (.box (bQ {x with S:=s} q qv) none)):=
 ⟨by simpa using h.mp,h.qp,cQ h.box,(acG (by have:=h.qp;omega)).trans h.ib,h.jb.set h.box _⟩
def dI.GL(h:dI m p q x qv H)(P:cU):dI m p q {x with P:=P} qv (H.set q (.box (ck P) none)):=
 ⟨by simpa using h.mp,h.qp,(acG (by have:=h.qp;omega)).trans h.box,cQ h.ib,h.jb.set h.ib _⟩
def dI.fp(h:dI m p q x qv H)(o:ae):Fq m [p,q] H (H.set p o):=Fq.set (by simp) h.mp o
def dI.fq(h:dI m p q x qv H)(o:ae):Fq m [p,q] H (H.set q o):=Fq.set (by simp) h.mp o
end
def U6(m p q:Nat)(H:List ae)(lo:oN)(b:Core)(qv:AV)(r:AV)(c:aX):Prop:=
 ∃a H' ak,c= .ret r ⟨H',ak⟩/\dI m p q b a H'/\Fq m [p,q] H H'/\gq (a=qv) p H H' lo ak
def jw(x:Core)(r:aD)(k:Nat):Core:={x with Q:=x.Q++(gl r).take k}
def akD(x:Core)(r:aD):jw x r r.2=c9 x r:=by
 unfold jw c9;rw[aeE (by simp[gl])]
def akE{r:aD}(h:k<r.2): (gl r).take (k+1)=(gl r).take k++[r.1+k]:=by
 rw[agu];simp[gl,h]
def U7{H:List ae}(l:dI m p q x qv H)(r:aD)(Z:r.1<4294967296/\r.2<4294967296)(hQ:x.Q.length<17179869184)(lo:oN):
  ∃K,D XC (.fn (.func 154) [] []) [.ptr p 0,.agg (aA r)] ⟨H,lo⟩=some K/\U6 m p q H lo (c9 x r) qv (.ax []) K:=by
 refine cA Rh λN s=>?_
 have C:p<N:=by rw[<-s];exact l.lt
 have h1: (aA r)[1]?=some (.int .i64 r.2):=rfl;simp only[go_sem,simprocAttr,Rh,s];refine gE r.2 (λk e W ak=> ∃c,e 0= .ptr p 0/\e 3= .ptr N 0/\e 6= .int .i64 r.2/\e 7= .int .i64 k/\dI m p q (jw x r k) c W/\W[N]?=some (.box (aA r) none)/\Fq m [p,q] (H++[.box (aA r) none]) W/\gq (c=qv) p (H++[.box (aA r) none]) W none ak) 0 (by omega) ?_ ?_
 ·refine⟨qv,?_⟩;simp(disch:=omega) only[go_sem,simprocAttr];refine⟨?_,Fq.refl,gq.same trivial⟩;have:=l.app [.box (aA r) none];unfold jw;simpa using this
 rintro k hk e W ak ⟨c,J,e3,e6,e7,b,hw,I,g⟩ n hn;have h0: (aA r)[0]?=some (.int .i64 r.1):=rfl;simp only[bO,go_sem,simprocAttr,afE,J,e6,e7];refine⟨λR=>?_,λR=>?_⟩
 ·have E:k<r.2:=by omega
  have Y:=(nL (b.jb.rd (lo:=none)));simp(disch:=omega) only[go_sem,simprocAttr,e3,b.box,hw,↓KL];have h: (x.Q++(gl r).take k).length<=x.Q.length+r.2:=by simp[gl];omega
  have O:=b.lt;have M:=b.mp;obtain⟨v',W',g1,g2,g3,X,t,V,U,g8⟩:=cW.append (bytes:=8) (lo:=ak) (y:=[.int .i64 ((r.1:Int)+k)]) b.jb (by omega) (by omega) rfl rfl (by rw[ae3];show((x.Q++(gl r).take k).length+1)*8<=room;unfold room;omega);have z: ∀cs tg,∀a d,ae.box cs tg≠ .row a 1 ot d:=λ_ _ _ _ e=>by cases e
  have f:=t p _ (z _ _) b.box;have u:=t q _ (z _ _) b.ib;have w:=t N _ (z _ _) hw;have F: ¬v'.refs<=p+1:=by omega
  rw[g1];simp(disch:=omega) only[go_sem,simprocAttr,J,e3,e6,e7,f,KS,V,U,F];refine⟨by omega,v',?_⟩;refine⟨?_,w,?_,?_⟩
  ·refine⟨by rw[agq];omega,b.qp,by rw[awY];exact cQ f,(acG (by have:=b.qp;omega)).trans u,?_⟩;have: (jw x r (k+1)).Q.map fS=(jw x r k).Q.map fS++[[.int .i64 ((r.1:Int)+k)]]:=by
    unfold jw;rw[akE E,<-aev,agp];rfl
   rw[this];exact g2.set f _
  ·refine I.trans ⟨by simp;omega,λi G P=>?_,λi o G ho T=>?_⟩
   ·rw[acG (by rintro rfl;simp at P)];exact X i (by have:=b.mp;omega)
   ·rw[acG (by rintro rfl;simp at G)];exact t i o (λa d e=>ho ⟨a,d,e⟩) T
  ·rcases g with⟨rfl,_,_⟩| ⟨j,hj,rfl⟩
   ·exact .inr ⟨p,ae0 _,rfl⟩
   ·exact .inr ⟨min j p,by omega,akA⟩
 ·obtain rfl:k=r.2:=by omega
  have hm:=l.mp;obtain⟨H2,A,f1,f2,f3,f4⟩:=MS (lo:=lo) s C (by omega) I g (v:=.ax []) (ae4 _);rw[f1];rw[akD]at b;exact⟨c,H2,A,rfl,b.oV f4 id l s,f2,f3⟩
def bN(c:Call)(rv:AV):lA:=[.int .i64 c.aa]++(bp c.c++([.bool c.checked,rv]++(aA c.run++[.int .i64 c.fo])))
theorem awZ(c:Call)(rv:AV):bN c rv=[.int .i64 c.aa,.int .u8 c.c.op,.int .u32 c.c.r,.int .u32 c.c.s,.int .u32 c.c.a,.int .u32 c.c.b,.int .u64 c.c.v,.bool c.checked,rv,.int .i64 c.run.1,.int .i64 c.run.2,.int .i64 c.fo]:=rfl
structure fY(c:Call):Prop where
 aa:c.aa<4294967296
 jc:j8 c.c
 aY: ∀h∈c.aY,h<4294967296
 run:c.run.1<65536/\c.run.2<65536
 fo:c.fo<65536
structure ka(x:Core):Prop where
 S:br x.S
 P:gb x.P
 M: ∀i,iH (x.M i)
 Q: ∀k∈x.Q,k<2147483648
 Ql:x.Q.length<8589934592
def akF{H:List ae}(b:dI m p q x qv H)(l:ka x)(c:Call)(n:fY c)(rv:AV)(r:rv.refs=0)(lo:oN):
  ∃k,D XC (.fn (.func 103) [] []) [.ptr p 0,.agg (bN c rv)] ⟨H,lo⟩=some k/\U6 m p q H lo (xl x c) qv (.ax []) k:=by
 refine cA QZ λN d=>?_
 have f:p<N:=by rw[<-d];exact b.lt
 have z:=n.run;obtain⟨k,g1,a,W,ak,rfl,g2,o,y⟩:=U7 (b.app [.box (bN c rv) none]) c.run ⟨by omega,by omega⟩ (by have:=l.Ql;omega) none;have h:Den.part true 2 (bN c rv) 9=some (.agg (aA c.run)):=rfl;have i: (bN c rv)[0]?=some (.int .i64 c.aa):=rfl;have j:N∉[p,q]:=by have:=b.qp;grind
 have wn:W[N]?=some (.box (bN c rv) none):=o.own j (by rw[dq d];rfl);have t:=λH lo=>c0 (aws x.M l.M c.aa n.aa H lo)
 have w: (c9 x c.run).M=x.M:=rfl;have g:=λm=>eC m
 simp only[go_sem,simprocAttr,QZ,d,↓h,g1,g2.box,wn,i,↓KL,KS,w,t,g,j9];have u:=o.trans (g2.fp (.box (bQ {c9 x c.run with M:=rq x.M c.aa} q a) none));have s:gq (a=qv) p (H++[.box (bN c rv) none]) (W.set p (.box (bQ {c9 x c.run with M:=rq x.M c.aa} q a) none)) none ak:=y.elim (λq=>.inl ⟨q.1,by rw[agq];exact q.2.1,q.2.2⟩) .inr;obtain⟨H2,e,f1,f2,f3,f4⟩:=MS (lo:=lo) d f (by have:=b.mp;omega) u s (v:=.ax []) (ae4 _);rw[f1];exact⟨a,H2,e,rfl,(g2.akB _).oV f4 id b d,f2,f3⟩
def aw0{H:List ae}(c:dI m p q x qv H)(t:ka x)(lo:oN):
  ∃y,D XC (.fn (.func 65) [] []) [.ptr p 0] ⟨H,lo⟩=some y/\U6 m p q H lo (jo x).1 qv (.bool (jo x).2) y:=by
 have ho:Old p H (.box (bQ x q qv) none):=⟨c.box⟩;refine cA Ky λN r=>?_
 have h:p<N:=by rw[<-r];exact c.lt
 have b:=(c.jb.rd (lo:=none)).bJ;unfold jo;have E:Fq m [p,q] (H++[]) H:=by rw[agB];exact Fq.refl
 cases n:x.Q with
 |nil=>
  rw[n]at b;simp(disch:=omega) only[F1,go_sem,simprocAttr,Ky,c.box,↓KL,b];exact⟨qv,H,lo,rfl,c,Fq.refl,gq.same rfl⟩
 |cons a l=>
  have d:=c.jb;rw[n]at b d;rw[amF]at d;have G: ¬((l.length:Nat):Int)+1=0:=by omega
  have k:kg 1 qv (.int .i64 0)=some (ef qv 0 0):=by
   rw[(d.rd (lo:=none)).addr,aez ⟨by omega,by simp⟩];rfl
  have i:cm XC ⟨H,none⟩ false 1 (ef qv 0 0)=some (.int .i64 a):=(d.rd (lo:=none)).load (by simp);obtain⟨w,s1,s2,B,A,z⟩:=cW.tail (bytes:=8) d;have F:=λlo=>c0 (awL t.P c.ib lo (t.Q a (by rw[n];simp)))
  have j: (FP.rd p 952 1).ok (mD 1 (ef qv 0 0))=true:=by
   rcases d.2 with⟨_,e⟩| ⟨_,_,_,_,_,rfl,_⟩
   ·cases e
   ·rfl
  have s: ∀o,(H.set q o)[p]?=some (.box (bQ x q qv) none):=λo=>(acG (by have:=c.qp;omega)).trans c.box
  have C:p+1<w.refs:=by
   rw[z];rcases d.2 with⟨_,e⟩| ⟨id,_,_,_,J,rfl,_⟩
   ·cases e
   ·simp only[AV.refs];omega
  have f: ¬w.refs<=p+1:=by omega
  simp only[go_sem,simprocAttr,Ky,r,c.box,↓KL,b,G,k,i,F,j,s,s1,B,A,KS,f];have u:=(c.fq (.box (ck (rA x.P a)) none)).trans ((c.GL (rA x.P a)).fp (.box (bQ x q w) none));have hm:=c.mp;obtain⟨I,g,f1,f2,f3,f4⟩:=MS (m:=m) (N:=N) (lo:=lo) (Q:=False) (L:=[]) r h (by omega) (by rw[agB];exact u) (.inr ⟨p,ae0 _,rfl⟩) (v:=.bool true) (ae4 _);rw[f1];have f5:I=(H.set q (.box (ck (rA x.P a)) none)).set p (.box (bQ x q w) none):=f4.elim id λe=>e.2.elim
  rw[f5];refine⟨w,_,g,rfl,⟨by simpa using c.mp,c.qp,cQ (s _),(acG (by have:=c.qp;omega)).trans (cQ c.ib),?_⟩,u,?_⟩
  ·exact(s2.set c.ib _).set (s _) _
  ·rw[f5]at f3;exact f3.elim (λe=>e.2.2.elim) .inr
def dS(st:bR)(p:Nat)(rv:AV):lA:=[.ptr p 0]++(bN st.c rv++(bH st.r++[.bool st.ended]))
section
variable{st:bR}{p:Nat}{rv:AV}
theorem U8: (dS st p rv).length=17:=rfl
theorem akG: (dS st p rv)[0]?=some (.ptr p 0):=rfl
theorem akH: (dS st p rv)[1]?=some (.int .i64 st.c.aa):=rfl
theorem akI: (dS st p rv)[8]?=some (.bool st.c.checked):=rfl
theorem akJ: (dS st p rv)[9]?=some rv:=rfl
theorem akK: (dS st p rv)[10]?=some (.int .i64 st.c.run.1):=rfl
theorem akL: (dS st p rv)[11]?=some (.int .i64 st.c.run.2):=rfl
theorem akM: (dS st p rv)[12]?=some (.int .i64 st.c.fo):=rfl
theorem akN: (dS st p rv)[16]?=some (.bool st.ended):=rfl
theorem U9:Den.part true 12 (dS st p rv) 1=some (.agg (bN st.c rv)):=rfl
theorem akO:Den.part true 6 (dS st p rv) 2=some (.agg (bp st.c.c)):=rfl
theorem akP:Den.part true 2 (dS st p rv) 10=some (.agg (aA st.c.run)):=rfl
theorem akQ:Den.part true 3 (dS st p rv) 13=some (.agg (bH st.r)):=rfl
theorem akR{b:Bool}:aJ (dS st p rv) 8 [.bool b]=dS {st with c:={st.c with checked:=b}} p rv:=rfl
theorem akS:aJ (dS st p rv) 9 [v]=dS st p v:=rfl
theorem akT{r:aD}:aJ (dS st p rv) 10 (aA r)=dS {st with c:={st.c with run:=r}} p rv:=rfl
theorem akU{n:Nat}:aJ (dS st p rv) 12 [.int .i64 n]=dS {st with c:={st.c with fo:=n}} p rv:=rfl
theorem akV:aJ (dS st p rv) 13 (bH r)=dS {st with r:=r} p rv:=rfl
theorem akW{b:Bool}:aJ (dS st p rv) 16 [.bool b]=dS {st with ended:=b} p rv:=rfl
def Va(c:Call)(h:rv.refs=0):aI (bN c rv)=0:=by rw[awZ];simp[aI,AV.refs,h]
def PL:=gG @akG<|gG @akH<|gG @akI<|gG @akJ<|gG @akK<|gG @akL<|gG @akM<|gG @akN<|gG @U9<|gG @akO<|gG @akP @akQ
def PS:=gG @akR<|gG @akS<|gG @akT<|gG @akU<|gG @akV<|gG @akW @U8
end
structure df(m p q s:Nat)(st:bR)(qv rv:AV)(H:List ae):Prop where
 co:dI m p q st.x qv H
 ps:p<s
 box:H[s]?=some (.box (dS st p rv) none)
 aY:Rv rv 1 (st.c.aY.map hC)
section
variable{m p q s:Nat}{st:bR}{qv rv:AV}{H:List ae}
def df.lt(h:df m p q s st qv rv H):s<H.length:=dZ h.box
theorem df.rz(h:df m p q s st qv rv H):rv.refs=0:=cL h.aY (bB (λ_=>rfl) _)
theorem df.app(h:df m p q s st qv rv H)(L:List ae):df m p q s st qv rv (H++L):=⟨h.co.app L,h.ps,bf h.box,h.aY⟩
theorem df.set(h:df m p q s st qv rv H){qt:bR}{rO:AV}(a:qt.x=st.x)(b:Rv rO 1 (qt.c.aY.map hC)):df m p q s qt qv rO (H.set s (.box (dS qt p rO) none)):=
 ⟨a ▸ h.co.set h.box (by have:=h.ps;omega) (by have:=h.ps;have:=h.co.qp;omega) _,h.ps,cQ h.box,b⟩
def df.fs(h:df m p q s st qv rv H)(o:ae):Fq m [p,q,s] H (H.set s o):=Fq.set (by simp) h.co.mp o
def df.sn(h:df m p q s st qv rv H):s∉[p,q]:=by have:=h.ps;have:=h.co.qp;grind
def df.ai{W:List ae}{b:Core}(h:df m p q s st qv rv H)(d:dI m p q b a W)(c:Fq m [p,q] H W):df m p q s {st with x:=b} a rv W:=
 ⟨d,h.ps,c.own h.sn h.box,h.aY⟩
def Fq.m3{H W:List ae}(h:Fq m [p,q] H W):Fq m [p,q,s] H W:=h.mono (by simp)
theorem df.oV{W d:List ae}{N:Nat}{c:AV}{b:bR}(h:df m p q s st qv rv W)(e:d=W\/ (d=W.take N/\Q))(i:Q->qv=a)(g:df m p q s b a c H0)(f:H0.length=N):df m p q s st qv rv d:=
 ⟨h.co.oV e i g.co f,h.ps,MT e (by rw[<-f];exact g.lt) h.box,h.aY⟩
end
def eD(m p q s:Nat)(H:List ae)(lo:oN)(qt:bR)(qv:AV)(r:AV)(b:aX):Prop:=
 ∃a rO H' ak,b= .ret r ⟨H',ak⟩/\df m p q s qt a rO H'/\Fq m [p,q,s] H H'/\gq (a=qv) p H H' lo ak
structure qu(st:bR):Prop where
 x:ka st.x
 c:fY st.c
def eD.fin{s N:Nat}{d st:bR}{e:AV}{H L W:List ae}(c:df m p q s d a e H)(g:H.length=N)(h:df m p q s st qv rv W)(k:Fq m [p,q,s] (H++L) W)(j:gq (qv=a) p (H++L) W none b)(i:v.refs<=N):
  eD m p q s H lo st a v (.ret (finish N lo v ⟨W,b⟩).1 (finish N lo v ⟨W,b⟩).2):=by
 have r:=c.lt;have o:=c.ps;have n:=c.co.mp;obtain⟨l,f,f1,f2,f3,f4⟩:=MS (m:=m) (N:=N) (lo:=lo) g (by omega) (by omega) k j i;rw[f1];exact⟨qv,rv,l,f,rfl,h.oV f4 id c g,f2,f3⟩
def Vb{s:Nat}{st:bR}{H:List ae}(a:df m p q s st qv rv H)(e:qu st)(r:bG)(lo:oN):
  ∃d,D XC (.fn (.func 188) [] []) [.ptr s 0,.agg (bH r)] ⟨H,lo⟩=some d/\eD m p q s H lo (rB st r) qv (.ax []) d:=by
 refine cA Rz λN g=>?_
 have h:=(a.app [.box (bH r) none]).set (qt:={st with r:=r,ended:=true}) (rO:=rv) rfl a.aY;have k:=(a.app [.box (bH r) none]).fs (.box (dS {st with r:=r,ended:=true} p rv) none);obtain⟨d,g1,b,W,ak,rfl,g2,i,l⟩:=akF h.co e.x st.c e.c rv a.rz none;have f:=λL=>bf (L:=L) a.box
 have c:=λL o=>cQ (o:=o) (f L)
 simp only[go_sem,simprocAttr,Rz,g,f,PL,PS,xE,uo,rN,c,alY,↓U9,g1];have j:gq (b=qv) p (H++[.box (bH r) none]) W none ak:=l.elim (λq=>.inl ⟨q.1,by grind,q.2.2⟩) .inr;exact eD.fin a g (h.ai g2 i) (k.trans i.m3) j (ae4 _)
def gb.akX{p:cU}(h:gb p)(n:Nat):gb (jJ p n).1:=by
 unfold jJ;split
 ·exact h
 split
 ·exact h
 ·rename_i x b;cases a:ru p.free (x.1,n)with
  |none=>exact h
  |some l=>exact⟨h.n,h.free.take a,h.bytes⟩
def gb.clear{p:cU}(h:gb p)(i:Nat):gb (ry p i):=by
 unfold ry;split
 ·refine⟨h.n,h.free,λa b=>?_⟩;show au p.bytes i (λ_=>0) a b<256;unfold au;split
  ·simp
  ·exact h.bytes a b
 omega
def gb.back{p:cU}(h:gb p)(i:Nat):gb (rA p i):=by
 unfold rA;split
 ·unfold LQ;cases a:iW p.free (i,1)with
  |none=>exact h
  |some l=>exact⟨h.n,h.free.iW a,h.bytes⟩
 omega
def gb.write{p:cU}(h:gb p)(i b:Nat)(d:b<256):gb (vC p i b):=by
 unfold vC;split
 ·refine⟨h.n,h.free,λa c=>?_⟩;show au p.bytes (i/32) (au (p.bytes (i/32)) (i % 32) b) a c<256;unfold au;split
  ·show(if c=i % 32 then b else p.bytes (i/32) c)<256;split
   ·omega
   ·exact h.bytes _ _
  ·exact h.bytes a c
 omega
def aw1{p:cU}(h:gb p)(n:Nat)(c:n<=64)(b: (jJ p n).2.2=0): (jJ p n).2.1+n<=64:=by
 unfold jJ at b⊢;split
 ·grind
 ·rename_i e;split
  ·grind
  ·rename_i x a;have d:=h.free.bd x (are a)
   grind
def akY{x y:aC}{h:Nat}{r:ds}(e:oK x h r= .ok y):y.mR=x.mR:=by
 unfold oK at e;cases a:cD (fP x.s.T h r).2 with
 |error _=>rw[a]at e;cases e
 |ok _=>rw[a]at e;cases e;rfl
def bu{α β:Type}{m:R α}{f:α->R β}{b:β}(h: (m>>=f)= .ok b): ∃a,m= .ok a/\f a= .ok b:=by
 cases m with
 |error e=>cases h
 |ok a=>exact⟨a,rfl,h⟩
def aw2{x y:aC}(e:x.mR=0)(h:mT x= .ok (y,r)):y.mR<=4:=by
 unfold mT at h;dsimp only at h;cases b:qg (min x.c.a 129) (min x.c.b 9)with
 |none=>rw[b]at h;cases h
 |some n=>
  have c:n<=4:=by
   unfold qg at b;split at b
   ·rename_i ho;have:min x.c.a 129<=128:=by unfold isObj at ho;simp at ho;omega
    cases b;omega
   ·cases b
  rw[b]at h;obtain⟨a,e1,h⟩:=bu h;cases e1;obtain⟨_,_,h⟩:=bu h;obtain⟨_,_,h⟩:=bu h;split at h
  ·obtain⟨z,d,h⟩:=bu h;cases h;rw[akY d,e];omega
  ·obtain⟨_,_,h⟩:=bu h;split at h
   ·cases h;exact c
   ·obtain⟨_,_,h⟩:=bu h;obtain⟨z,d,h⟩:=bu h;cases h;rw[akY d];exact c
def akZ(s:bF)(aa:Nat)(c:cy):fk s aa c<=4:=by
 unfold fk;split
 ·omega
 ·split
  ·rename_i y r e;obtain⟨_,_,e⟩:=bu (show(ask _ _>>=λ_=>mg _)=_ from e);unfold mg at e;have:c.op=2:=by omega
   simp only[this]at e;exact aw2 rfl e
  ·omega
theorem eD.same{s:Nat}{st:bR}{H:List ae}{r:AV}(h:df m p q s st qv rv H):eD m p q s H lo st qv r (.ret r ⟨H,lo⟩):=⟨qv,rv,H,lo,rfl,h,Fq.refl,gq.same rfl⟩
def eD.GM{s N:Nat}{c st:bR}{d:AV}{H W:List ae}(g:df m p q s c a d H)(f:H.length=N)(h:df m p q s st qv rv W)(j:Fq m [p,q,s] H W)(i:gq (qv=a) p H W none b)(e:v.refs<=N):
 eD m p q s H lo st a v (.ret (finish N lo v ⟨W,b⟩).1 (finish N lo v ⟨W,b⟩).2):=eD.fin (L:=[]) g f h (by grind) (by grind) e
def ak0{s:Nat}{st:bR}{H:List ae}(ha:df m p q s st qv rv H)(hx:qu st)(e:Nat)(lo:oN):
 ∃a,D XC (.fn (.func 188) [] []) [.ptr s 0,.agg [.int .i64 e,.int .u64 0,.int .u32 0]] ⟨H,lo⟩=some a/\eD m p q s H lo (rB st {bX with e:=e}) qv (.ax []) a:=Vb ha hx {bX with e:=e} lo
section
variable(hD: ∀op,kO op){m p q s:Nat}{st:bR}{qv rv:AV}{H:List ae}(ha:df m p q s st qv rv H)(hx:qu st)(lo:oN)
include hD ha hx
theorem aw3: ∃f,D XC (.fn (.func 170) [] []) [.ptr s 0] ⟨H,lo⟩=some f/\eD m p q s H lo (lE st).1 qv (.bool (lE st).2) f:=by
 refine cA BY λN b=>?_
 have k:s<N:=by rw[<-b];exact ha.lt
 have hw:=akt st.x.S hx.x.S st.c.aa hx.c.aa st.c.c hx.c.jc (hD _);have g:=aks st.x.S hx.x.S st.c.aa hx.c.aa st.c.c hx.c.jc (hD _);unfold lE;cases d:st.c.checked with
 |true=>
  simp(disch:=omega) only[F1,go_sem,simprocAttr,BY,ha.box,PL,d];exact eD.same ha
 |false=>
  cases i:Co st.x.S st.c.aa st.c.c with
  |true=>
   rw[i]at hw;simp only[F1,go_sem,simprocAttr,BY,b,ha.box,ha.co.box,PL,↓PL,KL,↓KL,d,hw];exact eD.same ha
  |false=>
   rw[i]at hw;by_cases h:oL st.x.S st.c.aa st.c.c=0
   ·have a: ((oL st.x.S st.c.aa st.c.c:Nat):Int)=0:=by omega
    obtain⟨v,d1,d2⟩:=awX hx.x.S hx.c.jc H none;obtain⟨t1,t2⟩:=nL (d2 ⟨[],none⟩);have t3:=cL d2 (bB (λ_=>rfl) _);have e:=λo=>cQ (o:=o) ha.box
    simp only[go_sem,simprocAttr,BY,b,ha.box,ha.co.box,PL,↓PL,KL,↓KL,PS,d,hw,g,a,d1,t1,t2,t3,e,alY];rw[aeu (λq=>q h)];exact eD.GM (v:=.bool true) ha b (ha.set (qt:={st with c:={st.c with checked:=true,aY:=s8 st.x.S st.c.c}}) rfl d2) (ha.fs _) (.inl ⟨rfl,by simp,rfl⟩) (ae4 _)
   ·have a: ¬((oL st.x.S st.c.aa st.c.c:Nat):Int)=0:=by omega
    obtain⟨f,g1,j,rO,W,ak,rfl,g2,n,l⟩:=ak0 ha hx (oL st.x.S st.c.aa st.c.c) none;simp only[go_sem,simprocAttr,BY,b,ha.box,ha.co.box,PL,↓PL,KL,↓KL,d,hw,g,a,g1];rw[aez h];exact eD.GM ha b g2 n l (ae4 _)
omit hD in
theorem aw4: ∃R,D XC (.fn (.func 171) [] []) [.ptr s 0] ⟨H,lo⟩=some R/\eD m p q s H lo (lF st).1 qv (.bool (lF st).2) R:=by
 have ho:Old s H (.box (dS st p rv) none):=⟨ha.box⟩;refine cA FD λN n=>?_
 have T:s<N:=by rw[<-n];exact ha.lt
 have U:p<N:=by have:=ha.ps;omega
 have a:=ha.aY.bJ (E:=⟨H,none⟩);unfold lF;cases G:st.c.aY with
 |nil=>
  rw[G]at a;simp(disch:=omega) only[F1,go_sem,simprocAttr,FD,n,ha.box,PL,a];exact eD.same ha
 |cons h t=>
  have f:=ha.aY;rw[G]at a f;have Q: ¬((t.length:Nat):Int)+1=0:=by omega
  have A:kg 1 rv (.int .i64 0)=some (ef rv 0 0):=by
   rw[f.bW,aez ⟨by omega,by simp⟩];rfl
  have y: ∀E,cm XC E false 1 (ef rv 0 0)=some (.int .u32 h):=λE=>f.cp (by simp)
  have e:=λH lo=>c0 (j4 h (hx.c.aY h (by rw[G];simp)) H lo)
  have F: ((eY h).getD 0)=aR h:=rfl;unfold iX at e;rw[F]at e;have d:=λH lo=>c0 (awk st.x.M hx.x.M (aR h) st.c.aa hx.c.aa H lo)
  have B:pK.length=320:=by decide
  have r:List.drop 320 pK=[]:=ah2 (by rw[B];omega);have u: ∀m:Marks,List.take 320 (cS m)=cS m:=λm=>aeE (by rw[eC];omega)
  have K:=λL=>bf (L:=L) ha.box
  have z:=λL=>bf (L:=L) ha.co.box
  have v:=λm=>eC m
  obtain⟨c,C⟩: ∃c,rv= .sl ((h::t).map hC) c:=by
   obtain⟨S,l,V⟩:=f ⟨[],none⟩;cases rv<;>simp only[]at S
   ·simp[Den.elems]at l
   ·rename_i af c;simp only[Den.elems]at l;split at l
    ·cases l;exact⟨c,rfl⟩
    ·cases l
   ·simp[Den.elems]at l
  obtain⟨w,s1,s2⟩:=akj (sz:=1) (af:=(h::t).map hC) (c:=c) (i:=1) (by intro el J;obtain⟨x,_,rfl⟩:=ago.1 J;rfl) (by simp);rw[<-C]at s1;have s1:gw 1 rv (some (.int .i64 1)) none none=some w:=s1;obtain⟨t1,t2⟩:=nL (s2 ⟨[],none⟩);have t3:=cL s2 (bB (g:=hC) (λ_=>rfl) t);have I: ∀L o,((H++L).set p o)[s]?=some (.box (dS st p rv) none):=λL o=>(acG (by have:=ha.ps;omega)).trans (K L)
  obtain⟨j,k⟩: ∃j,j=(jn st.x.M (aR h) st.c.aa).1:=⟨_,rfl⟩;have O:=(ha.app [.box (cS j) none]).ai ((ha.app [.box (cS j) none]).co.akB j) ((ha.app [.box (cS j) none]).co.fp _);have P:=(ha.app [.box (cS j) none]).co.fp (.box (bQ {st.x with M:=j} q qv) none);rw[<-k]at d;cases b: (jn st.x.M (aR h) st.c.aa).2 with
  |true=>
   rw[b]at d;simp(disch:=omega) only[go_sem,simprocAttr,FD,n,ha.box,K,z,I,PL,↓PL,PS,KL,↓KL,KS,a,Q,A,y,e,d,B,r,u,v,j9,s1,t1,t2,t3];rw[aez b,<-k];exact eD.fin ha n (O.set (qt:={st with x:={st.x with M:=j},c:={st.c with aY:=t}}) rfl s2) (P.m3.trans (O.fs _)) (.inl ⟨rfl,by simp,rfl⟩) (ae4 _)
  |false=>
   rw[b]at d;simp(disch:=omega) only[go_sem,simprocAttr,FD,n,ha.box,K,z,PL,↓PL,KL,↓KL,KS,a,Q,A,y,e,d,B,r,u,v,j9];rw[aeu (by rw[b];simp),<-k];exact eD.fin ha n O P.m3 (.inl ⟨rfl,by simp,rfl⟩) (ae4 _)
theorem aw5: ∃k,D XC (.fn (.func 172) [] []) [.ptr s 0] ⟨H,lo⟩=some k/\eD m p q s H lo (lG st).1 qv (.bool (lG st).2) k:=by
 have ho:Old s H (.box (dS st p rv) none):=⟨ha.box⟩;refine cA BZ λN e=>?_
 have h:=λH lo=>cB (UR st.x.S hx.x.S st.c.aa hx.c.aa st.c.c hx.c.jc (hD _) H lo)
 have u:=akZ st.x.S st.c.aa st.c.c;unfold lG;dsimp only;by_cases w:fk st.x.S st.c.aa st.c.c=0
 ·have a:decide (((fk st.x.S st.c.aa st.c.c:Nat):Int)=0)=true:=aeD (by omega);rw[aez (.inl w)];simp only[F1,go_sem,simprocAttr,BZ,e,ha.box,ha.co.box,PL,↓PL,KL,↓KL,h,a];exact eD.same ha
 ·have a:decide (((fk st.x.S st.c.aa st.c.c:Nat):Int)=0)=false:=aeC (by omega);by_cases v:0<st.c.run.2
  ·have b: ((st.c.run.2:Nat):Int)>0:=by omega
   rw[aez (.inr v)];simp only[F1,go_sem,simprocAttr,BZ,e,ha.box,ha.co.box,PL,↓PL,KL,↓KL,h,a,b];exact eD.same ha
  ·have b: ¬((st.c.run.2:Nat):Int)>0:=by omega
   rw[aeu (by omega)];have g:=λlo=>awO hx.x.P ha.co.ib lo (n:=fk st.x.S st.c.aa st.c.c) (by omega)
   have i:=ha.ai (ha.co.GL (jJ st.x.P (fk st.x.S st.c.aa st.c.c)).1) (ha.co.fq _);have l:=ha.co.fq (.box (ck (jJ st.x.P (fk st.x.S st.c.aa st.c.c)).1) none);have j:qu {st with x:={st.x with P:=(jJ st.x.P (fk st.x.S st.c.aa st.c.c)).1}}:=⟨⟨hx.x.S,hx.x.P.akX _,hx.x.M,hx.x.Q,hx.x.Ql⟩,hx.c⟩;generalize t:jJ st.x.P (fk st.x.S st.c.aa st.c.c)=pc at*;by_cases o:pc.2.2=0
   ·have d:decide (((pc.2.2:Nat):Int)=0)=true:=aeD (by omega);rw[aeu (λq=>q o)];have f: [AV.int .i64 (pc.2.1:Nat),.int .i64 ((fk st.x.S st.c.aa st.c.c:Nat))]=aA (pc.2.1,fk st.x.S st.c.aa st.c.c):=rfl;simp only[go_sem,simprocAttr,BZ,e,ha.box,ha.co.box,PL,↓PL,KL,↓KL,h,a,b,g,d,i.box,f,PS];exact eD.GM ha e (i.set (qt:={st with x:={st.x with P:=pc.1},c:={st.c with run:=(pc.2.1,fk st.x.S st.c.aa st.c.c)}}) rfl ha.aY) (l.m3.trans (i.fs _)) (.inl ⟨rfl,by simp,rfl⟩) (ae4 _)
   ·have d:decide (((pc.2.2:Nat):Int)=0)=false:=aeC (by omega);rw[aez o];obtain⟨k,g1,r,rO,W,ak,rfl,g2,z,y⟩:=ak0 i j pc.2.2 none;simp only[go_sem,simprocAttr,BZ,e,ha.box,ha.co.box,PL,↓PL,KL,↓KL,h,a,b,g,d,g1];exact eD.GM ha e g2 (l.m3.trans z) (y.elim (λq=>.inl ⟨q.1,by rw[q.2.1,agq],q.2.2⟩) .inr) (ae4 _)
omit hD in
theorem aw6: ∃h,D XC (.fn (.func 173) [] []) [.ptr s 0] ⟨H,lo⟩=some h/\eD m p q s H lo (mh st).1 qv (.bool (mh st).2) h:=by
 have ho:Old s H (.box (dS st p rv) none):=⟨ha.box⟩;refine cA KW λN e=>?_
 have j:=hx.c.run;have k:=hx.c.fo;unfold mh;by_cases g:st.c.run.2<=st.c.fo
 ·have a: ((st.c.fo:Nat):Int)>=st.c.run.2:=by omega
  rw[aez g];simp(disch:=omega) only[F1,go_sem,simprocAttr,KW,e,ha.box,PL,a];exact eD.same ha
 ·have a: ¬((st.c.fo:Nat):Int)>=st.c.run.2:=by omega
  rw[aeu g];have d: ∀lo,D XC (.fn (.func 192) [] []) [.ptr q 0,.int .i64 ((st.c.run.1:Int)+st.c.fo)] ⟨H,lo⟩=_:=λlo=>c0 (awJ hx.x.P ha.co.ib lo (i:=st.c.run.1+st.c.fo) (by omega))
  have f:=ha.ai (ha.co.GL (ry st.x.P (st.c.run.1+st.c.fo))) (ha.co.fq _);have l:=ha.co.fq (.box (ck (ry st.x.P (st.c.run.1+st.c.fo))) none);have b: ∀x,aJ (dS {st with x:=x} p rv) 12 [.int .i64 ((st.c.fo:Int)+1)]=dS {st with x:=x,c:={st.c with fo:=st.c.fo+1}} p rv:=λ_=>rfl
  simp(disch:=omega) only[go_sem,simprocAttr,KW,e,ha.box,ha.co.box,PL,KL,a,d,f.box,b,U8];exact eD.GM ha e (f.set (qt:={st with x:={st.x with P:=ry st.x.P (st.c.run.1+st.c.fo)},c:={st.c with fo:=st.c.fo+1}}) rfl ha.aY) (l.m3.trans (f.fs _)) (.inl ⟨rfl,by simp,rfl⟩) (ae4 _)
end
theorem ak1: ∀ (l:List aD) (b x k:Nat),(∀r∈l,r.1+r.2<=64)->kK l b x=some k->k<=2048+x
 | [],_,_,_,_,h=>by cases h
 |r::rs,b,x,k,a,h=>by
  rw[aic]at h;split at h
  ·grind
  ·exact ak1 rs _ x k (λz c=>a z (by grind)) h
def ak2{s:bF}(d:br s)(c:cy): (jl s c).1.length<=8/\ ∀k∈(jl s c).1,k<65536:=by
 unfold jl;split
 ·simp
 split
 ·simp
 split
 ·simp
 ·rename_i m l j;refine⟨by simp;omega,λk f=>?_⟩;obtain⟨i,h,rfl⟩:=ago.1 f;have g:=al1.1 h;have b:=d.T.get c.r;have a:=b.len;cases he:kK (aM s.T c.r).1.runs 0 (c.a+i)with
  |none=>simp
  |some v=>
   have:=ak1 _ _ _ _ (λr e=>(b.runs r e).2) he;simp;omega
def aw7(v i:Nat)(a:i<8):k0 .shr (.int .u64 v) (.int .i64 (8*(i:Int)))=some (.int .u64 ((v/2^(8*i):Nat))):=by
 rw[D1,aez (by omega)];have b:min (8*(i:Int)).toNat IntKind.u64.bits=8*i:=by
  have:IntKind.u64.bits=64:=rfl;omega
 grind
def ak3(b i:Nat)(f:b<256)(e:i<8):k0 .shl (.int .u64 b) (.int .i64 (8*(i:Int)))=some (.int .u64 ((b*2^(8*i):Nat)))/\b*2^(8*i)<18446744073709551616:=by
 have a:b*2^(8*i)<18446744073709551616:=by
  rcases(show i=0\/i=1\/i=2\/i=3\/i=4\/i=5\/i=6\/i=7 by omega)with q|q|q|q|q|q|q|q<;>subst q<;>simp<;>omega
 refine⟨?_,a⟩;rw[A4,aez (by omega)];have d:min (8*(i:Int)).toNat IntKind.u64.bits=8*i:=by
  have:IntKind.u64.bits=64:=rfl;omega
 rw[d];have c: ((2:Int)^(8*i))=((2^(8*i):Nat):Int):=by rfl
 rw[c,<-Int.natCast_mul,wrap_u64 (by omega) (by omega)]
def ak4(a b:Nat)(d:a<18446744073709551616)(c:b<18446744073709551616):dp .or (.int .u64 a) (.int .u64 b)=some (.int .u64 ((a|||b:Nat)))/\a|||b<18446744073709551616:=by
 have f:a|||b<2^64:=Nat.or_lt_two_pow d c;refine⟨?_,f⟩;rw[Il];have e: ∀n:Nat,n<18446744073709551616->(BitVec.ofInt IntKind.u64.bits (n:Int)).toNat=n:=by
  have:IntKind.u64.bits=64:=rfl
  grind
 rw[BitVec.toNat_or,e a d,e b c,wrap_u64 (by omega) (by omega)]
def aw8(v i:Nat):IntKind.wrap .u8 ((v/2^(8*i):Nat):Int)=(byteOf v i:Nat):=akc _
def ur(P:cU)(pl:lN)(v k:Nat):cU:=(List.range k).foldl (λP i=>vC P (pl.getD i 0) (byteOf v i)) P
def ak5(P:cU)(pl:lN)(v k:Nat):ur P pl v (k+1)=vC (ur P pl v k) (pl.getD k 0) (byteOf v k):=by
 unfold ur;rw[aqD,amG];rfl
def qw(P:cU)(pl:lN)(v k:Nat):Nat:=(List.range k).foldl (λv i=>v|||s9 P (pl.getD i 0)*2^(8*i)) v
def ak6(P:cU)(pl:lN)(v k:Nat):qw P pl v (k+1)=qw P pl v k|||s9 P (pl.getD k 0)*2^(8*k):=by
 unfold qw;rw[aqD,amG];rfl
theorem Vc{P:cU}(h:gb P)(pl:lN)(v:Nat): ∀k,gb (ur P pl v k)
 |0=>h
 |k+1=>by rw[ak5];exact(Vc h pl v k).write _ _ (aoo _ (by omega))
def ak7{P:cU}(h:gb P)(i:Nat):s9 P i<256:=by
 unfold s9;split
 ·exact h.bytes _ _
 ·omega
theorem Vd{P:cU}(h:gb P)(pl:lN)(v:Nat)(a:v<18446744073709551616): ∀k,k<=8->qw P pl v k<18446744073709551616
 |0,_=>a
 |k+1,b=>by
  rw[ak6];exact(ak4 _ _ (Vd h pl v a k (by omega)) (ak3 _ _ (ak7 h _) (by omega)).2).2
def ak8{pv:AV}{pl:lN}(d:Rv pv 1 (pl.map fS))(v:pl.length<=8){f:Fn}{cs:lA}(m:AV)(F:Nat->List ae)(t: ∀k,(F k).length=(F 0).length)
  (p: ∀k,k<pl.length->D XC (.fn f [] cs) [.int .i64 (pl.getD k 0:Nat),.int .i64 k] ⟨F k,none⟩=some (.ret (.ax []) ⟨F (k+1),none⟩)) (lo:oN):
  D XC (.fn (.func 194) [] []) [m,pv,.fn f [] cs] ⟨F 0,lo⟩=some (.ret (.ax []) ⟨F pl.length,lo⟩):=by
 refine aH RC λN r=>?_
 simp only[go_sem,simprocAttr,RC,d.bJ];refine dQ pl.length (λk e H'=>H'=F k/\e 2= .fn f [] cs/\e 8=pv/\e 9= .int .i64 pl.length/\e 10= .int .i64 k) 0 (by omega) ?_ ?_
 ·simp only[go_sem,simprocAttr]
 rintro k w e H' ⟨rfl,s,l,j,b⟩ n u;simp only[bO,F1,go_sem,simprocAttr,afO,l,j,b];refine⟨λo=>?_,λo=>?_⟩
 ·have a:k<pl.length:=by omega
  have i: ∀y,(fS y)[0]?=some (.int .i64 y):=λ_=>rfl
  have g:pl.getD k default=pl.getD k 0:=rfl;have h:=p k a;simp(disch:=omega) only[go_sem,simprocAttr,s,l,j,b,d.bW,d.cp,i,g,h];exact⟨by omega,a⟩
 ·obtain rfl:k=pl.length:=by omega
  have q: (F pl.length).length=N:=by rw[t,r]
  have c: (F pl.length).take N=F pl.length:=aeE (by omega);simp only[go_sem,simprocAttr,c]
def aw9{s:Nat}{st:bR}{W:List ae}(f:df m p q s st qv rv W)(k:gb st.x.P){n g:Nat}(t:W[n]?=some (.box [.ptr s 0] none))(r:W[g]?=some (.box (bp c) none))(at' i:Nat)(j:at'<65536)(h:i<8)(lo:oN):
  D XC (.fn (.func 195) [] [.ptr n 0,.ptr g 0]) [.int .i64 at',.int .i64 i] ⟨W,lo⟩=some (.ret (.ax []) ⟨W.set q (.box (ck (vC st.x.P at' (byteOf c.v i))) none),lo⟩):=by
 refine fj RE λN l=>?_
 have hw:=λlo=>c0 (awN k f.co.ib lo (at':=at') (b:=byteOf c.v i) (by omega))
 have a: ∀o,(W.set q o).take N=W.set q o:=λo=>aeE (by grind)
 have d:=aw7 c.v i h;have e:=aw8 c.v i;simp(disch:=omega) only[F1,go_sem,simprocAttr,RE,l,t,r,f.box,f.co.box,PL,KL,gp,d,e,hw,a]
def axa{s:Nat}{st:bR}{W:List ae}(e:df m p q s st qv rv W)(f:gb st.x.P){n a:Nat}(h:r.v<18446744073709551616)(w:W[n]?=some (.box [.ptr s 0] none))(u:W[a]?=some (.box (bH r) none))(at' i:Nat)(l:at'<65536)(j:i<8)(lo:oN):
  D XC (.fn (.func 197) [] [.ptr n 0,.ptr a 0]) [.int .i64 at',.int .i64 i] ⟨W,lo⟩=some (.ret (.ax []) ⟨W.set a (.box (bH {r with v:=r.v|||s9 st.x.P at'*2^(8*i)}) none),lo⟩):=by
 refine fj RF λN t=>?_
 have hw:=λlo=>c0 (awM f e.co.ib lo (at':=at') (by omega))
 have b: ∀o,(W.set a o).take N=W.set a o:=λo=>aeE (by grind)
 have k:=ak7 f at';obtain⟨s1,s2⟩:=ak3 (s9 st.x.P at') i k j;obtain⟨g,x⟩:=ak4 r.v (s9 st.x.P at'*2^(8*i)) h s2;have d: (bH r)[1]?=some (.int .u64 r.v):=rfl;have c: ∀n:Nat,aJ (bH r) 1 [.int .u64 n]=bH {r with v:=n}:=λ_=>rfl
 simp(disch:=omega) only[F1,go_sem,simprocAttr,RF,t,w,u,e.box,e.co.box,PL,KL,hw,s1,g,d,c,b,uo]
def uu:PC->PC|.seq a _=>a|x=>x
def uv:PC->PC|.seq _ b=>b|x=>x
def fH(Q:Prop)(B:Nat)(lo:oN):Prop:=(lo=none/\Q)\/ ∃j,j<=B/\lo=some j
theorem fH.no{B:Nat}(h:Q):fH Q B none:=.inl ⟨rfl,h⟩
def fH.step{e d:Prop}{B:Nat}{m l:List ae}{a:oN}(h:fH e B b)(g:gq d B m l b a)(f:e->d->Q):fH Q B a:=by
 rcases h with⟨rfl,h⟩| ⟨j,i,rfl⟩
 ·rcases g with⟨rfl,_,g⟩| ⟨k,c,rfl⟩
  ·exact .inl ⟨rfl,f h g⟩
  ·exact .inr ⟨k,c,rfl⟩
 ·rcases g with⟨rfl,_,_⟩| ⟨k,c,rfl⟩
  ·exact .inr ⟨j,i,rfl⟩
  ·exact .inr ⟨min k j,by omega,rfl⟩
def gq.n{B:Nat}{H H':List ae}(h:gq Q B H H' none lo):fH Q B lo:=(fH.no trivial).step h λ_ q=>q
def eD.ak9{s N:Nat}{f st:bR}{g:AV}{H W:List ae}{c:oN}(e:df m p q s f a g H)(l:H.length=N)(h:df m p q s st qv rv W)(i:Fq m [p,q,s] H W)(o:fH (qv=a) p c)(n:v.refs<=N):
  eD m p q s H lo st a v (.ret (finish N lo v ⟨W,c⟩).1 (finish N lo v ⟨W,c⟩).2):=by
 have x:=e.lt;have w:=e.ps;have u:=e.co.mp;have t: ∃d b,finish N lo v ⟨W,c⟩=(v,⟨d,b⟩)/\Fq m [p,q,s] H d/\gq (qv=a) p H d lo b/\ (d=W\/ (d=W.take N/\qv=a)):=by
  rcases o with⟨rfl,k⟩| ⟨j,r,rfl⟩
  ·refine⟨W.take N,lo,iG (.inl rfl) n,i.take l (by omega),.inl ⟨rfl,?_,k⟩,.inr ⟨rfl,k⟩⟩;rw[agw];have:=i.len;omega
  ·exact⟨W,cM lo j,vS (by omega),i,.inr ⟨j,r,rfl⟩,.inl rfl⟩
 obtain⟨d,b,f1,f2,f3,f4⟩:=t;rw[f1];exact⟨qv,rv,d,b,rfl,h.oV f4 id e l,f2,f3⟩
def m4(n:Nat):PC:=match n with
 |0=>oF.body
 |n+1=>uv (m4 n)
def kb(n:Nat):PC:=uu (m4 n)
def Ve:PC:=m4 3
def Vf:PC:=m4 6
def Vg:PC:=m4 7
theorem axb:oF.body= .seq (kb 0) (.seq (kb 1) (.seq (kb 2) Ve)):=rfl
theorem axc:Ve= .seq (kb 3) (.seq (kb 4) (.seq (kb 5) Vf)):=rfl
theorem axd:Vf= .seq (kb 6) Vg:=rfl
theorem axe:Vg= .seq (kb 7) (.seq (kb 8) (.seq (kb 9) (m4 10))):=rfl
def eZ(st:bR):bR:=if 0<st.c.run.2/\fk st.x.S st.c.aa st.c.c≠st.c.run.2 then{st with x:=c9 st.x st.c.run,c:={st.c with run:=(0,0)}}else st
structure CmS(m p q s N M:Nat)(H:List ae)(qv0 rv:AV)(st:bR)(c:cy)(nx:bF)(r:bG)(bv:AV)(e:Env)(W:List ae)(lo:oN):Prop where
 e1:e 1= .ptr N 0
 e3:e 3= .ptr (N+1) 0
 e6:e 6= .ptr M 0
 e7:e 7= .ptr (M+1) 0
 e8:e 8=bv
 st: ∃qv,df m p q s st qv rv W/\fH (qv=qv0) p lo
 w0:W[N]?=some (.box [.ptr s 0] none)
 w1:W[N+1]?=some (.box (bp c) none)
 w6:W[M]?=some (.box (bn nx) none)
 w7:W[M+1]?=some (.box (bH r) none)
 fr:Fq m [p,q,s] H W
 sN:s<N
 NM:N+2<=M
theorem CV: ∀ (l:List aD) (x:Core),(∀r∈l,r.2<=64)->(l.foldl c9 x).Q.length<=x.Q.length+64*l.length
 | [],_,_=>by simp
 |r::l,x,h=>by
  have:=CV l (c9 x r) (λz a=>h z (by grind));have b: (c9 x r).Q.length=x.Q.length+r.2:=by simp[c9,gl]
  grind
theorem Vh: ∀ (l:List aD) (x:Core),(l.foldl c9 x).S=x.S/\ (l.foldl c9 x).P=x.P/\ (l.foldl c9 x).M=x.M
 | [],_=>⟨rfl,rfl,rfl⟩
 |r::l,x=>Vh l (c9 x r)
theorem Vi: ∀ (l:List aD) (x:Core),(∀r∈l,r.1<=64/\r.2<=64)->(∀k∈x.Q,k<2147483648)-> ∀k∈(l.foldl c9 x).Q,k<2147483648
 | [],_,_,h=>h
 |r::l,x,h,c=>Vi l (c9 x r) (λz b=>h z (by grind)) λk a=>by
  rcases ae2.1 a with a|a
  ·grind
  ·obtain⟨i,d,rfl⟩:=ago.1 a
   grind
def ka.alb(a:ka x)(b: ∀r∈l,r.1<=64/\r.2<=64)(g:x.Q.length+64*l.length<8589934592):ka (l.foldl c9 x):=by
 obtain⟨f,e,d⟩:=Vh l x;exact⟨f ▸ a.S,e ▸ a.P,d ▸ a.M,Vi l x b a.Q,by have:=CV l x (λr c=>(b r c).2);omega⟩
def Vj{s N:Nat}{H:List ae}{g T:AV}{R st:bR}{nx:bF}{bv:AV}{back:List aD}{e:Env}{W:List ae}(h0:df m p q s R g T H)(hN:H.length=N)
  (h:CmS m p q s N M H g rv st c nx r bv e W lo) (hb:Rv bv 2 (back.map aA)) (B:back.length<=4096/\ ∀r∈back,r.1<=64/\r.2<=64) (y:qu st) (Y:br nx) (hQ:st.x.Q.length<4294967296) (F:oN):
  wp XC 174 false Vg ⟨e,[]⟩ ⟨W,lo⟩ (dP XC N F [.t 2] (eD m p q s H F (rB {st with x:=back.foldl c9 {st.x with S:=nx},c:={st.c with run:=(0,0)}} r) g (.bool true))):=by
 obtain⟨e1,e3,e6,e7,e8,⟨qv,d,f⟩,w0,w1,w6,w7,fr,sN,NM⟩:=h;have HL:=d.ps;have MU:=d.co.qp;have hmp:=d.co.mp;have Q:=d.ai (d.co.akC nx) (d.co.fp _);have O:=Q.set (qt:={st with x:={st.x with S:=nx},c:={st.c with run:=(0,0)}}) rfl d.aY;have hF:=(d.co.fp (.box (bQ {st.x with S:=nx} q qv) none)).m3.trans (Q.fs (.box (dS {st with x:={st.x with S:=nx},c:={st.c with run:=(0,0)}} p rv) none));have hw: ∀i o,i≠p->i≠s->W[i]?=some o->((W.set p (.box (bQ {st.x with S:=nx} q qv) none)).set s (.box (dS {st with x:={st.x with S:=nx},c:={st.c with run:=(0,0)}} p rv) none))[i]?=some o:=λi o hi hi2 ho=>by
  rw[acG (Ne.symm hi2),acG (Ne.symm hi)];exact ho
 have G: [AV.int .i64 0,.int .i64 0]=aA (0,0):=rfl;have J: ∀r:aD,(aA r).length=2:=λ_=>rfl
 have I: ∀r:aD,aI (aA r)=0:=λ_=>rfl
 have hNp: (N !=p)=true:=by simp;omega
 rw[axe];simp only[go_sem,simprocAttr,oF,kb,m4,uu,uv,e1,e6,e8,w0,w6,d.box,d.co.box,Q.box,PL,G,PS,KS,mL,hb.bJ,en,J,I,MH,hNp];generalize hW1: (W.set p (.box (bQ {st.x with S:=nx} q qv) none)).set s (.box (dS {st with x:={st.x with S:=nx},c:={st.c with run:=(0,0)}} p rv) none)=W1 at*;refine gE back.length (λk e P j=> ∃w,e 1= .ptr N 0/\e 7= .ptr (M+1) 0/\e 128=bv/\e 129= .int .i64 back.length/\e 130= .int .i64 k/\df m p q s {st with x:=(back.take k).foldl c9 {st.x with S:=nx},c:={st.c with run:=(0,0)}} w rv P/\fH (w=g) p j/\P[N]?=some (.box [.ptr s 0] none)/\P[M+1]?=some (.box (bH r) none)/\Fq m [p,q,s] H P) 0 (by omega) ?_ ?_
 ·refine⟨qv,?_⟩;simp only[go_sem,simprocAttr,e1,e7];exact⟨O,f,hw _ _ (by omega) (by omega) w0,hw _ _ (by omega) (by omega) w7,fr.trans hF⟩
 clear f Q O hF hw w0 w1 w6 w7 fr e1 e3 e6 e7 e8 d hW1;rintro k hk e P j ⟨w,e1,e7,v,u,t,d,f,w0,w7,fr⟩ n hn;have K:=λL=>bf (L:=L) w0
 have MV:=λL=>bf (L:=L) d.box
 simp only[bO,go_sem,simprocAttr,afK,e1,v,u,t];refine⟨λhh=>?_,λhh=>?_⟩
 ·have l:k<back.length:=by omega
  generalize A:back.getD k default=D at*;have wk:=B.2 D (by rw[<-A];exact dY l);have V:=CV (back.take k) {st.x with S:=nx} (λz hz=>(B.2 z (ahZ hz)).2);have yd: (back.take k).length<=k:=by simp;omega
  obtain⟨cr,g1,E,W3,U,rfl,g2,C,g4⟩:=U7 (d.co.app [.box (aA D) none]) D ⟨by omega,by omega⟩ (by
   have: ({st.x with S:=nx}:Core).Q=st.x.Q:=rfl;rw[this]at V;show((back.take k).foldl c9 {st.x with S:=nx}).Q.length<_;omega) j
  simp(disch:=omega) only[go_sem,simprocAttr,e1,e7,v,u,t,hb.bW,hb.cp,A,hn,J,I,K,MV,PL,g1];have hs:=(d.app [.box (aA D) none]).ai g2 C;have Vk:N∉[p,q]:=by simp;omega
  have Z:M+1∉[p,q]:=by simp;omega
  have e0: (back.take (k+1)).foldl c9 {st.x with S:=nx}=c9 ((back.take k).foldl c9 {st.x with S:=nx}) D:=by
   rw[<-A,agu,adQ l,amG,agn,adQ l];rfl
  rw[e0];refine⟨by omega,l,E,hs,f.step g4 (λa b=>b.trans a),C.own Vk (K _),C.own Z (bf w7),?_⟩;exact fr.trans (C.m3.pre (by have:=d.co.mp;omega))
 ·obtain rfl:k=back.length:=by omega
  rw[agk]at d;have X:qu {st with x:=back.foldl c9 {st.x with S:=nx},c:={st.c with run:=(0,0)}}:=
   ⟨ka.alb (x:={st.x with S:=nx}) ⟨Y,y.x.P,y.x.M,y.x.Q,by show st.x.Q.length<_;omega⟩ B.2 (by show st.x.Q.length+_<_;omega),⟨y.c.aa,y.c.jc,y.c.aY,⟨by show 0<65536;omega,by show 0<65536;omega⟩,y.c.fo⟩⟩
  obtain⟨cr,g1,E,rv3,W3,U,rfl,g2,C,g4⟩:=Vb d X r j;simp only[go_sem,simprocAttr,e7,w0,w7,xE,uo,g1];exact eD.ak9 h0 hN g2 (fr.trans C) (f.step g4 λa b=>b.trans a) (ae4 _)
def df.other{s:Nat}{st:bR}{W:List ae}(h:df m p q s st qv rv W){cs:lA}(a:W[i]?=some (.box cs tg))(d:i≠p)(c:i≠q)(b:i≠s)(o:ae):df m p q s st qv rv (W.set i o):=
 ⟨h.co.set a d c o,h.ps,(acG b).trans h.box,h.aY⟩
def Ao(P:cU)(c:cy)(pl:lN):cU:=if c.op=4 then ur P pl c.v pl.length else P
def Ap(P:cU)(c:cy)(pl:lN)(v:Nat):Nat:=if c.op=3 then qw P pl v pl.length else v
def axj{s N:Nat}{H:List ae}{j G:AV}{F st:bR}{nx:bF}{bv pv:AV}{back:List aD}{pl:lN}{e:Env}{W:List ae}(E:df m p q s F j G H)(Q:H.length=N)
  (h:CmS m p q s N M H j rv st c nx r bv e W lo) (Y:e 4=pv) (z:Rv pv 1 (pl.map fS)) (A:pl.length<=8/\ ∀k∈pl,k<65536) (I:c.op=3->r.v<18446744073709551616) (L:Rv bv 2 (back.map aA)) (t:back.length<=4096/\ ∀r∈back,r.1<=64/\r.2<=64) (d:qu st) (l:br nx) (O:st.x.Q.length<4294967296) (b:oN):
  wp XC 174 false Vf ⟨e,[]⟩ ⟨W,lo⟩ (dP XC N b [.t 2] (eD m p q s H b (rB {st with x:=back.foldl c9 {st.x with S:=nx,P:=Ao st.x.P c pl},c:={st.c with run:=(0,0)}} {r with v:=Ap st.x.P c pl r.v}) j (.bool true))):=by
 have h':=h;obtain⟨e1,e3,e6,e7,e8,⟨qv,a,n⟩,w0,w1,w6,w7,fr,sN,NM⟩:=h;have HL:=a.ps;have MU:=a.co.qp;have hmp:=a.co.mp;have Xm:=E.co.mp;have B: ∀k,k<pl.length->pl.getD k 0<65536:=λk D=>by simp_all
 rw[axd];by_cases X:c.op=4
 ·have w: (c.op:Int)=4:=by omega
  have u:W.set q (.box (ck (ur st.x.P pl c.v 0)) none)=W:=qm a.co.ib;have g:=λlo=>ak8 z A.1 (f:=.func 195) (cs:=[.ptr N 0,.ptr (N+1) 0]) (.ptr s 0) (λk=>W.set q (.box (ck (ur st.x.P pl c.v k)) none)) (λk=>by simp) (λk D=>by
   have R:=a.ai (a.co.GL (ur st.x.P pl c.v k)) (a.co.fq _);rw[aw9 R (Vc d.x.P pl c.v k) ((acG (by omega)).trans w0) ((acG (by omega)).trans w1) _ k (B k D) (by omega)];show some (aX.ret _ ⟨_,_⟩)=_;rw[alY,ak5]) lo
  simp only[u]at g;simp only[go_sem,simprocAttr,oF,kb,m4,uu,uv,e1,e3,Y,w0,w1,gp,w,g];have U:Ao st.x.P c pl=ur st.x.P pl c.v pl.length:=aez X;have C:Ap st.x.P c pl r.v=r.v:=aeu (by omega);rw[U,C];refine Vj (rv:=rv) (M:=M) (c:=c) (nx:=nx) (r:=r) (bv:=bv) (back:=back) (st:={st with x:={st.x with P:=ur st.x.P pl c.v pl.length}}) E Q ?_ L t ⟨⟨d.x.S,Vc d.x.P pl c.v _,d.x.M,d.x.Q,d.x.Ql⟩,d.c⟩ l O b;exact⟨e1,e3,e6,e7,e8,⟨qv,a.ai (a.co.GL _) (a.co.fq _),n⟩,(acG (by omega)).trans w0,(acG (by omega)).trans w1,(acG (by omega)).trans w6,(acG (by omega)).trans w7,fr.trans (a.co.fq _).m3,sN,NM⟩
 ·have w: ¬(c.op:Int)=4:=by omega
  have U:Ao st.x.P c pl=st.x.P:=aeu X;rw[U];by_cases T:c.op=3
  ·have y: (c.op:Int)=3:=by omega
   have u:W.set (M+1) (.box (bH {r with v:=qw st.x.P pl r.v 0}) none)=W:=qm w7;have g:=λlo=>ak8 z A.1 (f:=.func 197) (cs:=[.ptr N 0,.ptr (M+1) 0]) (.ptr s 0) (λk=>W.set (M+1) (.box (bH {r with v:=qw st.x.P pl r.v k}) none)) (λk=>by simp) (λk D=>by
    have R:=a.other w7 (by omega) (by omega) (by omega) (.box (bH {r with v:=qw st.x.P pl r.v k}) none);rw[axa R d.x.P (r:={r with v:=qw st.x.P pl r.v k}) (Vd d.x.P pl r.v (I T) k (by omega)) ((acG (by omega)).trans w0) (cQ w7) _ k (B k D) (by omega)];show some (aX.ret _ ⟨_,_⟩)=_;rw[alY,ak6]) lo
   simp only[u]at g;simp only[go_sem,simprocAttr,oF,kb,m4,uu,uv,e1,e3,Y,e7,w0,w1,gp,y,g];have C:Ap st.x.P c pl r.v=qw st.x.P pl r.v pl.length:=aez T;rw[C];have K:Fq m [p,q,s] H (W.set (M+1) (.box (bH {r with v:=qw st.x.P pl r.v pl.length}) none)):=⟨by rw[agq];exact fr.len,λi J Z=>by rw[acG (by omega)];exact fr.low i J Z,λi o J ho V=>by
    have:=dZ V;rw[acG (by omega)];exact fr.box i o J ho V⟩
   refine Vj (rv:=rv) (M:=M) (c:=c) (nx:=nx) (bv:=bv) (back:=back) (r:={r with v:=qw st.x.P pl r.v pl.length}) E Q ?_ L t d l O b;exact⟨e1,e3,e6,e7,e8,⟨qv,a.other w7 (by omega) (by omega) (by omega) _,n⟩,(acG (by omega)).trans w0,(acG (by omega)).trans w1,(acG (by omega)).trans w6,cQ w7,K,sN,NM⟩
  ·have y: ¬(c.op:Int)=3:=by omega
   have C:Ap st.x.P c pl r.v=r.v:=aeu T;rw[C];simp only[go_sem,simprocAttr,oF,kb,m4,uu,uv,e3,w1,gp,w,y];refine Vj (rv:=rv) (M:=M) (c:=c) (nx:=nx) (bv:=bv) (back:=back) (r:=r) E Q ?_ L t d l O b;exact⟨e1,e3,e6,e7,e8,⟨qv,a,n⟩,w0,w1,w6,w7,fr,sN,NM⟩
structure rP(d:bF×bG×List aD)(c:cy):Prop where
 S:br d.1
 len:d.2.2.length<=4096
 runs: ∀r∈d.2.2,r.1<=64/\r.2<=64
 v:c.op=3->d.2.1.v<18446744073709551616
 w:d.2.1.w<4294967296
 e:d.2.1.e<4294967296
def MW(st:bR):bR:=
 let d:=dX st.x.S st.c.aa st.c.c st.c.run
 if d.2.1.e≠0 then rB st d.2.1
 else rB {st with x:=d.2.2.foldl c9 {st.x with S:=d.1,P:=Ao st.x.P st.c.c (jl st.x.S st.c.c).1},c:={st.c with run:=(0,0)}} {d.2.1 with v:=Ap st.x.P st.c.c (jl st.x.S st.c.c).1 d.2.1.v}
theorem ald(s:bR):vD s=MW (eZ s):=by rfl
def Vl{s N:Nat}{H:List ae}{h z:AV}{y st:bR}{e:Env}{W:List ae}(Y: ∀op,kO op)(F:df m p q s y h z H)(E:H.length=N)
  (I:e 1= .ptr N 0) (G:e 3= .ptr (N+1) 0) (f:df m p q s st qv rv W) (k:fH (qv=h) p lo) (x:W[N]?=some (.box [.ptr s 0] none)) (t:W[N+1]?=some (.box (bp st.c.c) none)) (J:Fq m [p,q,s] H W)
  (g:qu st) (v:rP (dX st.x.S st.c.aa st.c.c st.c.run) st.c.c) (X:st.x.Q.length<4294967296) (i:oN):
  wp XC 174 false Ve ⟨e,[]⟩ ⟨W,lo⟩ (dP XC N i [.t 2] (eD m p q s H i (MW st) h (.bool true))):=by
 have T:=f.ps;have S:=f.co.qp;have U:=f.co.mp;have sN:s<N:=by rw[<-E];exact F.lt
 have R:=g.c.run;obtain⟨pv,u,P⟩:=awc st.x.S g.x.S st.c.c g.c.jc W lo;have u:=cB u;obtain⟨bv,d1,d2⟩:=UQ st.x.S g.x.S st.c.aa g.c.aa st.c.c g.c.jc st.c.run ⟨by omega,by omega⟩ (Y _) (W++[.box nc none,.box [.int .i64 0,.int .u64 0,.int .u32 0] none]) lo;have d1:=cB d1;have C:=ak2 g.x.S st.c.c;unfold MW;dsimp only;generalize V:dX st.x.S st.c.aa st.c.c st.c.run=d at*;obtain⟨M,w⟩: ∃M,W.length=M:=⟨_,rfl⟩;have D:N+2<=M:=by have:=dZ t;omega
 have B:=λL=>bf (L:=L) x
 have o:=λL=>bf (L:=L) f.box
 have A:=λL=>bf (L:=L) t
 have n:=λL=>bf (L:=L) f.co.box
 have l: (bH d.2.1)[0]?=some (.int .i64 d.2.1.e):=rfl;rw[axc];by_cases he:d.2.1.e=0
 ·have j: ((d.2.1.e:Nat):Int)=0:=by omega
  rw[aeu (λq=>q he)];simp only[go_sem,simprocAttr,oF,kb,m4,uu,uv,I,G,x,t,w,f.box,f.co.box,B,A,o,n,PL,↓PL,KL,↓KL,DZ,u,d1,l,j,mL,rN];refine axj (rv:=rv) (M:=M) (c:=st.c.c) (nx:=d.1) (r:=d.2.1) (bv:=bv) (pv:=pv) (pl:=(jl st.x.S st.c.c).1) (back:=d.2.2) F E ?_ rfl P C v.v d2 ⟨v.len,v.runs⟩ g v.S X i;exact⟨I,G,rfl,rfl,rfl,⟨qv,f.app _,k⟩,B _,A _,by rw[dq w];rfl,by rw[bA w];rfl,J.trans (Fq.app _ (by omega)),sN,D⟩
 ·have j: ¬((d.2.1.e:Nat):Int)=0:=by omega
  rw[aez he];obtain⟨cr,g1,O,K,W2,Q,rfl,g2,g3,Z⟩:=Vb (f.app [.box (bn d.1) none,.box (bH d.2.1) none]) g d.2.1 lo;simp only[go_sem,simprocAttr,oF,kb,m4,uu,uv,I,G,x,t,w,f.box,f.co.box,B,A,o,n,PL,↓PL,KL,↓KL,DZ,u,d1,l,j,mL,rN,g1];exact eD.ak9 F E g2 (J.trans (g3.pre (by omega))) (k.step Z λa b=>b.trans a) (ae4 _)
theorem Vm:aI (bp c)=0:=rfl
def axk{s:Nat}{H:List ae}{st:bR}(t: ∀op,kO op)(a:df m p q s st qv rv H)(b:qu st)(h:rP (dX (eZ st).x.S (eZ st).c.aa (eZ st).c.c (eZ st).c.run) st.c.c)(V:st.x.Q.length<2147483648)(lo:oN):
  ∃C,D XC (.fn (.func 174) [] []) [.ptr s 0] ⟨H,lo⟩=some C/\eD m p q s H lo (vD st) qv (.bool true) C:=by
 have ho:Old s H (.box (dS st p rv) none):=⟨a.box⟩;refine cA oF λN d=>?_
 have sN:s<N:=by rw[<-d];exact a.lt
 have R:=a.ps;have P:=a.co.qp;have S:=a.co.mp;rw[ald,axb];have O:=b.c.run;have G:=λH lo=>cB (UR st.x.S b.x.S st.c.aa b.c.aa st.c.c b.c.jc (t _) H lo)
 have F: (H++[.box [.ptr s 0] none,.box (bp st.c.c) none])[N]?=some (.box [.ptr s 0] none):=by rw[dq d];rfl
 have E: (H++[.box [.ptr s 0] none,.box (bp st.c.c) none])[N+1]?=some (.box (bp st.c.c) none):=by rw[bA d];rfl
 have f:=λL=>bf (L:=L) a.box
 have n:=λL=>bf (L:=L) a.co.box
 by_cases J:0<st.c.run.2
 ·have e: ((st.c.run.2:Nat):Int)>0:=by omega
  by_cases I:fk st.x.S st.c.aa st.c.c=st.c.run.2
  ·have g:decide (((fk st.x.S st.c.aa st.c.c:Nat):Int)=st.c.run.2)=true:=aeD (by omega);have o:eZ st=st:=aeu (λq=>q.2 I);rw[o]at h⊢;simp only[go_sem,simprocAttr,oF,kb,m4,uu,uv,d,f,n,PL,↓PL,KL,↓KL,GB,MI,Vm,GG,e,G,g];exact Vl t a d rfl rfl (a.app _) (fH.no rfl) F E (Fq.app _ (by omega)) b h (by omega) lo
  ·have g:decide (((fk st.x.S st.c.aa st.c.c:Nat):Int)=st.c.run.2)=false:=aeC (by omega);have o:eZ st={st with x:=c9 st.x st.c.run,c:={st.c with run:=(0,0)}}:=aez ⟨J,I⟩;rw[o]at h⊢;obtain⟨C,g1,K,W,M,rfl,g2,u,U⟩:=U7 (a.co.app [.box [.ptr s 0] none,.box (bp st.c.c) none]) st.c.run ⟨by omega,by omega⟩ (by omega) none;have v:=(a.app [.box [.ptr s 0] none,.box (bp st.c.c) none]).ai g2 u;have B:N∉[p,q]:=by simp;omega
   have A:N+1∉[p,q]:=by simp;omega
   have v0:=u.own B F;have v1:=u.own A E;have j: [AV.int .i64 0,.int .i64 0]=aA (0,0):=rfl;have y: ∀r:aD,(aA r).length=2:=λ_=>rfl
   have w: ∀r:aD,aI (aA r)=0:=λ_=>rfl
   simp only[go_sem,simprocAttr,oF,kb,m4,uu,uv,d,f,n,PL,↓PL,KL,↓KL,GB,MI,Vm,GG,e,G,g,g1,v0,v.box,j,y,w,PS];have Q: (c9 st.x st.c.run).Q.length=st.x.Q.length+st.c.run.2:=by simp[c9,gl]
   have z:qu {st with x:=c9 st.x st.c.run,c:={st.c with run:=(0,0)}}:=⟨⟨b.x.S,b.x.P,b.x.M,λk l=>by
    rcases ae2.1 l with l|l
    ·exact b.x.Q k l
    ·obtain⟨i,T,rfl⟩:=ago.1 l;have:=al1.1 T;show st.c.run.1+i<_;omega,by show(c9 st.x st.c.run).Q.length<_;omega⟩,⟨b.c.aa,b.c.jc,b.c.aY,⟨by show 0<65536;omega,by show 0<65536;omega⟩,b.c.fo⟩⟩
   refine Vl (st:={st with x:=c9 st.x st.c.run,c:={st.c with run:=(0,0)}}) t a d ?_ ?_ (v.set rfl a.aY) U.n ?_ ?_ ?_ z h (by show(c9 st.x st.c.run).Q.length<_;omega) lo
   ·exact rfl
   ·exact rfl
   ·exact(acG (by omega)).trans v0
   ·exact(acG (by omega)).trans v1
   ·exact((Fq.app _ (by omega)).trans u.m3).trans (v.fs _)
 ·have e: ¬((st.c.run.2:Nat):Int)>0:=by omega
  have o:eZ st=st:=aeu (λq=>J q.1);rw[o]at h⊢;simp only[go_sem,simprocAttr,oF,kb,m4,uu,uv,d,f,PL,↓PL,GB,Vm,GG,e];exact Vl t a d rfl rfl (a.app _) (fH.no rfl) F E (Fq.app _ (by omega)) b h (by omega) lo
def eF:Nat->bR->bR×Bool
 |0=>lE|1=>lF|2=>lG|3=>mh|_=>λs=>(vD s,true)
def ale:Nat->FuncId
 |0=>170|1=>171|2=>172|3=>173|_=>174
def alf{s:bR}(h: (lE s).2=false): (lE s).1=s:=by
 unfold lE at*;grind
def alg{s:bR}(h: (lF s).2=false): (lF s).1=s:=by
 unfold lF at*;grind
def alh{s:bR}(h: (lG s).2=false): (lG s).1=s:=by
 unfold lG at*;grind
def ali{s:bR}(h: (mh s).2=false): (mh s).1=s:=by
 unfold mh at*;grind
def axl{s:bR}(h: (eF k s).2=false): (eF k s).1=s:=by
 rcases(show k=0\/k=1\/k=2\/k=3\/4<=k by omega)with q|q|q|q|q
 ·subst q;exact alf h
 ·subst q;exact alg h
 ·subst q;exact alh h
 ·subst q;exact ali h
 ·obtain⟨j,rfl⟩: ∃j,k=j+4:=⟨k-4,by omega⟩;cases h
def m5(s:bR)(k:Nat):bR:=if(eF k s).2 then(eF k s).1 else match k with
 |0=>if(eF 1 s).2 then(eF 1 s).1 else if(eF 2 s).2 then(eF 2 s).1 else if(eF 3 s).2 then(eF 3 s).1 else(eF 4 s).1
 |1=>if(eF 2 s).2 then(eF 2 s).1 else if(eF 3 s).2 then(eF 3 s).1 else(eF 4 s).1
 |2=>if(eF 3 s).2 then(eF 3 s).1 else(eF 4 s).1
 |_=>(eF 4 s).1
def CW{s:bR}(h: (eF k s).2=true):m5 s k=(eF k s).1:=by unfold m5;grind
def GN{s:bR}(b:k<4)(h: (eF k s).2=false):m5 s k=m5 s (k+1):=by
 have a: ¬(eF k s).2=true:=by grind
 rcases(show k=0\/k=1\/k=2\/k=3 by omega)with q|q|q|q<;>subst q
 ·exact(aeu a: (if(eF 0 s).2=true then(eF 0 s).1 else m5 s 1)=m5 s 1)
 ·exact(aeu a: (if(eF 1 s).2=true then(eF 1 s).1 else m5 s 2)=m5 s 2)
 ·exact(aeu a: (if(eF 2 s).2=true then(eF 2 s).1 else m5 s 3)=m5 s 3)
 ·exact(aeu a: (if(eF 3 s).2=true then(eF 3 s).1 else m5 s 4)=m5 s 4)
def axm(x:Core)(c:Call):gn x c=m5 ⟨x,c,bX,false⟩ 0:=by
 unfold gn;dsimp only;generalize(⟨x,c,bX,false⟩:bR)=s;cases e: (lE s).2 with
 |true=>rw[aez rfl,CW (k:=0) e];rfl
 |false=>
  rw[aeu (by simp),alf e,GN (k:=0) (by omega) e];cases d: (lF s).2 with
  |true=>rw[aez rfl,CW (k:=1) d];rfl
  |false=>
   rw[aeu (by simp),alg d,GN (k:=1) (by omega) d];cases b: (lG s).2 with
   |true=>rw[aez rfl,CW (k:=2) b];rfl
   |false=>
    rw[aeu (by simp),alh b,GN (k:=2) (by omega) b];cases a: (mh s).2 with
    |true=>rw[aez rfl,CW (k:=3) a];rfl
    |false=>rw[aeu (by simp),ali a,GN (k:=3) (by omega) a,CW (k:=4) rfl];rfl
def axn{s:Nat}{H:List ae}{st:bR}(c: ∀op,kO op)(b:df m p q s st qv rv H)(a:qu st)(e:rP (dX (eZ st).x.S (eZ st).c.aa (eZ st).c.c (eZ st).c.run) st.c.c)(f:st.x.Q.length<2147483648)(k:Nat)(lo:oN):
  ∃d,D XC (.fn (.func (ale k)) [] []) [.ptr s 0] ⟨H,lo⟩=some d/\eD m p q s H lo (eF k st).1 qv (.bool (eF k st).2) d:=by
 rcases(show k=0\/k=1\/k=2\/k=3\/4<=k by omega)with h|h|h|h|h
 ·subst h;exact aw3 c b a lo
 ·subst h;exact aw4 b a lo
 ·subst h;exact aw5 c b a lo
 ·subst h;exact aw6 b a lo
 ·obtain⟨j,rfl⟩: ∃j,k=j+4:=⟨k-4,by omega⟩;exact axk c b a e f lo
def alj{X:Ctx}{f:FuncId}{fs args:lA}{E:AS}{r:aX}(h:D X (.fn (.func f) [] []) (fs++args) E=some r):D X (.fn (.func f) fs []) args E=some r:=by
 obtain⟨n,a⟩:=yy h;cases n with
 |zero=>cases a
 |succ n=>exact OJ (n:=n+1) _ _ _ _ a
def MX(m p q:Nat)(H:List ae)(lo:oN)(st:bR)(qv:AV)(b:aX):Prop:=
 ∃a rO H' ak,b= .ret (.ax [.agg (bN st.c rO),.agg (bH st.r),.bool st.ended]) ⟨H',ak⟩/\dI m p q st.x a H'/\Rv rO 1 (st.c.aY.map hC)/\Fq m [p,q] H H'/\gq (a=qv) p H H' lo ak
def vW:lA:=[.int .i64 0,.int .u8 0,.int .u32 0,.int .u32 0,.int .u32 0,.int .u32 0,.int .u64 0,.bool false,.aq,.int .i64 0,.int .i64 0,.int .i64 0]
def nO:lA:=[.int .i64 0,.int .u64 0,.int .u32 0]
def Fq.cut{S T:lN}{H B W:List ae}(h:Fq m S (H++B) W)(d: ∀i∈S,i∈T\/H.length<=i)(e:m<=H.length):Fq m T H W:=⟨by have:=h.len;grind,λi a b=>by rw[h.low i a λq=>(d i q).elim b (by omega),acK (by omega)],λi o a ho c=>by
 exact h.box i o (λq=>by grind) ho (bf c)⟩
def Fq.out{T:lN}{H W:List ae}(h:Fq m T H W)(f:H.length<=i)(d:m<=H.length)(o:ae):Fq m T H (W.set i o):=⟨by rw[agq];exact h.len,λj a c=>by rw[acG (by omega)];exact h.low j a c,λj o a ho b=>by
 have e:=dZ b;rw[acG (by omega)];exact h.box j o a ho b⟩
def MX.fin{N:Nat}{H W:List ae}{i:Core}{st:bR}(e:dI m p q i a H)(g:H.length=N)(h:dI m p q st.x qv W)(c:Rv rv 1 (st.c.aY.map hC))(d:Fq m [p,q] H W)(l:fH (qv=a) p b):
  MX m p q H lo st a (.ret (finish N lo (.ax [.agg (bN st.c rv),.agg (bH st.r),.bool st.ended]) ⟨W,b⟩).1 (finish N lo (.ax [.agg (bN st.c rv),.agg (bH st.r),.bool st.ended]) ⟨W,b⟩).2):=by
 have s:=e.lt;have r:=e.mp;have k: (AV.ax [.agg (bN st.c rv),.agg (bH st.r),.bool st.ended]).refs<=N:=by
  have:=Va st.c (cL c (bB (λ_=>rfl) _));have o:= @rN st.r;simp[AV.refs,aI,this,o]
 rcases l with⟨rfl,f⟩| ⟨j,n,rfl⟩
 ·rw[iG (.inl rfl) k];refine⟨qv,rv,_,lo,rfl,h.oV (Q:=qv=a) (.inr ⟨rfl,f⟩) id e g,c,d.take g (by omega),.inl ⟨rfl,?_,f⟩⟩;rw[agw];have:=d.len;omega
 ·rw[vS (by omega)];exact⟨qv,rv,W,cM lo j,rfl,h,c,d,.inr ⟨j,n,rfl⟩⟩
def axo{H:List ae}{c:Call}(hD: ∀op,kO op)(J:dI m p q x qv H)(hx:ka x)(hc:fY c)(hr:Rv rv 1 (c.aY.map hC))
  (F:rP (dX (eZ ⟨x,c,bX,false⟩).x.S (eZ ⟨x,c,bX,false⟩).c.aa (eZ ⟨x,c,bX,false⟩).c.c (eZ ⟨x,c,bX,false⟩).c.run) c.c) (hQ:x.Q.length<2147483648) (lo:oN):
  ∃Y,D XC (.fn (.func 145) [] []) [.ptr p 0,.agg (bN c rv)] ⟨H,lo⟩=some Y/\MX m p q H lo (gn x c) qv Y:=by
 refine cA Q9 λN l=>?_
 have oU:p<N:=by rw[<-l];exact J.lt
 have MU:=J.qp;have hmp:=J.mp;obtain⟨st,d⟩: ∃st:bR,st=⟨x,c,bX,false⟩:=⟨_,rfl⟩;have G: ∀ (c:Call) rv,List.take 12 (bN c rv)=bN c rv:=λ_ _=>rfl
 have v: ∀rv,AV.ptr p 0:: (bN c rv++[.int .i64 0,.int .u64 0,.int .u32 0,.bool false])=dS st p rv:=λrv=>by rw[d];rfl
 have hrz:=cL hr (bB (λ_=>rfl) _);obtain⟨B,hB⟩: ∃B:List ae,B=[.box (bN c rv) none,.box vW none,.box nO none,.box (dS st p rv) none]:=⟨_,rfl⟩;have hB4: (H++B).length=N+4:=by rw[hB];simp[l]
 have w:df m p q (N+3) st qv rv (H++B):=by
  rw[d];exact⟨J.app B,by omega,by rw[hB,bA l,d];rfl,hr⟩
 have U:qu st:=by rw[d];exact⟨hx,hc⟩
 rw[axm,<-d];rw[<-d]at F;have F:rP (dX (eZ st).x.S (eZ st).c.aa (eZ st).c.c (eZ st).c.run) st.c.c:=by rw[d]at F⊢;exact F
 have I: ∀ (c:Call) rv,(bN c rv).length=12:=λ_ _=>rfl
 have ahL:min 12 12=12:=rfl;have C: ∀k,k<5->qG false 5 1 (.agg [.fn (.func 170) [.ptr (N+3) 0] [],.fn (.func 171) [.ptr (N+3) 0] [],.fn (.func 172) [.ptr (N+3) 0] [],.fn (.func 173) [.ptr (N+3) 0] [],.fn (.func 174) [.ptr (N+3) 0] []]) (.int .i64 (k:Nat))=some (.fn (.func (ale k)) [.ptr (N+3) 0] []):=by
  intro k hk;rcases(show k=0\/k=1\/k=2\/k=3\/k=4 by omega)with h|h|h|h|h<;>subst h<;>rfl
 generalize X:AV.agg [.fn (.func 170) [.ptr (N+3) 0] [],.fn (.func 171) [.ptr (N+3) 0] [],.fn (.func 172) [.ptr (N+3) 0] [],.fn (.func 173) [.ptr (N+3) 0] [],.fn (.func 174) [.ptr (N+3) 0] []]=Z at C;simp only[go_sem,simprocAttr,Q9,l,I,G,v,X];refine gE 5 (λk e W j=> ∃g s,e 4= .ptr (N+1) 0/\e 5= .ptr (N+2) 0/\e 7= .ptr (N+3) 0/\e 24=Z/\e 25= .int .i64 k/\k<=4/\df m p q (N+3) st g s W/\fH (g=qv) p j/\Fq m [p,q,N+3] (H++B) W/\m5 st 0=m5 st k) 0 (by omega) ?_ ?_
 ·refine⟨qv,rv,?_⟩;simp only[go_sem,simprocAttr];rw[hB]at w⊢;exact⟨w,fH.no trivial,Fq.refl⟩
 rintro k hk e W j ⟨g,s,e4,e5,e7,L,K,hk4,hs,y,hf,A⟩ n hn;have E:=C k (by omega);obtain⟨Y,g1,Q,P,M,Cz,rfl,g2,g3,g4⟩:=axn hD hs U F (by rw[d];exact hQ) k j;have g1:=alj (fs:=[.ptr (N+3) 0]) (args:=[]) g1;simp only[bO,go_sem,simprocAttr,afD,e7,L,K];refine⟨λ_=>?_,λhh=>absurd (show((k:Nat):Int)<5 by omega) hh⟩;have f:=hf.trans g3;cases r: (eF k st).2 with
 |true=>
  rw[r]at g1;have v1:M[N+1]?=some (.box vW none):=f.own (by simp;omega) (by rw[hB,bA l];rfl);have v2:M[N+2]?=some (.box nO none):=f.own (by simp;omega) (by rw[hB,bA l];rfl);have O: ∀o,(M.set (N+1) o)[N+2]?=some (.box nO none):=λo=>(acG (by omega)).trans v2
  have s1:=λo=>cQ (o:=o) v1
  have s2:=λo o'=>cQ (o:=o') (O o)
  have s3: ∀o o':ae,((M.set (N+1) o).set (N+2) o')[N+1]?=some o:=λo o'=>(acG (by omega)).trans (s1 o)
  have S:vW.length=12:=rfl;have R:nO.length=3:=rfl;have u:List.drop 12 vW=[]:=rfl;have t:List.drop 3 nO=[]:=rfl;have V:=Va (eF k st).1.c g2.rz;simp only[go_sem,simprocAttr,E,e4,e5,e7,g1,g2.box,v1,O,s2,s3,PL,↓PL,S,R,u,t,I,G,xE,uo,rN,V,Ac];refine⟨by simp,by simp,?_⟩;rw[A,CW r];have hq3:q<N:=by omega
  refine MX.fin J l ((g2.co.set v1 (by omega) (by omega) _).set (O _) (by omega) (by omega) _) g2.aY ?_ (y.step g4 λa b=>b.trans a);exact((f.cut (T:=[p,q]) (by intro i hi;simp at hi⊢;omega) (by omega)).out (by omega) (by omega) _).out (by omega) (by omega) _
 |false=>
  rw[r]at g1;have he:=axl r;rw[he]at g2;have z:k<4:=by
   rcases(show k<4\/k=4 by omega)with q|q
   ·exact q
   ·subst q;cases r
  simp(disch:=omega) only[go_sem,simprocAttr,E,e4,e5,e7,L,K,g1];exact⟨by omega,Q,P,by omega,g2,y.step g4 (λa b=>b.trans a),f,by rw[A,GN z r]⟩
def db(x:dU):lA:=[.int .u8 x.op,.int .u8 x.a,.int .u8 x.b,.int .u8 x.c,.int .u16 x.n]
def dc(t:Task)(cv:AV):lA:=[cv,.int .i64 t.next]++arr 8 λi=>[.int .u64 (t.aY i)]
structure GO(x:dU):Prop where
 op:x.op<39
 a:x.a<8
 b:x.b<8
 c:x.c<8
 n:x.n<65536
 j:x.op=5\/x.op=6->x.n<=64
structure lQ(t:Task):Prop where
 len:t.code.length<=64
 ins: ∀x∈t.code,GO x
 next:t.next<=64
 aY: ∀i,t.aY i<18446744073709551616
section
variable{t:Task}{cv:AV}
theorem xK: (dc t cv).length=10:=rfl
def GP(h:cv.refs=0):aI (dc t cv)=0:=by
 unfold dc;rw[F0,B8 (λ_=>rfl)];simp[aI,AV.refs,h]
theorem alm: (dc t cv)[0]?=some cv:=rfl
theorem aln: (dc t cv)[1]?=some (.int .i64 t.next):=rfl
theorem alo: (dc t cv)[7]?=some (.int .u64 (t.aY 5)):=rfl
theorem alp: (dc t cv)[8]?=some (.int .u64 (t.aY 6)):=rfl
theorem alq:List.take 10 (dc t cv)=dc t cv:=rfl
def Vn(h:i<8): (dc t cv)[2+i]?=some (.int .u64 (t.aY i)):=by
 rcases(show i=0\/i=1\/i=2\/i=3\/i=4\/i=5\/i=6\/i=7 by omega)with q|q|q|q|q|q|q|q<;>subst q<;>rfl
theorem alr{n:Nat}:aJ (dc t cv) 1 [.int .i64 n]=dc {t with next:=n} cv:=rfl
def GQ{v:Nat}(h:i<8):aJ (dc t cv) (2+i) [.int .u64 v]=dc {t with aY:=au t.aY i v} cv:=by
 rcases(show i=0\/i=1\/i=2\/i=3\/i=4\/i=5\/i=6\/i=7 by omega)with q|q|q|q|q|q|q|q<;>subst q<;>rfl
def TK:=gG @alm<|gG @aln<|gG @alo<|gG @alp<|gG @alq<|gG @alr @xK
end
theorem als(x:dU): (db x).length=5:=rfl
theorem alu(x:dU):aI (db x)=0:=rfl
theorem alv(x:dU): (db x)[0]?=some (.int .u8 x.op):=rfl
theorem alw(x:dU): (db x)[1]?=some (.int .u8 x.a):=rfl
theorem alx(x:dU): (db x)[2]?=some (.int .u8 x.b):=rfl
theorem aly(x:dU): (db x)[3]?=some (.int .u8 x.c):=rfl
theorem alz(x:dU): (db x)[4]?=some (.int .u16 x.n):=rfl
theorem alA(x:dU):List.take 5 (db x)=db x:=rfl
theorem alB(x:dU):List.drop 5 (db x)=[]:=rfl
def IL:type_of% @als/\type_of% @alu/\type_of% @alv/\type_of% @alw/\type_of% @alx/\type_of% @aly/\type_of% @alz/\type_of% @alA/\type_of% @alB:=⟨als,alu,alv,alw,alx,aly,alz,alA,alB⟩
def CX:dU:=⟨0,0,0,0,0⟩
def GR(t:Task):AV:=.ax [.agg (db ((rE t).getD CX)),.bool (rE t).isSome]
section
variable{t:Task}{cv:AV}(hv:Rv cv 5 (t.code.map db))(jM:lQ t)(H:List ae)(lo:oN)
include hv jM
theorem Vo:D X0 (.fn (.func 143) [] []) [.agg (dc t cv)] ⟨H,lo⟩=some (.ret (GR t) ⟨H,lo⟩):=by
 refine aH KQ λN d=>?_
 have h:=jM.next;have i:=jM.len;have f: ¬((t.next:Nat):Int)<0:=by omega
 have a:=λE=>hv.bJ (E:=E)
 have c: [AV.int .u8 0,.int .u8 0,.int .u8 0,.int .u8 0,.int .u16 0]=db CX:=rfl;unfold GR rE;by_cases j:t.next<t.code.length
 ·have b: ¬((t.next:Nat):Int)>=t.code.length:=by omega
  have e:t.code[t.next]?=some (t.code.getD t.next default):=by grind
  rw[e];have g: (0:Int)<=t.next/\ (t.next:Int)<t.code.length:=by omega
  simp(disch:=omega) only[F1,go_sem,simprocAttr,KQ,d,TK,f,a,b,hv.bW,hv.cp,g,IL,pJ]
 ·have b: ((t.next:Nat):Int)>=t.code.length:=by omega
  have e:t.code[t.next]?=none:=alZ (by omega);rw[e];simp only[F1,go_sem,simprocAttr,KQ,d,TK,f,a,b,c,IL,pJ]
omit hv jM in
theorem Aq(i:Nat)(a:i<8):D X0 (.fn (.func 144) [] []) [.agg (dc t cv),.int .u8 i] ⟨H,lo⟩=some (.ret (.int .u64 (t.aY i)) ⟨H,lo⟩):=by
 refine aH Q8 λN c=>?_
 have hm: ((i:Nat):Int).tmod 8=i:=by rw[Int.tmod_eq_emod_of_nonneg (by omega)];omega
 have b: (0:Int)<=i/\ (i:Int)<8:=by omega
 simp(disch:=omega) only[F1,go_sem,simprocAttr,Q8,c,hm,b,Vn a]
omit hv in
theorem GS{x:dU}(a:rE t=some x):GO x:=by
 unfold rE at a;exact jM.ins x (alL a)
theorem Vp:D X0 (.fn (.func 100) [] []) [.agg (dc t cv)] ⟨H,lo⟩=some (.ret (.ax [.agg (bp (iE t).1),.bool (iE t).2]) ⟨H,lo⟩):=by
 refine aH BV λN f=>?_
 have b:=λH lo=>Vo hv jM H lo
 have m: [AV.int .u8 0,.int .u32 0,.int .u32 0,.int .u32 0,.int .u32 0,.int .u64 0]=bp mU:=rfl;have l: [AV.int .u8 20,.int .u32 0,.int .u32 0,.int .u32 0,.int .u32 0,.int .u64 0]=bp {mU with op:=20}:=rfl;have a: [AV.int .u8 0,.int .u8 0,.int .u8 0,.int .u8 0,.int .u16 0]=db CX:=rfl;have v: ∀c,List.take 6 (bp c)=bp c:=λ_=>rfl
 have w: ∀c,List.drop 6 (bp c)=[]:=λ_=>rfl
 unfold GR at b;unfold iE;cases h:rE t with
 |none=>
  rw[h]at b;simp only[axV,avn]at b;simp only[F1,go_sem,simprocAttr,BV,f,TK,b,IL,a,pJ];rfl
 |some x=>
  rw[h]at b;simp only[ala,avm]at b;have ho:=GS jM h;have p:=ho.op;have s:=jM.aY;by_cases j:x.op=0
  ·have d: (x.op:Int)=0:=by omega
   simp only[aez j];simp only[F1,go_sem,simprocAttr,BV,f,TK,b,IL,a,d,pJ];rfl
  ·have d:decide ((x.op:Int)=0)=false:=aeC (by omega);by_cases k:x.op<=16
   ·have e: (x.op:Int)<=16:=by omega
    simp only[aeu j,aez k];simp only[F1,go_sem,simprocAttr,BV,f,TK,b,IL,a,d,e,pJ];rfl
   ·have e: ¬(x.op:Int)<=16:=by omega
    have r:x.b % 8=x.b:=ane ho.b;have q:x.c % 8=x.c:=ane ho.c;have o: (x.op:Int)-16=((x.op-16:Nat):Int):=by omega
    have g: ∀n:Nat,IntKind.wrap .u32 (n:Int)=((n % 4294967296:Nat):Int):=λn=>by
     unfold IntKind.wrap IntKind.bits IntKind.signed;simp
    have u:=ho.n;have i:x.n % 4294967296=x.n:=ane (by omega);have rb:=λH lo=>Aq (t:=t) (cv:=cv) H lo x.b ho.b
    have rc:=λH lo=>Aq (t:=t) (cv:=cv) H lo x.c ho.c
    simp only[aeu j,aeu k,r,q];simp(disch:=omega) only[F1,go_sem,simprocAttr,BV,f,TK,b,IL,a,d,e,pJ,rb,rc,o,g,i];rfl
end
theorem wrap64(n:Nat):IntKind.wrap .u64 (n:Int)=((n % mi:Nat):Int):=by rfl
theorem alC(n:Nat): ((n:Nat):Int).tmod 8=((n % 8:Nat):Int):=by rfl
section
variable{t:Task}{cv:AV}(hv:Rv cv 5 (t.code.map db))(jM:lQ t)
include hv jM
theorem axq(r:bG)(z:r.w<4294967296/\r.e<4294967296)(H:List ae)(lo:oN):
  D X0 (.fn (.func 175) [] []) [.agg (dc t cv),.agg (bH r)] ⟨H,lo⟩=some (.ret (.agg (dc (ua t r) cv)) ⟨H,lo⟩):=by
 refine aH FE λN i=>?_
 have b:=λH lo=>Vo hv jM H lo
 have hw:=λH lo=>Vp hv jM H lo
 have e: [AV.int .u8 0,.int .u8 0,.int .u8 0,.int .u8 0,.int .u16 0]=db CX:=rfl;have d: [AV.int .u8 0,.int .u32 0,.int .u32 0,.int .u32 0,.int .u32 0,.int .u64 0]=bp mU:=rfl;have k: ∀c,(bp c).length=6:=λ_=>rfl
 have l: ∀c,List.drop 6 (bp c)=[]:=λ_=>rfl
 have j: ∀c,aI (bp c)=0:=λ_=>rfl
 have f:=λt:Task=>GP (t:=t) (cL hv (bB (λ_=>rfl) _))
 have w:=jM.next;have u: (bH r)[0]?=some (.int .i64 r.e):=rfl;have s: (bH r)[1]?=some (.int .u64 r.v):=rfl;have q: (bH r)[2]?=some (.int .u32 r.w):=rfl;unfold GR at b;unfold ua;cases hx:rE t with
 |none=>
  rw[hx]at b;simp only[axV,avn]at b;simp only[F1,go_sem,simprocAttr,FE,i,TK,b,hw,IL,e,d,k,l,j,f]
 |some x=>
  rw[hx]at b;simp only[ala,avm]at b;have ho:=GS jM hx;cases g: (iE t).2 with
  |false=>
   rw[g]at hw;simp only[F1,go_sem,simprocAttr,FE,i,TK,b,hw,IL,e,d,k,l,j,f]
  |true=>
   rw[g]at hw;have h:x.a % 8<8:=by omega
   have y: (0:Int)<=(x.a % 8:Nat)/\ ((x.a % 8:Nat):Int)<8:=by omega
   have m:=λ (t:Task) (v:Nat)=>GQ (t:=t) (cv:=cv) (v:=v) h
   have p: ∀ (t:Task) (v:Nat),aJ (dc t cv) 6 [.int .u64 v]=dc {t with aY:=au t.aY 4 v} cv:=λ_ _=>rfl
   have o: ∀ (t:Task) (v:Nat),aJ (dc t cv) 9 [.int .u64 v]=dc {t with aY:=au t.aY 7 v} cv:=λ_ _=>rfl
   have s1: ∀ (t:Task) (n:Nat),aJ (dc t cv) 1 [.int .i64 ((n:Int)+1)]=dc {t with next:=n+1} cv:=λ_ _=>rfl
   simp only[ahJ];simp(disch:=omega) only[F1,go_sem,simprocAttr,FE,i,TK,b,hw,IL,e,d,k,l,j,f,alC,y,m,p,o,s1,u,s,q];omega
end
section
variable{t:Task}{cv:AV}{x:dU}{n u5 u7 u8 a:Nat}{H:List ae}(hv:Rv cv 5 (t.code.map db))(jM:lQ t)(hx:GO x)(ha:a<8)(hn:H[n]?=some (.box (dc t cv) none))(h5:H[u5]?=some (.box (db x) none))(h7:H[u7]?=some (.box [.ptr n (2+a)] none))(h8:H[u8]?=some (.box [.int .i64 ((t.next:Int)+1)] none))(lo:oN)
abbrev MY(t:Task)(a v:Nat):Task:={t with aY:=au t.aY a v}
include ha hn h5 h7 hx in
theorem axr:D X0 (.fn (.func 148) [] [.ptr u5 0,.ptr u7 0]) [] ⟨H,lo⟩=some (.ret (.ax []) ⟨H.set n (.box (dc (MY t a x.n) cv) none),lo⟩):=by
 refine fj Rb λN c=>?_
 have b: ∀o,(H.set n o).take N=H.set n o:=λo=>aeE (by simp[c])
 have e:=hx.n;have f:2+a<=9:=by omega
 have d:=λ (v:Nat)=>GQ (t:=t) (cv:=cv) (v:=v) ha
 simp(disch:=omega) only[F1,go_sem,simprocAttr,Rb,c,hn,h5,h7,IL,d,b,xK,f]
include ha hn h5 h7 hx in
theorem axs:D X0 (.fn (.func 149) [] [.ptr n 0,.ptr u5 0,.ptr u7 0]) [] ⟨H,lo⟩=some (.ret (.ax []) ⟨H.set n (.box (dc (MY t a ((t.aY x.b+t.aY x.c) % mi)) cv) none),lo⟩):=by
 refine fj Rc λN c=>?_
 have b: ∀o,(H.set n o).take N=H.set n o:=λo=>aeE (by simp[c])
 have e:2+a<=9:=by omega
 have d:=λ (v:Nat)=>GQ (t:=t) (cv:=cv) (v:=v) ha
 have rb:=λH lo=>Aq (t:=t) (cv:=cv) H lo x.b hx.b
 have rc:=λH lo=>Aq (t:=t) (cv:=cv) H lo x.c hx.c
 have hw:IntKind.wrap .u64 ((t.aY x.b:Int)+t.aY x.c)=(((t.aY x.b+t.aY x.c) % mi:Nat):Int):=wrap64 (t.aY x.b+t.aY x.c);simp(disch:=omega) only[F1,go_sem,simprocAttr,Rc,c,hn,h5,h7,IL,TK,rb,rc,hw,d,b,e]
include jM ha hn h5 h7 hx in
theorem axt:D X0 (.fn (.func 150) [] [.ptr n 0,.ptr u5 0,.ptr u7 0]) [] ⟨H,lo⟩=some (.ret (.ax []) ⟨H.set n (.box (dc (MY t a ((t.aY x.b+mi-t.aY x.c) % mi)) cv) none),lo⟩):=by
 refine fj Re λN c=>?_
 have b: ∀o,(H.set n o).take N=H.set n o:=λo=>aeE (by simp[c])
 have e:2+a<=9:=by omega
 have d:=λ (v:Nat)=>GQ (t:=t) (cv:=cv) (v:=v) ha
 have rb:=λH lo=>Aq (t:=t) (cv:=cv) H lo x.b hx.b
 have rc:=λH lo=>Aq (t:=t) (cv:=cv) H lo x.c hx.c
 have g:=jM.aY x.b;have f:=jM.aY x.c;have hw:IntKind.wrap .u64 ((t.aY x.b:Int)-t.aY x.c)=(((t.aY x.b+mi-t.aY x.c) % mi:Nat):Int):=by
  unfold IntKind.wrap IntKind.bits IntKind.signed mi;simp;omega
 simp(disch:=omega) only[F1,go_sem,simprocAttr,Re,c,hn,h5,h7,IL,TK,rb,rc,hw,d,b,e]
include ha hn h5 h7 hx in
theorem axu:D X0 (.fn (.func 151) [] [.ptr n 0,.ptr u5 0,.ptr u7 0]) [] ⟨H,lo⟩=some (.ret (.ax []) ⟨H.set n (.box (dc (MY t a (t.aY x.b*2^x.n % mi)) cv) none),lo⟩):=by
 refine fj Rf λN d=>?_
 have b: ∀o,(H.set n o).take N=H.set n o:=λo=>aeE (by simp[d])
 have f:2+a<=9:=by omega
 have e:=λ (v:Nat)=>GQ (t:=t) (cv:=cv) (v:=v) ha
 have rb:=λH lo=>Aq (t:=t) (cv:=cv) H lo x.b hx.b
 have c:k0 .shl (.int .u64 (t.aY x.b)) (.int .u16 x.n)=some (.int .u64 ((t.aY x.b*2^x.n % mi:Nat))):=by
  rw[A4,aez (by omega)];have i: ∀k:Nat,((2:Int)^k)=((2^k:Nat):Int):=λk=>by rw[Int.natCast_pow];rfl
  rw[i,<-Int.natCast_mul,wrap64];have l:IntKind.u64.bits=64:=rfl;by_cases h:x.n<=64
  ·rw[show min ((x.n:Nat):Int).toNat IntKind.u64.bits=x.n by omega]
  ·rw[show min ((x.n:Nat):Int).toNat IntKind.u64.bits=64 by omega];have e1:t.aY x.b*2^64 % mi=0:=Nat.mul_mod_left _ _;have j:t.aY x.b*2^x.n % mi=0:=by
    obtain⟨k,g⟩:=Nat.exists_eq_add_of_le (show 64<=x.n by omega);rw[g,Nat.pow_add,<-Nat.mul_assoc,Nat.mul_right_comm];exact Nat.mul_mod_left _ _
   rw[e1,j]
 simp(disch:=omega) only[F1,go_sem,simprocAttr,Rf,d,hn,h5,h7,IL,TK,rb,c,e,b,f]
include h5 h8 hx in
theorem axv:D X0 (.fn (.func 152) [] [.ptr u5 0,.ptr u8 0]) [] ⟨H,lo⟩=some (.ret (.ax []) ⟨H.set u8 (.box [.int .i64 x.n] none),lo⟩):=by
 refine fj Rg λN c=>?_
 have b: ∀o,(H.set u8 o).take N=H.set u8 o:=λo=>aeE (by simp[c])
 have d:=hx.n;simp(disch:=omega) only[F1,go_sem,simprocAttr,Rg,c,h5,h8,IL,b]
include ha hn h5 h7 h8 hx in
theorem axw:D X0 (.fn (.func 153) [] [.ptr u7 0,.ptr u5 0,.ptr u8 0]) [] ⟨H,lo⟩=some (.ret (.ax []) ⟨H.set u8 (.box [.int .i64 ((if t.aY a≠0 then x.n else t.next+1:Nat))] none),lo⟩):=by
 refine fj KR λN c=>?_
 have b: ∀o,(H.set u8 o).take N=H.set u8 o:=λo=>aeE (by simp[c])
 have f:=hx.n;have g:2+a<=9:=by omega
 by_cases h:t.aY a=0
 ·have d: ((t.aY a:Nat):Int)=0:=by omega
  rw[aeu (by omega)];have e:H.set u8 (.box [.int .i64 ((t.next+1:Nat):Int)] none)=H:=qm h8;rw[e];simp(disch:=omega) only[F1,go_sem,simprocAttr,KR,c,hn,h5,h7,h8,IL,Vn ha,d,b]
 ·have d: ¬((t.aY a:Nat):Int)=0:=by omega
  rw[aez (by omega)];simp(disch:=omega) only[F1,go_sem,simprocAttr,KR,c,hn,h5,h7,h8,IL,Vn ha,d,b]
end
def Vq(N:Nat):List (AV×AV):=[(.int .u8 1,.fn (.func 148) [] [.ptr (N+3) 0,.ptr (N+4) 0]),(.int .u8 2,.fn (.func 149) [] [.ptr N 0,.ptr (N+3) 0,.ptr (N+4) 0]),(.int .u8 3,.fn (.func 150) [] [.ptr N 0,.ptr (N+3) 0,.ptr (N+4) 0]),(.int .u8 4,.fn (.func 151) [] [.ptr N 0,.ptr (N+3) 0,.ptr (N+4) 0]),(.int .u8 5,.fn (.func 152) [] [.ptr (N+3) 0,.ptr (N+5) 0]),(.int .u8 6,.fn (.func 153) [] [.ptr (N+4) 0,.ptr (N+3) 0,.ptr (N+5) 0])]
def oW(N k:Nat):List (AV×AV):=(Vq N).take k
theorem axx(N:Nat):ae.map []= .map (oW N 0):=rfl
def CY{N:Nat}{H:List ae}(a:H.length=N)(B:List ae)(b:B.length=6){key:Int}(d:v.refs<=N+7)(h:lU (.int .u8 key) v (oW N k)=some (oW N (k+1)))(lo:oN):
  mw ⟨H++(B++[.map (oW N k)]),lo⟩ .int (.mp (N+6)) (.int .u8 key) v=some ⟨H++(B++[.map (oW N (k+1))]),lo⟩:=by
 simp only[mw,kR,ahJ];have e: (H++(B++[ae.map (oW N k)]))[N+6]?=some (.map (oW N k)):=by grind
 simp only[e,h];have c: (H++(B++[ae.map (oW N k)])).set (N+6) (.map (oW N (k+1)))=H++(B++[.map (oW N (k+1))]):=by
  rw[aqu _ _ (by omega),aqu _ _ (by omega)];simp[a,b]
 simp only[AS.set,c]
 grind
def oX(N a:Nat):Option AV:=match a with
 |1=>some (.fn (.func 148) [] [.ptr (N+3) 0,.ptr (N+4) 0])
 |2=>some (.fn (.func 149) [] [.ptr N 0,.ptr (N+3) 0,.ptr (N+4) 0])
 |3=>some (.fn (.func 150) [] [.ptr N 0,.ptr (N+3) 0,.ptr (N+4) 0])
 |4=>some (.fn (.func 151) [] [.ptr N 0,.ptr (N+3) 0,.ptr (N+4) 0])
 |5=>some (.fn (.func 152) [] [.ptr (N+3) 0,.ptr (N+5) 0])
 |6=>some (.fn (.func 153) [] [.ptr (N+4) 0,.ptr (N+3) 0,.ptr (N+5) 0])
 |_=>none
def axy(N a:Nat):eu (.int .u8 a) (oW N 6)=some (oX N a):=by
 by_cases h:a<=6
 ·rcases(show a=0\/a=1\/a=2\/a=3\/a=4\/a=5\/a=6 by omega)with q|q|q|q|q|q|q<;>subst q<;>rfl
 ·have e:oX N a=none:=by unfold oX;grind
  rw[e];have b: ∀k:Int,k<=6->(((a:Nat):Int)==k)=false:=λk c=>by grind
  show eu (.int .u8 a) (Vq N)=some none;unfold Vq;simp only[eu,o9,ahJ,b 1 (by omega),b 2 (by omega),b 3 (by omega),b 4 (by omega),b 5 (by omega),b 6 (by omega)]
def axz{t:Task}{cv:AV}(X:Rv cv 5 (t.code.map db))(g:lQ t)(H:List ae)(lo:oN):
  D X0 (.fn (.func 102) [] []) [.agg (dc t cv)] ⟨H,lo⟩=some (.ret (.agg (dc (rF t) cv)) ⟨H,lo⟩):=by
 refine aH KG λN d=>?_
 have L:=λH lo=>Vo X g H lo
 have hw:=λH lo=>Vp X g H lo
 have U: [AV.int .u8 0,.int .u8 0,.int .u8 0,.int .u8 0,.int .u16 0]=db CX:=rfl;have G: [AV.int .u8 0,.int .u32 0,.int .u32 0,.int .u32 0,.int .u32 0,.int .u64 0]=bp mU:=rfl;have cl: ∀c,(bp c).length=6:=λ_=>rfl
 have cd: ∀c,List.drop 6 (bp c)=[]:=λ_=>rfl
 have cr: ∀c,aI (bp c)=0:=λ_=>rfl
 have a:=λt:Task=>GP (t:=t) (cL X (bB (λ_=>rfl) _))
 have hnx:=g.next;unfold rF;cases s: (iE t).2 with
 |true=>
  rw[s]at hw;rw[aez rfl];simp only[F1,go_sem,simprocAttr,KG,d,TK,hw,G,cl,cd,cr,a]
 |false=>
  rw[s]at hw;rw[aeu (by simp)];cases V:rE t with
  |none=>
   have: (iE t).2=true:=by unfold iE;rw[V]
   rw[s]at this;cases this
  |some x=>
   unfold GR at L;rw[V]at L;simp only[ala,avm]at L;have ho:=GS g V;have i:x.a % 8<8:=by omega
   have hb: (0:Int)<=(x.a % 8:Nat)/\ ((x.a % 8:Nat):Int)<8:=by omega
   obtain⟨B,hB⟩: ∃B:List ae,B=[.box (dc t cv) none,.box [.aq,.int .i64 0,.int .u64 0,.int .u64 0,.int .u64 0,.int .u64 0,.int .u64 0,.int .u64 0,.int .u64 0,.int .u64 0] none,.box (bp (iE t).1) none,.box (db x) none,.box [.ptr N (2+x.a % 8)] none,.box [.int .i64 ((t.next:Int)+1)] none]:=⟨_,rfl⟩;have hm:=axx N;have l4:N<=N+4:=by omega
   have S:=CY (k:=0) (key:=1) (v:=.fn (.func 148) [] [.ptr (N+3) 0,.ptr (N+4) 0]) d B (by rw[hB];rfl) (by simp[AV.refs,aI]) rfl;have R:=CY (k:=1) (key:=2) (v:=.fn (.func 149) [] [.ptr N 0,.ptr (N+3) 0,.ptr (N+4) 0]) d B (by rw[hB];rfl) (by simp[AV.refs,aI]) rfl;have Q:=CY (k:=2) (key:=3) (v:=.fn (.func 150) [] [.ptr N 0,.ptr (N+3) 0,.ptr (N+4) 0]) d B (by rw[hB];rfl) (by simp[AV.refs,aI]) rfl;have P:=CY (k:=3) (key:=4) (v:=.fn (.func 151) [] [.ptr N 0,.ptr (N+3) 0,.ptr (N+4) 0]) d B (by rw[hB];rfl) (by simp[AV.refs,aI]) rfl;have O:=CY (k:=4) (key:=5) (v:=.fn (.func 152) [] [.ptr (N+3) 0,.ptr (N+5) 0]) d B (by rw[hB];rfl) (by simp[AV.refs,aI]) rfl;have M:=CY (k:=5) (key:=6) (v:=.fn (.func 153) [] [.ptr (N+4) 0,.ptr (N+3) 0,.ptr (N+5) 0]) d B (by rw[hB];rfl) (by simp[AV.refs,aI]) rfl;rw[hB]at S R Q P O M;simp only[ahY,ah1]at S R Q P O M;simp(disch:=omega) only[go_sem,simprocAttr,KG,d,TK,hw,L,IL,U,G,cl,cd,cr,alC,hb,hm,l4,S,R,Q,P,O,M];have Y: ∀E:AS,E.heap[N+6]?=some (.map (oW N 6))->jx X0.fV E .int .du (.mp (N+6)) (.int .u8 x.op) true=some (match oX N x.op with|some v=>.ax [v,.bool true]|none=>.ax [.du,.bool false]):=by
    intro E h;simp only[jx,kR,ahJ,mapOf,h,axy];cases oX N x.op<;>rfl
   rw[Y _ (by rw[bA d];rfl)];obtain⟨W,u⟩: ∃W,W=H++[.box (dc t cv) none,.box [.aq,.int .i64 0,.int .u64 0,.int .u64 0,.int .u64 0,.int .u64 0,.int .u64 0,.int .u64 0,.int .u64 0,.int .u64 0] none,.box (bp (iE t).1) none,.box (db x) none,.box [.ptr N (2+x.a % 8)] none,.box [.int .i64 ((t.next:Int)+1)] none,.map (oW N 6)]:=⟨_,rfl⟩;have w0:W[N]?=some (.box (dc t cv) none):=by rw[u,dq d];rfl
   have w1:W[N+1]?=some (.box [.aq,.int .i64 0,.int .u64 0,.int .u64 0,.int .u64 0,.int .u64 0,.int .u64 0,.int .u64 0,.int .u64 0,.int .u64 0] none):=by rw[u,bA d];rfl
   have y:W[N+3]?=some (.box (db x) none):=by rw[u,bA d];rfl
   have C:W[N+4]?=some (.box [.ptr N (2+x.a % 8)] none):=by rw[u,bA d];rfl
   have A:W[N+5]?=some (.box [.int .i64 ((t.next:Int)+1)] none):=by rw[u,bA d];rfl
   have wt:W.take N=H:=by rw[u,kj d]
   rw[<-u];have I:=λo=>cQ (o:=o) w0
   have f: ∀o,(W.set N o)[N+1]?=_:=λo=>(acG (by omega)).trans w1
   have m: ∀o,(W.set N o)[N+5]?=_:=λo=>(acG (by omega)).trans A
   have g5:=λo=>cQ (o:=o) A
   have w: ∀o,(W.set (N+5) o)[N]?=_:=λo=>(acG (by omega)).trans w0
   have Z: ∀o,(W.set (N+5) o)[N+1]?=_:=λo=>(acG (by omega)).trans w1
   have q:=λo o'=>cQ (o:=o') (w o)
   have l: ∀o o',((W.set (N+5) o).set N o')[N+1]?=_:=λo o'=>(acG (by omega)).trans (Z o)
   have b:=λo o'=>cQ (o:=o') (f o)
   have j:=λo o' J=>cQ (o:=J) (l o o')
   have t0: ∀o o',((W.set N o).set (N+1) o').take N=H:=λo o'=>by rw[aqK (by omega),aqK (by omega),wt]
   have t5: ∀o o' J,(((W.set (N+5) o).set N o').set (N+1) J).take N=H:=λo o' J=>by rw[aqK (by omega),aqK (by omega),aqK (by omega),wt]
   have s1: ∀ (t:Task) (n:Nat),aJ (dc t cv) 1 [.int .i64 ((n:Int)+1)]=dc {t with next:=n+1} cv:=λ_ _=>rfl
   have t10: ∀t:Task,List.take 10 (dc t cv)=dc t cv:=λ_=>rfl
   have c1:=λlo=>axr ho i w0 y C lo
   have c2:=λlo=>axs ho i w0 y C lo
   have c3:=λlo=>axt g ho i w0 y C lo
   have c4:=λlo=>axu ho i w0 y C lo
   have c5:=λlo=>axv ho y A lo
   have c6:=λlo=>axw ho i w0 y C A lo
   have eb:x.b % 8=x.b:=ane ho.b;have ec:x.c % 8=x.c:=ane ho.c;rw[eb,ec];by_cases p:x.op=1
   ·rw[aez p,p];simp only[oX];simp only[F1,go_sem,simprocAttr,c1,I,f,m,b,t0,alY,TK,s1,t10,a]
   ·by_cases r:x.op=2
    ·rw[aeu p,aez r,r];simp only[oX];simp only[F1,go_sem,simprocAttr,c2,I,f,m,b,t0,alY,TK,s1,t10,a]
    ·by_cases z:x.op=3
     ·rw[aeu p,aeu r,aez z,z];simp only[oX];simp only[F1,go_sem,simprocAttr,c3,I,f,m,b,t0,alY,TK,s1,t10,a]
     ·by_cases F:x.op=4
      ·rw[aeu p,aeu r,aeu z,aez F,F];simp only[oX];simp only[F1,go_sem,simprocAttr,c4,I,f,m,b,t0,alY,TK,s1,t10,a]
      ·by_cases K:x.op=5
       ·rw[aeu p,aeu r,aeu z,aeu F,aez K,K];simp only[oX];simp only[F1,go_sem,simprocAttr,c5,g5,w,q,l,j,t5,TK,t10,a]
       ·by_cases T:x.op=6
        ·rw[aeu p,aeu r,aeu z,aeu F,aeu K,aez T,T];simp only[oX];simp only[F1,go_sem,simprocAttr,c6,g5,w,q,l,j,t5,TK,t10,a]
        ·rw[aeu p,aeu r,aeu z,aeu F,aeu K,aeu T];have e:oX N x.op=none:=by unfold oX;split<;>first|omega|rfl
         rw[e];simp only[F1,go_sem,simprocAttr,w0,A,I,f,b,t0,TK,s1,t10,a]
instance:Inhabited dU:=⟨CX⟩
def axA(v fv:AV)(l:List dU)(H:List ae)(c:Rd ⟨H,none⟩ v 5 (l.map db))(s:l.length<2147483648)(p:dU->Bool)(lo:oN)
  (q: ∀x∈l,D X0 fv [.agg (db x)] ⟨H,none⟩=some (.ret (.bool (p x)) ⟨H,none⟩)):D X0 (.fn (.func 183) [] []) [v,fv] ⟨H,lo⟩=some (.ret (.int .i64 (kM p l)) ⟨H,lo⟩):=by
 refine aH Ru λN w=>?_
 simp only[go_sem,simprocAttr,Ru,c.bJ];refine dQ l.length (λk e H'=>H'=H/\e 0=v/\e 1=fv/\e 7= .int .i64 l.length/\e 8= .int .i64 k/\ ∀j,j<k->p (l.getD j default)=false) 0 (by omega) ?_ ?_
 ·simp only[go_sem,simprocAttr];omega
 ·rintro k t e H' ⟨rfl,o,m,i,g,d⟩ n r;simp(disch:=omega) only[bO,F1,go_sem,simprocAttr,afM,o,m,i,g];refine⟨λh=>?_,λh=>?_⟩
  ·have a:k<l.length:=by omega
   have b: ∀x,Den.part true 5 (db x) 0=some (.agg (db x)):=λ_=>rfl
   simp(disch:=omega) only[go_sem,simprocAttr,c.bW,c.cp,↓b,q _ (dY a)];refine⟨by omega,?_⟩;cases f:p (l.getD k default)
   ·simp(disch:=omega) only[go_sem,simprocAttr,o,m,i,g];exact⟨a,nF d f⟩
   ·simp(disch:=omega) only[F1,go_sem,simprocAttr];rw[zV a d f]
  ·rw[zW (λj u=>d j (by omega))]
def axB(v fv:AV)(l:List dU)(H:List ae)(a:Rd ⟨H,none⟩ v 5 (l.map db))(b:l.length<2147483648)(p:dU->Bool)(lo:oN)
  (c: ∀x∈l,D X0 fv [.agg (db x)] ⟨H,none⟩=some (.ret (.bool (p x)) ⟨H,none⟩)):D X0 (.fn (.func 163) [] []) [v,fv] ⟨H,lo⟩=some (.ret (.bool (l.any p)) ⟨H,lo⟩):=by
 refine aH Rm λN d=>?_
 simp(disch:=omega) only[F1,go_sem,simprocAttr,Rm,axA v fv l H a b p none c,zU]
def axC(x:dU)(n:Nat)(f:x.op<256/\x.a<256/\x.b<256/\x.c<256/\x.n<65536)(k:n<2147483648)(H:List ae)(lo:oN):
  D X0 (.fn (.func 165) [] []) [.agg (db x),.int .i64 n] ⟨H,lo⟩=some (.ret (.bool (rC x n)) ⟨H,lo⟩):=by
 refine aH Ro λN g=>?_
 obtain⟨q,p,o,m,l⟩:=f;simp only[go_sem,simprocAttr,Ro,g,IL];refine wz 5 (.bool (decide (16<x.op)&&decide (x.op<=38))) [1,2] rfl rfl ?_ λr=>?_
 ·simp(disch:=omega) only[R4,go_sem,simprocAttr,IL]
  (repeat' (first|apply And.intro|intro _))
  all_goals(refine ahX AV.bool (aon.2 ?_);simp[];try(intros;omega))
 simp(disch:=omega) only[go_sem,simprocAttr,IL];refine wz 6 (.bool (decide (x.op=5)||decide (x.op=6))) [1,2,5] rfl rfl ?_ λe1=>?_
 ·simp(disch:=omega) only[R4,go_sem,simprocAttr,IL]
  (repeat' (first|apply And.intro|intro _))
  all_goals(refine ahX AV.bool (aon.2 ?_);simp[];try(intros;omega))
 have a:gx qE [.int .u8 (x.a:Nat),.int .u8 (x.b:Nat),.int .u8 (x.c:Nat)]=some (.int .u8 ((max (max x.a x.b) x.c:Nat))):=by
  have e:gx qE [.int .u8 (x.a:Nat),.int .u8 (x.b:Nat),.int .u8 (x.c:Nat)]=some (.int .u8 (if(x.c:Int)>(if(x.b:Int)>x.a then(x.b:Int)else x.a)then(x.c:Int)else(if(x.b:Int)>x.a then(x.b:Int)else x.a))):=by simp[gx,qE]
  rw[e];congr 2;split<;>split<;>omega
 have b:decide (((max (max x.a x.b) x.c:Nat):Int)<8)=decide (x.a<8/\x.b<8/\x.c<8):=agv.2 (by omega);have d:decide ((x.op:Int)<=6)=decide (x.op<=6):=agv.2 (by omega);have c:decide ((x.n:Int)<n)=decide (x.n<n):=agv.2 (by omega);unfold rC;generalize decide (x.op<=6)=j at*;generalize decide (x.a<8/\x.b<8/\x.c<8)=i at*;generalize decide (x.n<n)=h at*;generalize(decide (16<x.op)&&decide (x.op<=38))=A at*;generalize(decide (x.op=5)||decide (x.op=6))=J at*;cases j<;>cases A<;>cases i<;>cases J<;>cases h<;>simp(disch:=omega) only[F1,go_sem,simprocAttr,IL,d,a,b,c,Bool.or_false,axU,aqy,Bool.or_true,asJ,axg]
def axD(v:AV)(l:List dU)(p:l.length<2147483648)(q: ∀x∈l,x.op<256/\x.a<256/\x.b<256/\x.c<256/\x.n<65536)(N:Nat)(H:List ae)(f:Rd ⟨H,none⟩ v 5 (l.map db))(lo:oN)(r:v.refs<=H.length)(t:v.cq=false/\v.cells=[v]):
  D X0 (.fn (.func 136) [] []) [v] ⟨H,lo⟩=some (.ret (.bool (qi l)) ⟨H,lo⟩):=by
 refine aH KM λN m=>?_
 have b: ∀lo,od ⟨H,lo⟩ v none=some (.ptr N 0,⟨H++[.box [v] none],lo⟩):=λlo=>by
  have s:=f.kind;subst m;cases v<;>simp only[]at s<;>rfl
 have g:=f.bJ;have a:Rd ⟨H++[.box [v] none],none⟩ v 5 (l.map db):=f.ext;have j:=axB v (.fn (.func 164) [] [.ptr N 0]) l (H++[.box [v] none]) a p (λx=>!rC x l.length) none (λx h=>by
  refine fj Rn λM n=>?_
  have k: ∀L,(H++(.box [v] none::L))[N]?=some (.box [v] none):=λL=>by rw[dq m];rfl
  have i: ∀L,fX ⟨H++(.box [v] none::L),none⟩ .sl v=some (.int .i64 l.length):=λL=>Rd.bJ (f.ext (L:=.box [v] none::L))
  have hm:=λH lo=>axC x l.length (q x h) p H lo
  have c: ∀x,Den.part true 5 (db x) 0=some (.agg (db x)):=λ_=>rfl
  obtain rfl:M=N+1:=by rw[<-n];simp[m]
  simp(disch:=omega) only[F1,go_sem,simprocAttr,Rn,n,↓c,k,i,hm];refine dk rfl ?_;have e:H++[ae.box [v] none,.box (db x) none]=(H++[.box [v] none])++[.box (db x) none]:=by simp
  rw[e,aop n])
 unfold qi;by_cases d:l.length<=64
 ·have o: ((l.length:Nat):Int)<=64:=by omega
  rw[aeD d,alk];simp(disch:=omega) only[F1,go_sem,simprocAttr,KM,b,a.bJ,o,j];rw[axT]
 ·have o: ¬((l.length:Nat):Int)<=64:=by omega
  rw[aeC d,ahM];simp(disch:=omega) only[F1,go_sem,simprocAttr,KM,b,a.bJ,o]
def qx(l:lB):dU:=⟨(l.getD 0 0).toNat,(l.getD 1 0).toNat,(l.getD 2 0).toNat,(l.getD 3 0).toNat,(l.getD 4 0).toNat+256*(l.getD 5 0).toNat⟩
def axE{s:lB}(h:k+6<=s.length):rD (s.drop k)=qx (s.drop k)::rD (s.drop (k+6)):=by
 have e:s.drop (k+6)=(s.drop k).drop 6:=by simp
 rw[e];have g:6<=(s.drop k).length:=by grind
 generalize s.drop k=l at*
 match l,g with
 |a::b::c::d::e::f::r,_=>rfl
def axF(e f:Nat)(a:e<256)(d:f<256):dp .or (.int .u16 e) (.int .u16 ((f*256:Nat)))=some (.int .u16 ((e+256*f:Nat))):=by
 rw[Il];have e1: ∀n:Nat,n<65536->(BitVec.ofInt IntKind.u16.bits (n:Int)).toNat=n:=by
  have:IntKind.u16.bits=16:=rfl
  grind
 have c:e|||f*256=e+256*f:=by
  have:=Nat.shiftLeft_add_eq_or_of_lt (b:=e) (i:=8) a f;rw[Nat.shiftLeft_eq]at this
  grind
 rw[BitVec.toNat_or,e1 e (by omega),e1 (f*256) (by omega),c];have:IntKind.wrap .u16 ((e+256*f:Nat):Int)=((e+256*f:Nat):Int):=by
  unfold IntKind.wrap IntKind.bits IntKind.signed;grind
 rw[this]
def axG(f:Nat)(a:f<256):k0 .shl (.int .u16 f) (.int .u64 8)=some (.int .u16 ((f*256:Nat))):=by
 rw[A4,aez (by omega)];have:IntKind.wrap .u16 ((f:Int)*2^(min (8:Int).toNat IntKind.u16.bits))=((f*256:Nat):Int):=by
  have h:min (8:Int).toNat IntKind.u16.bits=8:=rfl;rw[h];unfold IntKind.wrap IntKind.bits IntKind.signed;grind
 rw[this]
def axH{H:List ae}{n:Nat}{s:lB}(k:H[n]?=some (.box [.int .u8 0,.int .u8 0,.int .u8 0,.int .u8 0,.int .u8 0,.int .u8 0] none))(j:6<=s.length):
  rW ⟨H,lo⟩ 1 (.fw n 1 0 6) (S s)=some (.int .i64 6,⟨H.set n (.box [.int .u8 (s.getD 0 0).toNat,.int .u8 (s.getD 1 0).toNat,.int .u8 (s.getD 2 0).toNat,.int .u8 (s.getD 3 0).toNat,.int .u8 (s.getD 4 0).toNat,.int .u8 (s.getD 5 0).toNat] none),lo⟩):=by
 match s,j with
 |a::b::c::d::e::f::r,_=>
  have l:Df ⟨H,lo⟩ 1 (S (a::b::c::d::e::f::r))=some ((a::b::c::d::e::f::r).map λx=>[.int .u8 x.toNat]):=by
   simp only[Df,S,ahJ];rfl
  have i:cb ((a::b::c::d::e::f::r).map λx:UInt8=>[AV.int .u8 x.toNat])=0:=bB (g:=λx:UInt8=>[AV.int .u8 x.toNat]) (λ_=>rfl) _;have h: ((a::b::c::d::e::f::r).map λx:UInt8=>[AV.int .u8 x.toNat]).all (λel=>el.length==1)=true:=by simp
  have m: ((a::b::c::d::e::f::r).map λx:UInt8=>[AV.int .u8 x.toNat]).length.min 6=6:=by
   show min _ 6=6;simp
  simp only[rW,l,k,m,i,AS.set,h];rw[aez ⟨trivial,by decide,trivial⟩,aez (ae4 _)];rfl
def axI(l:lB): (qx l).op<256/\ (qx l).a<256/\ (qx l).b<256/\ (qx l).c<256/\ (qx l).n<65536:=by
 have h: ∀u:UInt8,u.toNat<256:=λu=>u.toNat_lt
 refine⟨h _,h _,h _,h _,?_⟩;have b:=h (l.getD 4 0);have a:=h (l.getD 5 0);show(l.getD 4 0).toNat+256*(l.getD 5 0).toNat<65536;omega
def gP(s:lB)(k:Nat):List dU:=(List.range k).map λi=>qx (s.drop (6*i))
def Vr(s:lB)(k:Nat):gP s (k+1)=gP s k++[qx (s.drop (6*k))]:=by unfold gP;rw[aqD,agp];rfl
theorem alD{s:lB}: ∀m k,6*(k+m)=s.length->gP s k++rD (s.drop (6*k))=gP s (k+m)
 |0,k,h=>by
  have:s.drop (6*k)=[]:=ah2 (by omega);rw[this];simp[rD]
 |m+1,k,h=>by
  have hle:6*k+6<=s.length:=by omega
  rw[axE hle];have:=alD (s:=s) m (k+1) (by omega);rw[Vr]at this
  grind
def alE{s:lB}(h:s.length % 6=0):rD s=gP s (s.length/6):=by
 have:=alD (s:=s) (s.length/6) 0 (by omega);simpa[gP]using this
def alF(s:lB)(H:List ae)(lo:oN):
  ∃v,D X0 (.fn (.func 93) [] []) [S s] ⟨H,lo⟩=some (.ret (.ax [v,.int .i64 (if(decode s).isSome then 0 else 3:Nat)]) ⟨H,lo⟩)/\Rv v 5 (((decode s).getD []).map db):=by
 suffices B: ∃o,D X0 (.fn (.func 93) [] []) [S s] ⟨H,lo⟩=some o/\ (λo=> ∃v,o=aX.ret (.ax [v,.int .i64 (if(decode s).isSome then 0 else 3:Nat)]) ⟨H,lo⟩/\Rv v 5 (((decode s).getD []).map db)) o by grind
 refine cA Fy λN A=>?_
 have tm: ((s.length:Nat):Int).tmod 6=((s.length % 6:Nat):Int):=by rfl
 by_cases G:s.length % 6=0
 ·have c:decide (((s.length % 6:Nat):Int)=0)=true:=aeD (by omega);by_cases T:s.length<=384
  ·have g: ¬((s.length:Nat):Int)>384:=by omega
   simp only[go_sem,simprocAttr,Fy,tm,c,g];refine dQ (s.length/6) (λk e W=>e 0=S (s.drop (6*k))/\H<+:W/\aP N W (e 4) 5 aeW ((gP s k).map db)) 0 (by omega) ?_ ?_
   ·simp only[go_sem,simprocAttr];exact⟨aq8,aP.aq⟩
   rintro k R e W ⟨d,a,h⟩ n C;have K: (s.drop (6*k)).length=s.length-6*k:=amM ..;simp only[bO,go_sem,simprocAttr,afz,d,C];refine⟨λO=>?_,λO=>?_⟩
   ·have f:k<s.length/6:=by omega
    have P:6<=(s.drop (6*k)).length:=by omega
    have z:=λlo=>axH (lo:=lo) (H:=W++[.box [.int .u8 0,.int .u8 0,.int .u8 0,.int .u8 0,.int .u8 0,.int .u8 0] none]) (n:=n) (s:=s.drop (6*k)) (by rw[dq C];rfl) P
    have r:uB (S (s.drop (6*k))) (some (.int .i64 6)) none=some (S (s.drop (6*(k+1)))):=by
     rw[Im,aez ⟨by omega,by omega⟩,ao5];rfl
    have E:qx (s.drop (6*k))=qx (s.drop (6*k)):=rfl;have F: ∀j,((s.drop (6*k)).getD j 0).toNat<256:=λj=>UInt8.toNat_lt _
    have Q:=F 4;have I:=F 5;have w:=axF _ _ Q I;have t:=axG _ I;simp(disch:=omega) only[go_sem,simprocAttr,d,ako,z,w,t];have l: (gP s k).length=k:=by simp[gP]
    refine pE (N:=N) (H0:=H) (bytes:=6) (ys:=[db (qx (s.drop (6*k)))]) h.ext (a.trans (aok _ _)) A (by omega) (by intro el y;rw[ae5.1 y];rfl) rfl (by rw[ae3,l];show(k+1)*6<=room;unfold room;omega) λv' U p u=>?_
    simp only[go_sem,simprocAttr,d,r];refine⟨f,u,?_⟩;rw[Vr,agp];exact p
   ·have f:k=s.length/6:=by omega
    have m:rD s=gP s k:=by rw[f];exact alE G
    have l: (gP s k).length=k:=by simp[gP]
    have b:=λlo=>axD (e 4) (gP s k) (by omega) (λx B=>by
     obtain⟨i,_,rfl⟩:=ago.1 B;exact axI _) 0 W (iZ h none) lo (by
     rcases h.2 with⟨q,_⟩| ⟨id,aj,_,q,J⟩
     ·rw[q];exact ae4 _
     ·rw[q];have:=dZ J;simp only[AV.refs];omega) (nL (iZ h none))
    have d:decode s=if qi (gP s k)then some (gP s k)else none:=by unfold decode;rw[aeu (by omega),m]
    rw[d];cases hm:qi (gP s k)with
    |true=>
     rw[hm]at b;simp only[go_sem,simprocAttr,b];rw[h.adS (by rw[bB (λ_=>rfl)];omega) (ae4 _)];exact⟨_,dk rfl (lL A λi M=>by obtain⟨L,rfl⟩:=a;rw[acK (by omega)]),aP.pG h⟩
    |false=>
     rw[hm]at b;simp only[go_sem,simprocAttr,b];rw[oR rfl];exact⟨.aq,dk rfl (lL A λi M=>by obtain⟨L,rfl⟩:=a;rw[acK (by omega)]),.aq⟩
  ·have g: ((s.length:Nat):Int)>384:=by omega
   have d:decode s=none:=by unfold decode;rw[aez (.inr (by omega))]
   rw[d];simp(disch:=omega) only[F1,go_sem,simprocAttr,Fy,tm,c,g];exact⟨.aq,rfl,.aq⟩
 ·have c:decide (((s.length % 6:Nat):Int)=0)=false:=aeC (by omega);have d:decode s=none:=by unfold decode;rw[aez (.inl G)]
  rw[d];simp(disch:=omega) only[F1,go_sem,simprocAttr,Fy,tm,c];exact⟨.aq,rfl,.aq⟩
def axJ(b:UInt8)(H:List ae)(lo:oN):D X0 (.fn (.func 97) [] []) [.int .u8 b.toNat] ⟨H,lo⟩=some (.ret (.bool (lJ b.toNat)) ⟨H,lo⟩):=by
 refine aH QX λN h=>?_
 generalize b.toNat=n at*;have e1:decide ((n:Int)<8)=decide (n<8):=agv.2 (by omega);have c:decide ((n:Int)=8)=decide (n=8):=agv.2 (by omega);have e3:decide (16<=(n:Int))=decide (16<=n):=agv.2 (by omega);have a:decide ((n:Int)<24)=decide (n<24):=agv.2 (by omega);unfold lJ;generalize decide (n<8)=g at*;generalize decide (n=8)=f at*;generalize decide (16<=n)=e at*;generalize decide (n<24)=d at*;cases g<;>cases f<;>cases e<;>cases d<;>simp(disch:=omega) only[F1,go_sem,simprocAttr,QX,e1,c,e3,a,Bool.or_false,axU,aqy,Bool.or_true]
def axK(p:lB)(H:List ae)(lo:oN):D X0 (.fn (.func 92) [] []) [S p] ⟨H,lo⟩=some (.ret (.bool (!(decode p).isSome)) ⟨H,lo⟩):=by
 refine aH KE λN b=>?_
 obtain⟨v,d1,_⟩:=alF p H none;cases a: (decode p).isSome with
 |true=>
  rw[a]at d1;simp(disch:=omega) only[F1,go_sem,simprocAttr,KE,d1]
 |false=>
  rw[a]at d1;simp(disch:=omega) only[F1,go_sem,simprocAttr,KE,d1]
def axL(b:UInt8)(H:List ae)(lo:oN):D X0 (.fn (.func 96) [] []) [.int .u8 b.toNat] ⟨H,lo⟩=some (.ret (.bool (!lJ b.toNat)) ⟨H,lo⟩):=by
 refine aH QW λN a=>?_
 simp(disch:=omega) only[F1,go_sem,simprocAttr,QW,axJ]
structure GU(aL:Int)(aF:List lB)(aK:lB)(pv kv:AV):Prop where
 pr:Rv pv 1 (aF.map sC)
 pk:Rv kv 1 (aK.map bC)
 np:aF.length<1099511627776
 nk:aK.length<1099511627776
def axM{a:Int}{aF:List lB}{aK:lB}{pv kv:AV}(h:GU a aF aK pv kv)(n: -9223372036854775808<=a/\a<9223372036854775808)(H:List ae)(lo:oN):
  D X0 (.fn (.func 62) [] []) [.agg [.int .i64 a,pv,kv]] ⟨H,lo⟩=some (.ret (.bool (nE ⟨a,aF,aK.map UInt8.toNat⟩)) ⟨H,lo⟩):=by
 refine aH QI λN r=>?_
 have o:=cL h.pr (bB (λ_=>rfl) _);have q:=cL h.pk (bB (λ_=>rfl) _);have c:=λH lo=>asu pv (.fn (.func 92) [] []) aF h.pr h.np (λp=>!(decode p).isSome) H lo (λx _=>axK x H none)
 have d:=λH lo=>ass kv (.fn (.func 96) [] []) aK h.pk h.nk (λb=>!lJ b.toNat) H lo (λx _=>axL x H none)
 have m: (!aF.any λp=>!(decode p).isSome)=aF.all λp=>(decode p).isSome:=axT.symm
 have l: (!aK.any λb=>!lJ b.toNat)=aK.all λb=>lJ b.toNat:=axT.symm
 have k:nE ⟨a,aF,aK.map UInt8.toNat⟩=(decide (1<=a/\a<=64/\1<=aF.length/\aF.length<=8/\aK.length<=4000)&&aF.all (λp=>(decode p).isSome)&&aK.all λb=>lJ b.toNat):=by
  unfold nE;simp only[ae3,List.all_map];rfl
 have e1:decide (1<=a/\a<=64/\1<=aF.length/\aF.length<=8/\aK.length<=4000)=(!decide (a<1)&& !decide (64<a)&& !decide ((aF.length:Int)<1)&& !decide (8< (aF.length:Int))&& !decide (4000< (aK.length:Int))):=by
  rw[aon];simp;omega
 rw[k,e1,<-m,<-l];generalize j:decide (a<1)=z;generalize i:decide (64<a)=y;generalize g:decide ((aF.length:Int)<1)=w;generalize f:decide (8< (aF.length:Int))=v;generalize e:decide (4000< (aK.length:Int))=u;generalize(aF.any λp=>!(decode p).isSome)=t at*;generalize(aK.any λb=>!lJ b.toNat)=s at*;clear m l k e1;cases z<;>cases y<;>cases w<;>cases v<;>cases u<;>simp only[F1,go_sem,simprocAttr,QI,r,h.pr.bJ,h.pk.bJ,j,i,g,f,e,ahM,aqy,asJ,axg,axU,alk];cases t<;>cases s<;>simp(disch:=omega) only[F1,go_sem,simprocAttr,c,d,aqy,asJ,axg,axU]
def axN(p:lB)(H:List ae)(lo:oN):
  ∃cv,D X0 (.fn (.func 64) [] []) [S p] ⟨H,lo⟩=some (.ret (.ax [.agg (dc {ub with code:=(decode p).getD []} cv),.int .i64 (if(decode p).isSome then 0 else 3:Nat)]) ⟨H,lo⟩)/\Rv cv 5 (((decode p).getD []).map db):=by
 obtain⟨N,c⟩: ∃N,H.length=N:=⟨_,rfl⟩;obtain⟨v,d1,d2⟩:=alF p (H++[.box [.aq,.int .i64 0,.int .u64 0,.int .u64 0,.int .u64 0,.int .u64 0,.int .u64 0,.int .u64 0,.int .u64 0,.int .u64 0] none]) none;have a:=cL d2 (bB (λ_=>rfl) _);obtain⟨t1,t2⟩:=nL (d2 ⟨[],none⟩);cases b:decode p with
 |some l=>
  rw[b]at d1 d2;refine⟨v,?_,d2⟩;refine aH Fp λM d=>?_
  obtain rfl:M=N:=by omega
  simp only[F1,go_sem,simprocAttr,Fp,c,d1,t1,t2,a,pJ];rfl
 |none=>
  rw[b]at d1 d2;simp only[avn,agm,ajc]at d1;refine⟨.aq,?_,.aq⟩;refine aH Fp λM d=>?_
  obtain rfl:M=N:=by omega
  simp only[F1,go_sem,simprocAttr,Fp,c,d1,pJ];rfl
def xL(r:Runner)(cv rv:AV):lA:=dc r.t cv++(bN r.c rv++[.bool r.busy,.int .i64 r.fr])
def cE(e:Event):lA:=[.int .i64 e.aa]++(bp e.c++(aA e.run++(bH e.r++[.int .i64 e.fr,.int .i64 e.to])))
def cJ(m:aW)(p:Nat)(aE aO:Nat->AV)(ev:AV):lA:=[.ptr p 0]++(arr 8 (λi=>xL (m.aB i) (aE i) (aO i))++[.int .i64 m.now,ev])
section
variable{m:aW}{p:Nat}{aE aO:Nat->AV}{ev:AV}{i:Nat}
theorem MZ: (arr 8 (λi=>xL (m.aB i) (aE i) (aO i))).length=192:=by rfl
theorem oY: (cJ m p aE aO ev).length=195:=by rfl
def GV{ag:Bool}{o:Nat}(h:i<8)(ho:o+k<=24)(a:0<k):Den.part ag k (cJ m p aE aO ev) (1+i*24+o)=Den.part ag k (xL (m.aB i) (aE i) (aO i)) o:=by
 unfold cJ;rw[jY (by grind),show 1+i*24+o- [AV.ptr p 0].length=i*24+o by grind,mK (by rw[MZ];omega) a];exact jG (k:=24) (f:=λi=>xL (m.aB i) (aE i) (aO i)) (λ_=>rfl) h ho a
theorem qy: (cJ m p aE aO ev)[0]?=some (.ptr p 0):=rfl
theorem Ar: (cJ m p aE aO ev)[193]?=some (.int .i64 m.now):=by rfl
theorem Vs: (cJ m p aE aO ev)[194]?=some ev:=by rfl
def xM(h:i<8): (cJ m p aE aO ev)[1+i*24+22]?=some (.bool (m.aB i).busy):=GV (ag:=false) (k:=1) h (by omega) (by omega)
def axO(h:i<8): (cJ m p aE aO ev)[1+i*24+23]?=some (.int .i64 (m.aB i).fr):=GV (ag:=false) (k:=1) h (by omega) (by omega)
def M3(h:i<8):Den.part true 10 (cJ m p aE aO ev) (1+i*24)=some (.agg (dc (m.aB i).t (aE i))):=GV (o:=0) h (by omega) (by omega)
def CZ(h:i<8):Den.part true 12 (cJ m p aE aO ev) (1+i*24+10)=some (.agg (bN (m.aB i).c (aO i))):=GV h (by omega) (by omega)
def M4(h:i<8):Den.part true 2 (cJ m p aE aO ev) (1+i*24+19)=some (.agg (aA (m.aB i).c.run)):=GV h (by omega) (by omega)
theorem alG{n:Nat}:aJ (cJ m p aE aO ev) 193 [.int .i64 n]=cJ {m with now:=n} p aE aO ev:=by rfl
def alH:aJ (cJ m p aE aO ev) 194 [v]=cJ m p aE aO v:=by
 unfold cJ;rw[fy (by simp),fy (by rw[MZ];simp),MZ];rfl
def GW{o:Nat}{vs:lA}{r:Runner}{cv:AV}(h:i<8)(ho:o+vs.length<=24)(a:aJ (xL (m.aB i) (aE i) (aO i)) o vs=xL r cv rv):
  aJ (cJ m p aE aO ev) (1+i*24+o) vs=cJ {m with aB:=au m.aB i r} p (au aE i cv) (au aO i rv) ev:=by
 unfold cJ;rw[fy (by grind),show 1+i*24+o- [AV.ptr p 0].length=i*24+o by grind,nr (by rw[MZ];omega),ln (k:=24) (f:=λi=>xL (m.aB i) (aE i) (aO i)) (λ_=>rfl) h ho,a]
 congr 2
 refine vm λj _=>?_
 by_cases e:j=i
 ·subst e;simp only[cw]
 ·simp only[cR e]
def Vt{b:Bool}(h:i<8):aJ (cJ m p aE aO ev) (1+i*24+22) [.bool b]=cJ {m with aB:=au m.aB i {m.aB i with busy:=b}} p aE aO ev:=by
 have:=GW (m:=m) (p:=p) (aE:=aE) (aO:=aO) (ev:=ev) (o:=22) (vs:=[.bool b]) (r:={m.aB i with busy:=b}) (cv:=aE i) (rv:=aO i) h (by simp) rfl;rwa[mJ,mJ]at this
def axP{n:Nat}(h:i<8):aJ (cJ m p aE aO ev) (1+i*24+23) [.int .i64 n]=cJ {m with aB:=au m.aB i {m.aB i with fr:=n}} p aE aO ev:=by
 have:=GW (m:=m) (p:=p) (aE:=aE) (aO:=aO) (ev:=ev) (o:=23) (vs:=[.int .i64 n]) (r:={m.aB i with fr:=n}) (cv:=aE i) (rv:=aO i) h (by simp) rfl;rwa[mJ,mJ]at this
def alI{t:Task}(h:i<8):aJ (cJ m p aE aO ev) (1+i*24) (dc t (aE i))=cJ {m with aB:=au m.aB i {m.aB i with t:=t}} p aE aO ev:=by
 have:=GW (m:=m) (p:=p) (aE:=aE) (aO:=aO) (ev:=ev) (o:=0) (vs:=dc t (aE i)) (r:={m.aB i with t:=t}) (cv:=aE i) (rv:=aO i) h (by rw[xK];omega) rfl;rwa[mJ,mJ]at this
def As{c:Call}(h:i<8):aJ (cJ m p aE aO ev) (1+i*24+10) (bN c rv)=cJ {m with aB:=au m.aB i {m.aB i with c:=c}} p aE (au aO i rv) ev:=by
 have:=GW (m:=m) (p:=p) (aE:=aE) (aO:=aO) (ev:=ev) (o:=10) (vs:=bN c rv) (r:={m.aB i with c:=c}) (cv:=aE i) (rv:=rv) h (by rw[show(bN c rv).length=12 from rfl];omega) rfl;rwa[mJ]at this
theorem aCW{x:Core}:cJ {m with ai:=x} p aE aO ev=cJ m p aE aO ev:=rfl
end
def Mu2(o:ae):Prop:=Mu o\/ ∃a d,o= .row a 14 nb d
structure Fm(n:Nat)(S:lN)(H H':List ae):Prop where
 len:H.length<=H'.length
 low: ∀i,i<n->i∉S->H'[i]?=H[i]?
 box: ∀i o,i∉S-> ¬Mu2 o->H[i]?=some o->H'[i]?=some o
section
variable{n:Nat}{S T:lN}{A B C H W:List ae}
theorem Fm.refl:Fm n S A A:=⟨ae0 _,λ_ _ _=>rfl,λ_ _ _ _ h=>h⟩
theorem Fm.trans(h:Fm n S A B)(g:Fm n S B C):Fm n S A C:=⟨agD h.len g.len,λi a b=>(g.low i a b).trans (h.low i a b),λi o a ho c=>g.box i o a ho (h.box i o a ho c)⟩
def Fq.fm(h:Fq n S A B)(b: ∀i∈S,i∈T):Fm n T A B:=⟨h.len,λi a q=>h.low i a λr=>q (b i r),λi o a ho c=>h.box i o (λq=>a (b i q)) (λq=>ho (.inl q)) c⟩
theorem Fm.set(a:p∈S)(b:n<=A.length)(o:ae):Fm n S A (A.set p o):=(Fq.set a b o).fm λ_ h=>h
theorem Fm.app(L:List ae)(a:n<=A.length):Fm n S A (A++L):=(Fq.app L a).fm λ_ h=>h
theorem Fm.take{N:Nat}(h:Fm n S A B)(e:A.length=N)(d:n<=N):Fm n S A (B.take N):=⟨by rw[agw];have:=h.len;omega,λi a c=>by rw[agz (by omega)];exact h.low i a c,λi o a ho b=>by
 have:=dZ b;rw[agz (by omega)];exact h.box i o a ho b⟩
def Fm.out(h:Fm n T H W)(f:H.length<=i)(d:n<=H.length)(o:ae):Fm n T H (W.set i o):=⟨by rw[agq];exact h.len,λj a c=>by rw[acG (by omega)];exact h.low j a c,λj o a ho b=>by
 have e:=dZ b;rw[acG (by omega)];exact h.box j o a ho b⟩
def Fm.pre{L:List ae}(h:Fm n S (H++L) W)(a:n<=H.length):Fm n S H W:=(Fm.app L a).trans h
end
structure bI(n M p q:Nat)(m:aW)(qv ev:AV)(aE aO:Nat->AV)(H:List ae):Prop where
 Mq:M<q
 co:dI n p q m.ai qv H
 box:H[M]?=some (.box (cJ m p aE aO ev) none)
 rQ:cW (max n (M+1)) H ev 14 nb (m.aV.map cE)
 cv: ∀i,Rv (aE i) 5 ((m.aB i).t.code.map db)
 rv: ∀i,Rv (aO i) 1 ((m.aB i).c.aY.map hC)
section
variable{n M p q:Nat}{m:aW}{qv ev:AV}{aE aO:Nat->AV}{H:List ae}
def bI.lt(h:bI n M p q m qv ev aE aO H):M<H.length:=dZ h.box
theorem bI.app(h:bI n M p q m qv ev aE aO H)(L:List ae):bI n M p q m qv ev aE aO (H++L):=⟨h.Mq,h.co.app L,bf h.box,h.rQ.app L,h.cv,h.rv⟩
def bI.Mn(h:bI n M p q m qv ev aE aO H):M∉[p,q]:=by have:=h.Mq;have:=h.co.qp;grind
def bI.ai{W:List ae}{c:Core}{b:AV}(h:bI n M p q m qv ev aE aO H)(g:dI n p q c b W)(e:Fq n [p,q] H W):bI n M p q {m with ai:=c} b ev aE aO W:=
 ⟨h.Mq,g,e.own h.Mn h.box,h.rQ.nX λid aj all f=>e.box id _ (by
   have k:=h.co.box;have j:=h.co.ib
   grind) (λq=>by obtain⟨a,d,q⟩:=q;cases q) f,h.cv,h.rv⟩
theorem bI.set(h:bI n M p q m qv ev aE aO H){m':aW}{nP a:Nat->AV}(d:m'.ai=m.ai)(e:m'.aV=m.aV)(c: ∀i,Rv (nP i) 5 ((m'.aB i).t.code.map db))(b: ∀i,Rv (a i) 1 ((m'.aB i).c.aY.map hC)):
  bI n M p q m' qv ev nP a (H.set M (.box (cJ m' p nP a ev) none)):=
 ⟨h.Mq,d ▸ h.co.set h.box (by have:=h.Mq;have:=h.co.qp;omega) (by have:=h.Mq;omega) _,cQ h.box,e ▸ h.rQ.set h.box _,c,b⟩
def bI.fM(h:bI n M p q m qv ev aE aO H)(o:ae):Fm n [M,p,q] H (H.set M o):=Fm.set (by simp) h.co.mp o
def bI.fc{W:List ae}(h:Fq n [p,q] H W):Fm n [M,p,q] H W:=h.fm λi a=>by grind
def bI.other(h:bI n M p q m qv ev aE aO H){cs:lA}(a:H[i]?=some (.box cs tg))(d:i≠p)(c:i≠q)(b:i≠M)(o:ae):bI n M p q m qv ev aE aO (H.set i o):=
 ⟨h.Mq,h.co.set a d c o,(acG b).trans h.box,h.rQ.set a _,h.cv,h.rv⟩
theorem bI.oV{W j:List ae}{N:Nat}{b c:AV}{d a:Nat->AV}{l:aW}(h:bI n M p q m qv ev aE aO W)(e:j=W\/ (j=W.take N/\Q))(k:Q->qv=b/\ev=c)(g:bI n M p q l b c d a H0)(f:H0.length=N):bI n M p q m qv ev aE aO j:=
 ⟨h.Mq,h.co.oV e (λq=>(k q).1) g.co f,MT e (by rw[<-f];exact g.lt) h.box,cW.oV h.rQ e (λq=>(k q).2) g.rQ f,h.cv,h.rv⟩
end
def gY(n M p q:Nat)(H:List ae)(lo:oN)(m':aW)(qv ev:AV)(r:AV)(d:aX):Prop:=
 ∃b c nP a H' ak,d= .ret r ⟨H',ak⟩/\bI n M p q m' b c nP a H'/\Fm n [M,p,q] H H'/\gq (b=qv/\c=ev) p H H' lo ak
def gY.fin{n N:Nat}{o m:aW}{c:AV}{e d:Nat->AV}{H W:List ae}(g:bI n M p q o a c e d H)(l:H.length=N)(h:bI n M p q m qv ev aE aO W)(f:Fm n [M,p,q] H W)(s:fH (qv=a/\ev=c) p b)(r:v.refs<=N):
  gY n M p q H lo m a c v (.ret (finish N lo v ⟨W,b⟩).1 (finish N lo v ⟨W,b⟩).2):=by
 have w:=g.co.mp;have u:=g.co.lt;rcases s with⟨rfl,k⟩| ⟨j,t,rfl⟩
 ·rw[iG (.inl rfl) r];refine⟨qv,ev,aE,aO,_,lo,rfl,h.oV (.inr ⟨rfl,k⟩) id g l,f.take l (by omega),.inl ⟨rfl,?_,k⟩⟩;rw[agw];have:=f.len;omega
 ·rw[vS (by omega)];exact⟨qv,ev,aE,aO,W,cM lo j,rfl,h,f,.inr ⟨j,t,rfl⟩⟩
structure dh(m:aW):Prop where
 ai:ka m.ai
 t: ∀i,lQ (m.aB i).t
 c: ∀i,fY (m.aB i).c
 fr: ∀i,(m.aB i).fr<2147483648
 now:m.now<2147483648
 ev:m.aV.length<2147483648
 run: ∀i,(m.aB i).c.run.1<=64/\ (m.aB i).c.run.2<=64
def M5{n:Nat}{m:aW}{H:List ae}(h:bI n M p q m qv ev aE aO H)(t:Nat)(lo:oN):D XC (.fn (.func 45) [] []) [.ptr M 0,.int .i64 t] ⟨H,lo⟩=some (.ret (.bool (j0 m t)) ⟨H,lo⟩):=by
 refine aH Kv λN e=>?_
 have d: (t:Int)>=0:=by omega
 unfold j0;by_cases c:t<8
 ·have a: (t:Int)<8:=by omega
  have b: (bQ m.ai q qv)[936+t]?=some (.bool (m.ai.S.alive t)):=by
   have:Den.part false 1 (bQ m.ai q qv) (936+t)=some (.bool (m.ai.S.alive t)):=by
    unfold bQ;rw[mK (by rw[en];omega) (by omega)];exact LK c
   exact this
  rw[aeD c,alk];simp(disch:=omega) only[F1,go_sem,simprocAttr,Kv,d,a,h.box,h.co.box,qy,b]
 ·have a: ¬(t:Int)<8:=by omega
  rw[aeC c,ahM];simp(disch:=omega) only[F1,go_sem,simprocAttr,Kv,d,a]
def alJ:j8 mU:=⟨by decide,by decide,by decide,by decide,by decide,by decide⟩
def C0:fY gV:=⟨by decide,alJ,(λh a=>by cases a),⟨by decide,by decide⟩,by decide⟩
def bI.GX{n:Nat}{m:aW}{H:List ae}(h:bI n M p q m qv ev aE aO H)(i:Nat)(r:Runner)(cv rv:AV)(b:Rv cv 5 (r.t.code.map db))(a:Rv rv 1 (r.c.aY.map hC)):
  bI n M p q {m with aB:=au m.aB i r} qv ev (au aE i cv) (au aO i rv) (H.set M (.box (cJ {m with aB:=au m.aB i r} p (au aE i cv) (au aO i rv) ev) none)):=
 h.set rfl rfl (λj=>by
  show Rv (au aE i cv j) 5 ((au m.aB i r j).t.code.map db);by_cases e:j=i
  ·subst e;rw[cw,cw];exact b
  ·rw[cR e,cR e];exact h.cv j) λj=>by
  show Rv (au aO i rv j) 1 ((au m.aB i r j).c.aY.map hC);by_cases e:j=i
  ·subst e;rw[cw,cw];exact a
  ·rw[cR e,cR e];exact h.rv j
def ka.queue(b:ka x){r:aD}(c:r.1<=64/\r.2<=64)(d:x.Q.length+r.2<8589934592):ka (c9 x r):=by
 have f: (c9 x r).Q.length=x.Q.length+r.2:=by simp[c9,gl]
 refine⟨b.S,b.P,b.M,λk a=>?_,by omega⟩;rcases ae2.1 a with a|a
 ·exact b.Q k a
 ·obtain⟨i,e,rfl⟩:=ago.1 a
  grind
def ka.cut(a:ka x){c:Call}(b:c.run.1<=64/\c.run.2<=64)(d:x.Q.length+c.run.2<8589934592):ka (xl x c):=by
 have:=a.queue b d;exact⟨this.S,this.P,UT this.M _,this.Q,this.Ql⟩
def alK(x:Core)(c:Call): (xl x c).Q.length=x.Q.length+c.run.2:=by simp[xl,c9,gl]
def dh.Vu{m:aW}(h:dh m)(i:Nat)(b:m.ai.Q.length<4294967296):dh (mj m i)/\ (mj m i).ai.Q.length<=m.ai.Q.length+64:=by
 unfold mj;split
 ·have a:=h.run i;refine⟨⟨h.ai.cut a (by omega),λj=>?_,λj=>?_,λj=>?_,h.now,h.ev,λj=>?_⟩,?_⟩
  ·show lQ (au m.aB i _ j).t;unfold au;split
   ·exact h.t i
   ·exact h.t j
  ·show fY (au m.aB i _ j).c;unfold au;split
   ·exact C0
   ·exact h.c j
  ·show(au m.aB i _ j).fr<_;unfold au;split
   ·exact h.fr i
   ·exact h.fr j
  ·show(au m.aB i _ j).c.run.1<=64/\ (au m.aB i _ j).c.run.2<=64;unfold au;split
   ·exact⟨by show 0<=64;omega,by show 0<=64;omega⟩
   ·exact h.run j
  ·rw[alK];omega
 grind
def iI(m:aW)(k:Nat):aW:=(List.range k).foldl mj m
def M6(m:aW)(k:Nat):iI m (k+1)=mj (iI m k) k:=by unfold iI;rw[aqD,amG];rfl
theorem Vv{m:aW}(h:dh m)(a:m.ai.Q.length<1073741824): ∀k,k<=8->dh (iI m k)/\ (iI m k).ai.Q.length<=m.ai.Q.length+64*k
 |0,_=>⟨h,by show m.ai.Q.length<=_;omega⟩
 |k+1,c=>by
  obtain⟨b,f⟩:=Vv h a k (by omega);obtain⟨e,d⟩:=b.Vu k (by omega);rw[M6]
  grind
def axR{n:Nat}{m:aW}{H:List ae}(u:bI n M p q m qv ev aE aO H)(Y:dh m)(hQ:m.ai.Q.length<1073741824)(lo:oN):
  ∃P,D XC (.fn (.func 68) [] []) [.ptr M 0] ⟨H,lo⟩=some P/\gY n M p q H lo (lH m) qv ev (.ax []) P:=by
 have ho:Old M H (.box (cJ m p aE aO ev) none):=⟨u.box⟩;refine cA QL λN O=>?_
 have GY:M<N:=by rw[<-O];exact u.lt
 have V:p<N:=by rw[<-O];exact u.co.lt
 have X:=u.co.mp;have hMq:=u.Mq;have T:=u.co.qp;simp only[go_sem,simprocAttr,QL];refine gE 8 (λk e W ak=> ∃i h d g,e 0= .ptr M 0/\e 4= .int .i64 k/\bI n M p q (iI m k) i h d g W/\fH (i=qv/\h=ev) p ak/\Fm n [M,p,q] H W) 0 (by omega) ?_ ?_
 ·refine⟨qv,ev,aE,aO,?_⟩;simp only[go_sem,simprocAttr];exact⟨u,fH.no trivial,Fm.refl⟩
 rintro k hk e W ak ⟨i,h,d,g,C,B,l,r,A⟩ nn hn;simp only[bO,go_sem,simprocAttr,afs,C,B];refine⟨λZ=>?_,λZ=>?_⟩
 ·have f:k<8:=by omega
  have w: (0:Int)<=k/\ (k:Int)<8:=by omega
  obtain⟨x,U⟩:=Vv Y hQ k (by omega);have s:=λlo=>M5 l k lo
  have G:=M6 m k;cases y: ((iI m k).aB k).busy with
  |false=>
   have e1:mj (iI m k) k=iI m k:=aeu (by rw[y];simp);simp(disch:=omega) only[go_sem,simprocAttr,C,B,w,l.box,xM f,y];exact⟨f,i,h,d,g,by rw[G,e1];exact l,r,A⟩
  |true=>
   cases z:j0 (iI m k) k with
   |true=>
    rw[z]at s;have e1:mj (iI m k) k=iI m k:=aeu (by rw[z];simp);simp(disch:=omega) only[go_sem,simprocAttr,C,B,w,l.box,xM f,y,s];exact⟨f,i,h,d,g,by rw[G,e1];exact l,r,A⟩
   |false=>
    rw[z]at s;have e1:mj (iI m k) k={iI m k with ai:=xl (iI m k).ai ((iI m k).aB k).c,aB:=au (iI m k).aB k {(iI m k).aB k with busy:=false,c:=gV}}:=aez ⟨y,z⟩;obtain⟨P,g1,E,W3,R,rfl,g2,Q,g4⟩:=akF l.co x.ai _ (x.c k) _ (cL (l.rv k) (bB (λ_=>rfl) _)) ak;have j:=l.ai g2 Q;have S: [AV.int .i64 0,.int .u8 0,.int .u32 0,.int .u32 0,.int .u32 0,.int .u32 0,.int .u64 0,.bool false,.aq,.int .i64 0,.int .i64 0,.int .i64 0]=bN gV .aq:=rfl;have K:aI (bN gV .aq)=0:=rfl;have L: (bN gV .aq).length=12:=rfl;have J:1+k*24+22+1<=195:=by omega
    have I:1+k*24+10+12<=195:=by omega
    have F:=λo=>cQ (o:=o) j.box
    simp(disch:=omega) only[go_sem,simprocAttr,C,B,w,l.box,xM f,qy,↓CZ f,y,s,g1,j.box,oY,Vt f,As f,S,K,L,J,I,F,alY,sP,cw];have t:=j.GX k {(iI m k).aB k with busy:=false,c:=gV} (d k) .aq (j.cv k) .aq;rw[mJ]at t;refine⟨f,E,h,d,au g k .aq,?_,r.step g4 (λa b=>⟨b.trans a.1,a.2⟩),(A.trans (bI.fc Q)).trans (j.fM _)⟩;rw[G,e1];exact t
 ·obtain rfl:k=8:=by omega
  exact gY.fin (v:=.ax []) u O l A r (ae4 _)
def Vw(a:aD)(b n:Nat)(j:a.2<4294967296)(m:b<17179869184/\n<17179869184)(H:List ae)(lo:oN):
  D XC (.fn (.func 147) [] []) [.agg (aA a),.int .i64 b,.int .i64 n] ⟨H,lo⟩=some (.ret (.agg (aA (handed a b n))) ⟨H,lo⟩):=by
 refine aH BX λN f=>?_
 have o: (aA a)[1]?=some (.int .i64 a.2):=rfl;have k: ∀r,List.take 2 (aA r)=aA r:=λ_=>rfl
 have l: ∀r,List.drop 2 (aA r)=[]:=λ_=>rfl
 have h: ∀r:aD,(aA r).length=2:=λ_=>rfl
 have g: ∀r,aI (aA r)=0:=λ_=>rfl
 unfold handed;by_cases i:0<a.2
 ·have d:decide (0< ((a.2:Nat):Int))=true:=aeD (by omega);by_cases e:a.2<=n-b
  ·have c:decide (((a.2:Nat):Int)<=(n:Int)-b)=true:=aeD (by omega);rw[aez ⟨e,i⟩];simp(disch:=omega) only[F1,go_sem,simprocAttr,BX,f,d,c,Bc];rfl
  ·have c:decide (((a.2:Nat):Int)<=(n:Int)-b)=false:=aeC (by omega);rw[aeu (λq=>e q.1)];simp(disch:=omega) only[F1,go_sem,simprocAttr,BX,f,c,h,g,Bc]
 ·have d:decide (0< ((a.2:Nat):Int))=false:=aeC (by omega);rw[aeu (λq=>i q.2)];by_cases e: ((a.2:Nat):Int)<=(n:Int)-b
  ·have c:decide (((a.2:Nat):Int)<=(n:Int)-b)=true:=aeD e;simp(disch:=omega) only[F1,go_sem,simprocAttr,BX,f,d,c,h,g,Bc]
  ·have c:decide (((a.2:Nat):Int)<=(n:Int)-b)=false:=aeC e;simp(disch:=omega) only[F1,go_sem,simprocAttr,BX,f,c,h,g,Bc]
def bI.alM{n:Nat}{m:aW}{H W:List ae}(h:bI n M p q m qv ev aE aO H){e:Event}(j:cW (max n (M+1)) W v 14 nb ((m.aV++[e]).map cE))(b: ∀ (i:Nat) (o:ae),(∀a d,o≠ae.row a 14 nb d)->H[i]?=some o->W[i]?=some o)(k:H.length<=W.length):
  bI n M p q {m with aV:=m.aV++[e]} qv v aE aO (W.set M (.box (cJ {m with aV:=m.aV++[e]} p aE aO v) none)):=by
 have c: ∀cs tg,∀a d,ae.box cs tg≠ .row a 14 nb d:=λ_ _ _ _ e=>by cases e
 have f:=b M _ (c _ _) h.box;have r:=h.Mq;have l:=h.co.qp;refine⟨h.Mq,⟨by rw[agq];have:=h.co.mp;omega,h.co.qp,(acG (by omega)).trans (b p _ (c _ _) h.co.box),(acG (by omega)).trans (b q _ (c _ _) h.co.ib),?_⟩,cQ f,j.set f _,h.cv,h.rv⟩;exact(h.co.jb.nX λid aj all g=>b id _ (λa d e=>by cases e) g).set f _
def alN{n:Nat}{m:aW}{H W:List ae}(h:bI n M p q m qv ev aE aO H)(j:H.length<=W.length)(k: ∀i,i<max n (M+1)->W[i]?=H[i]?)(f: ∀ (i:Nat) (o:ae),(∀a d,o≠ae.row a 14 nb d)->H[i]?=some o->W[i]?=some o)(o:ae):Fm n [M,p,q] H (W.set M o):=by
 refine⟨by grind,λi b g=>by grind,λi o' b ho c=>?_⟩;rw[acG (by grind)];exact f i o' (λa d e=>ho (.inr ⟨a,d,e⟩)) c
def axS(t:Task)(r:bG): (ua t r).code=t.code:=by
 unfold ua;grind
def Vx{n:Nat}{m:aW}{H:List ae}(f:bI n M p q m qv ev aE aO H)(Y:dh m)(t:Nat)(j:t<8)(c:Call)(rv:AV)(MM:rv.refs=0)(run:aD)(r:bG)(hr:r.w<4294967296/\r.e<4294967296)(lo:oN):
  ∃cr,D XC (.fn (.func 146) [] []) [.ptr M 0,.int .i64 t,.agg (bN c rv),.agg (aA run),.agg (bH r)] ⟨H,lo⟩=some cr/\gY n M p q H lo (LR m t c run r) qv ev (.ax []) cr:=by
 refine cA Ra λN s=>?_
 have GY:M<N:=by rw[<-s];exact f.lt
 have oU:p<N:=by rw[<-s];exact f.co.lt
 have hb:=λL=>bf (L:=L) f.box
 have I: (0:Int)<=t/\ (t:Int)<8:=by omega
 have K:Den.part true 6 (bN c rv) 1=some (.agg (bp c.c)):=rfl;have hlr: ∀r:aD,List.take 2 (aA r)=aA r:=λ_=>rfl
 have L0: ∀r:aD,(aA r).length=2:=λ_=>rfl
 have hls: ∀r:bG,List.take 3 (bH r)=bH r:=λ_=>rfl
 have T: ∀c:cy,bp c=[.int .u8 c.op,.int .u32 c.r,.int .u32 c.s,.int .u32 c.a,.int .u32 c.b,.int .u64 c.v]:=λ_=>rfl
 have k: ∀r:aD,aA r=[.int .i64 r.1,.int .i64 r.2]:=λ_=>rfl
 have h: ∀r:bG,bH r=[.int .i64 r.e,.int .u64 r.v,.int .u32 r.w]:=λ_=>rfl
 have R: ∀a b:Nat,[AV.int .i64 (t:Int),.int .u8 c.c.op,.int .u32 c.c.r,.int .u32 c.c.s,.int .u32 c.c.a,.int .u32 c.c.b,.int .u64 c.c.v,.int .i64 run.1,.int .i64 run.2,.int .i64 r.e,.int .u64 r.v,.int .u32 r.w,.int .i64 a,.int .i64 b]=cE ⟨t,c.c,run,r,a,b⟩:=λ_ _=>rfl
 obtain⟨B,hB⟩: ∃B:List ae,B=[.box (bN c rv) none,.box (aA run) none,.box (bH r) none]:=⟨_,rfl⟩;have i:=f.app B;obtain⟨v',W,g1,g2,Z,g4,x,g6,g7,g8⟩:=cW.append (bytes:=96) (lo:=none) (y:=cE ⟨t,c.c,run,r,(m.aB t).fr,m.now⟩) i.rQ (by have:=i.lt;have:=i.co.mp;omega) (by omega) rfl rfl (by rw[ae3];have:=Y.ev;unfold room;omega);have eE:m.aV.map cE++[cE ⟨t,c.c,run,r,(m.aB t).fr,m.now⟩]=(m.aV++[(⟨t,c.c,run,r,(m.aB t).fr,m.now⟩:Event)]).map cE:=by rw[agp];rfl
 rw[eE]at g2;have w:=i.alM g2 x Z;have U:=alN i Z g4 x (.box (cJ {m with aV:=m.aV++[⟨t,c.c,run,r,(m.aB t).fr,m.now⟩]} p aE aO v') none);rw[hB]at g1;rw[k,h]at g1;have S: ∀e,(cE e).length=14:=λ_=>rfl
 have het: ∀e,List.take 14 (cE e)=cE e:=λ_=>rfl
 have X: ∀cs tg,∀a d,ae.box cs tg≠ .row a 14 nb d:=λ_ _ _ _ e=>by cases e
 have V:=x M _ (X _ _) i.box;have wr:=x (N+2) _ (X _ _) (show(H++B)[N+2]?=some (.box (bH r) none) by rw[hB,bA s];rfl);rw[h]at wr;have J:=λo=>cQ (o:=o) V
 have z: ∀o,(W.set M o)[N+2]?=_:=λo=>(acG (by omega)).trans wr
 have E: ¬v'.refs<=M+1:=by omega
 have G: ∀H lo,D XC (.fn (.func 175) [] []) [.agg (dc (m.aB t).t (aE t)),.agg [.int .i64 r.e,.int .u64 r.v,.int .u32 r.w]] ⟨H,lo⟩=some (.ret (.agg (dc (ua (m.aB t).t r) (aE t))) ⟨H,lo⟩):=λH lo=>c0 (axq (f.cv t) (Y.t t) r hr H lo)
 have l:=cL (f.cv t) (bB (λ_=>rfl) _);have F:=λt'=>GP (t:=t') l
 have hz: [AV.int .i64 0,.int .u8 0,.int .u32 0,.int .u32 0,.int .u32 0,.int .u32 0,.int .u64 0,.bool false,.aq,.int .i64 0,.int .i64 0,.int .i64 0]=bN gV .aq:=rfl;have A:aI (bN gV .aq)=0:=rfl;have C: (bN gV .aq).length=12:=rfl;have Q:1+t*24+10<=195:=by omega
 have P:1+t*24+22+1<=195:=by omega
 have O:1+t*24+10+12<=195:=by omega
 simp only[go_sem,simprocAttr,Ra,s,I,hb,Ar,Vs,axO j,↓K,T,k,h,R,S,het,g1,g6,g7,E,V,z,J,alH,oY,↓M3 j,G,F,alI j,Vt j,As j,hz,A,C,Q,P,O,alY,sP,cw,xK];have g:=w.GX t {m.aB t with t:=ua (m.aB t).t r,busy:=false,c:=gV} (aE t) .aq (by rw[axS];exact f.cv t) .aq;rw[mJ,alY]at g;have u:=(Fm.app B (by have:=f.co.mp;omega)).trans (U.trans (w.fM (.box (cJ {m with aV:=m.aV++[⟨t,c.c,run,r,(m.aB t).fr,m.now⟩],aB:=au m.aB t {m.aB t with t:=ua (m.aB t).t r,busy:=false,c:=gV}} p aE (au aO t .aq) v') none)));rw[alY]at u;exact gY.fin (v:=.ax []) f s g u (.inr ⟨M,by have:=f.Mq;have:=f.co.qp;omega,rfl⟩) (ae4 _)
def xN(m:aW)(t:Nat):aW:={m with ai:=(gn m.ai (m.aB t).c).x,aB:=au m.aB t {m.aB t with c:=(gn m.ai (m.aB t).c).c}}
def Vy(m:aW)(t:Nat):aD:=if(gn m.ai (m.aB t).c).r.e≠0\/ (gn m.ai (m.aB t).c).c.c.op≠2 then(0,0)else(m.aB t).c.run
theorem alO(m:aW)(t:Nat):uc m t=if(gn m.ai (m.aB t).c).ended then LR (xN m t) t (gn m.ai (m.aB t).c).c (handed (Vy m t) m.ai.Q.length (gn m.ai (m.aB t).c).x.Q.length) (gn m.ai (m.aB t).c).r else xN m t:=rfl
def alP{n:Nat}{m:aW}{H:List ae}(hD: ∀op,kO op)(g:bI n M p q m qv ev aE aO H)(hm:dh m)(t:Nat)(j:t<8)(hQ:m.ai.Q.length<2147483648)
  (hd:rP (dX (eZ ⟨m.ai,(m.aB t).c,bX,false⟩).x.S (eZ ⟨m.ai,(m.aB t).c,bX,false⟩).c.aa (eZ ⟨m.ai,(m.aB t).c,bX,false⟩).c.c (eZ ⟨m.ai,(m.aB t).c,bX,false⟩).c.run) (m.aB t).c.c)
  (B:dh (xN m t)) (hr: (gn m.ai (m.aB t).c).r.w<4294967296/\ (gn m.ai (m.aB t).c).r.e<4294967296) (pC: (gn m.ai (m.aB t).c).c.c.op<256) (lo:oN):
  ∃cr,D XC (.fn (.func 101) [] []) [.ptr M 0,.int .i64 t] ⟨H,lo⟩=some cr/\gY n M p q H lo (uc m t) qv ev (.ax []) cr:=by
 refine cA BW λN z=>?_
 have GY:M<N:=by rw[<-z];exact g.lt
 have oU:p<N:=by rw[<-z];exact g.co.lt
 have hMq:=g.Mq;have MU:=g.co.qp;have Vz:=g.co.mp;have P: (0:Int)<=t/\ (t:Int)<8:=by omega
 have hb:=λL=>bf (L:=L) g.box
 have hcb:=λL=>bf (L:=L) g.co.box
 have DR:=λL lo=>((g.app L).co.jb.rd (lo:=lo)).bJ
 have hrz:=cL (g.rv t) (bB (λ_=>rfl) _);obtain⟨cr,g1,qv2,h,W,G,rfl,g2,g3,g4,g5⟩:=axo hD (g.co.app [.box (aA (m.aB t).c.run) none,.box vW none,.box nO none]) hm.ai (hm.c t) (g.rv t) hd hQ none;rw[alO];have R: ∀r:aD,(aA r).length=2:=λ_=>rfl
 have C2: ∀r:aD,List.take 2 (aA r)=aA r:=λ_=>rfl
 have jR: ∀r:aD,List.drop 2 (aA r)=[]:=λ_=>rfl
 have Q: ∀r:aD,aI (aA r)=0:=λ_=>rfl
 have O: [AV.int .i64 0,.int .u8 0,.int .u32 0,.int .u32 0,.int .u32 0,.int .u32 0,.int .u64 0,.bool false,.aq,.int .i64 0,.int .i64 0,.int .i64 0]=vW:=rfl;have I: [AV.int .i64 0,.int .u64 0,.int .u32 0]=nO:=rfl;generalize hs:gn m.ai (m.aB t).c=s at*;have e:=λlo=>(g.co.jb.rd (lo:=lo)).bJ
 have nM1:N∉[p,q]:=by simp;omega
 have nM2:N+1∉[p,q]:=by simp;omega
 have nM3:N+2∉[p,q]:=by simp;omega
 have v0:=g4.own nM1 (by rw[dq z];rfl);have v1:=g4.own nM2 (by rw[bA z];rfl);have v2:=g4.own nM3 (by rw[bA z];rfl);have hA:=(g.app [.box (aA (m.aB t).c.run) none,.box vW none,.box nO none]).ai g2 g4;have J:vW.length=12:=rfl;have l:nO.length=3:=rfl;have K:List.drop 12 vW=[]:=rfl;have u:List.drop 3 nO=[]:=rfl;have Z: ∀c rv,(bN c rv).length=12:=λ_ _=>rfl
 have X: ∀c rv,List.take 12 (bN c rv)=bN c rv:=λ_ _=>rfl
 have w:=cL g3 (bB (λ_=>rfl) _);have Y:=Va s.c w;have s1:=λo=>cQ (o:=o) v1
 have y: ∀o,(W.set (N+1) o)[N+2]?=_:=λo=>(acG (by omega)).trans v2
 have vM: ∀o o',((W.set (N+1) o).set (N+2) o')[M]?=_:=λo o'=>(acG (by omega)).trans ((acG (by omega)).trans hA.box)
 have A: ∀o o':ae,((W.set (N+1) o).set (N+2) o')[N+1]?=some o:=λo o'=>(acG (by omega)).trans (s1 o)
 have T:1+t*24+10+12<=195:=by omega
 have M7:=((hA.other v1 (by omega) (by omega) (by omega) (.box (bN s.c h) none)).other (y _) (by omega) (by omega) (by omega) (.box (bH s.r) none));have k:=M7.GX t {m.aB t with c:=s.c} (aE t) h (g.cv t) g3;rw[mJ]at k;have F:Fm n [M,p,q] H (((W.set (N+1) (.box (bN s.c h) none)).set (N+2) (.box (bH s.r) none)).set M (.box (cJ {m with ai:=s.x,aB:=au m.aB t {m.aB t with c:=s.c}} p aE (au aO t h) ev) none)):=by
  have h1:=((bI.fc (M:=M) g4).pre (by omega)).out (i:=N+1) (by omega) (by omega) (.box (bN s.c h) none);exact(h1.out (i:=N+2) (by omega) (by omega) (.box (bH s.r) none)).trans (M7.fM _)
 have S:fH (qv2=qv/\ev=ev) p G:=(gq.n g5).imp (λq=>⟨q.1,q.2,rfl⟩) id;obtain⟨W3,C⟩: ∃W3,W3=((W.set (N+1) (.box (bN s.c h) none)).set (N+2) (.box (bH s.r) none)).set M (.box (cJ {m with ai:=s.x,aB:=au m.aB t {m.aB t with c:=s.c}} p aE (au aO t h) ev) none):=⟨_,rfl⟩;have x:=C.symm;have C3:N+1+1=N+2:=rfl;have w0:W3[N]?=some (.box (aA (m.aB t).c.run) none):=by rw[C,acG (by omega),acG (by omega),acG (by omega)];exact v0
 have w1:W3[N+1]?=some (.box (bN s.c h) none):=by rw[C,acG (by omega)];exact A _ _
 have w2:W3[N+2]?=some (.box (bH s.r) none):=by rw[C,acG (by omega)];exact cQ (y _)
 rw[<-C]at k F;have C4: (bH s.r)[0]?=some (.int .i64 s.r.e):=rfl;have M8: (bN s.c h)[1]?=some (.int .u8 s.c.c.op):=rfl;have eM:xN m t={m with ai:=s.x,aB:=au m.aB t {m.aB t with c:=s.c}}:=by unfold xN;rw[hs]
 have eR:Vy m t=if s.r.e≠0\/s.c.c.op≠2 then(0,0)else(m.aB t).c.run:=by unfold Vy;rw[hs]
 rw[eM]at B⊢;rw[eR];have hqb:s.x.Q.length<8589934592:=B.ai.Ql;have wk:=hm.run t;cases U:s.ended with
 |false=>
  simp only[go_sem,simprocAttr,BW,z,P,g.box,g.co.box,hb,qy,KL,↓KL,e,↓M4 j,R,Q,↓CZ j,O,I,g1,v1,y,vM,A,J,l,K,u,Z,X,Y,uo,rN,oY,As j,T,U,C3,x];exact gY.fin (v:=.ax []) g z k F S (ae4 _)
 |true=>
  by_cases he:s.r.e=0
  ·have V:decide (((s.r.e:Nat):Int)=0)=true:=aeD (by omega);by_cases ho:s.c.c.op=2
   ·have VA:decide (((s.c.c.op:Nat):Int)=2)=true:=aeD (by omega);rw[aez rfl,aeu (by omega)];have f:=k;have E:=F;have d:=λlo=>(f.co.jb.rd (lo:=lo)).bJ
    have hh:=λH lo=>Vw (m.aB t).c.run m.ai.Q.length s.x.Q.length (by skip;omega) (by omega) H lo
    obtain⟨cr,g6,qv6,ev6,alT,alU,W6,lo6,rfl,g7,g8,g9⟩:=Vx f B t j s.c h w (handed (m.aB t).c.run m.ai.Q.length s.x.Q.length) s.r hr G;simp only[go_sem,simprocAttr,BW,z,P,g.box,g.co.box,hb,qy,KL,↓KL,e,↓M4 j,R,Q,↓CZ j,O,I,g1,v1,y,vM,A,J,l,K,u,Z,X,Y,uo,xE,rN,oY,As j,T,U,C3,x,w0,w1,w2,C4,M8,V,VA,k.box,f.co.box,d,hh,g6];exact gY.fin (v:=.ax []) g z g7 (E.trans g8) (S.step g9 λa b=>⟨b.1.trans a.1,b.2.trans a.2⟩) (ae4 _)
   ·have VA:decide (((s.c.c.op:Nat):Int)=2)=false:=aeC (by omega);rw[aez rfl,aez (.inr ho)];have f:=k.other w0 (by omega) (by omega) (by omega) (.box [.int .i64 0,.int .i64 0] none);have E:=F.out (i:=N) (by omega) (by omega) (.box [.int .i64 0,.int .i64 0] none);have u0:=λo=>cQ (o:=o) w0
    have u1: ∀o,(W3.set N o)[N+1]?=_:=λo=>(acG (by omega)).trans w1
    have u2: ∀o,(W3.set N o)[N+2]?=_:=λo=>(acG (by omega)).trans w2
    have d:=λlo=>(f.co.jb.rd (lo:=lo)).bJ
    have hh: ∀H lo,D XC (.fn (.func 147) [] []) [.agg [.int .i64 0,.int .i64 0],.int .i64 m.ai.Q.length,.int .i64 s.x.Q.length] ⟨H,lo⟩=some (.ret (.agg (aA (handed (0,0) m.ai.Q.length s.x.Q.length))) ⟨H,lo⟩):=λH lo=>Vw (0,0) m.ai.Q.length s.x.Q.length (by show 0<4294967296;omega) (by omega) H lo
    obtain⟨cr,g6,qv6,ev6,alT,alU,W6,lo6,rfl,g7,g8,g9⟩:=Vx f B t j s.c h w (handed (0,0) m.ai.Q.length s.x.Q.length) s.r hr G;simp only[go_sem,simprocAttr,BW,z,P,g.box,g.co.box,hb,qy,KL,↓KL,e,↓M4 j,R,jR,Q,↓CZ j,O,I,g1,v1,y,vM,A,J,l,K,u,Z,X,Y,uo,xE,rN,oY,As j,T,U,C3,x,w0,w1,w2,C4,M8,V,VA,u0,u1,u2,f.box,f.co.box,d,hh,g6];exact gY.fin (v:=.ax []) g z g7 (E.trans g8) (S.step g9 λa b=>⟨b.1.trans a.1,b.2.trans a.2⟩) (ae4 _)
  ·have V:decide (((s.r.e:Nat):Int)=0)=false:=aeC (by omega);rw[aez rfl,aez (.inl he)];have f:=k.other w0 (by omega) (by omega) (by omega) (.box [.int .i64 0,.int .i64 0] none);have E:=F.out (i:=N) (by omega) (by omega) (.box [.int .i64 0,.int .i64 0] none);have u0:=λo=>cQ (o:=o) w0
   have u1: ∀o,(W3.set N o)[N+1]?=_:=λo=>(acG (by omega)).trans w1
   have u2: ∀o,(W3.set N o)[N+2]?=_:=λo=>(acG (by omega)).trans w2
   have d:=λlo=>(f.co.jb.rd (lo:=lo)).bJ
   have hh: ∀H lo,D XC (.fn (.func 147) [] []) [.agg [.int .i64 0,.int .i64 0],.int .i64 m.ai.Q.length,.int .i64 s.x.Q.length] ⟨H,lo⟩=some (.ret (.agg (aA (handed (0,0) m.ai.Q.length s.x.Q.length))) ⟨H,lo⟩):=λH lo=>Vw (0,0) m.ai.Q.length s.x.Q.length (by show 0<4294967296;omega) (by omega) H lo
   obtain⟨cr,g6,qv6,ev6,alT,alU,W6,lo6,rfl,g7,g8,g9⟩:=Vx f B t j s.c h w (handed (0,0) m.ai.Q.length s.x.Q.length) s.r hr G;simp only[go_sem,simprocAttr,BW,z,P,g.box,g.co.box,hb,qy,KL,↓KL,e,↓M4 j,R,jR,Q,↓CZ j,O,I,g1,v1,y,vM,A,J,l,K,u,Z,X,Y,uo,xE,rN,oY,As j,T,U,C3,x,w0,w2,C4,V,u0,u1,u2,f.box,f.co.box,d,hh,g6];exact gY.fin (v:=.ax []) g z g7 (E.trans g8) (S.step g9 λa b=>⟨b.1.trans a.1,b.2.trans a.2⟩) (ae4 _)
structure alW(m:aW)(t:Nat):Prop where
 d:rP (dX (eZ ⟨m.ai,(m.aB t).c,bX,false⟩).x.S (eZ ⟨m.ai,(m.aB t).c,bX,false⟩).c.aa (eZ ⟨m.ai,(m.aB t).c,bX,false⟩).c.c (eZ ⟨m.ai,(m.aB t).c,bX,false⟩).c.run) (m.aB t).c.c
 m':dh (xN m t)
 r: (gn m.ai (m.aB t).c).r.w<4294967296/\ (gn m.ai (m.aB t).c).r.e<4294967296
 op: (gn m.ai (m.aB t).c).c.c.op<256
def axX{t:Task}(h:lQ t):j8 (iE t).1:=by
 unfold iE;split
 ·exact⟨by decide,by decide,by decide,by decide,by decide,by decide⟩
 ·rename_i x a;have ho:=GS h a;split
  ·exact⟨by decide,by decide,by decide,by decide,by decide,by decide⟩
  ·split
   ·exact alJ
   ·have c:=ho.op;have b:=ho.n;exact⟨by grind,aoo _ (by omega),aoo _ (by omega),aoo _ (by omega),by grind,h.aY 5⟩
def axY(t:Task): (rF t).code=t.code:=by
 unfold rF
 grind
def M9(m:aW)(t:Nat):aW:={m with aB:=au m.aB t {m.aB t with c:={gV with aa:=t,c:=(iE (m.aB t).t).1},busy:=true,fr:=m.now}}
def dh.wanted{m:aW}(h:dh m){t:Nat}(a:t<8):dh (M9 m t):=by
 refine⟨h.ai,λj=>?_,λj=>?_,λj=>?_,h.now,h.ev,λj=>?_⟩
 ·show lQ (au m.aB t _ j).t;unfold au;split
  ·exact h.t t
  ·exact h.t j
 ·show fY (au m.aB t _ j).c;unfold au;split
  ·exact⟨by grind,axX (h.t t),C0.aY,C0.run,C0.fo⟩
  ·exact h.c j
 ·show(au m.aB t _ j).fr<_;unfold au;split
  ·exact h.now
  ·exact h.fr j
 ·show(au m.aB t _ j).c.run.1<=64/\ (au m.aB t _ j).c.run.2<=64;unfold au;split
  ·exact⟨by show 0<=64;omega,by show 0<=64;omega⟩
  ·exact h.run j
def axZ{n:Nat}{m:aW}{H:List ae}(hD: ∀op,kO op)(b:bI n M p q m qv ev aE aO H)(y:dh m)(t:Nat)(d:t<8)(F:m.ai.Q.length<2147483648)
  (A: ∀m,dh m->m.ai.Q.length<2147483648->alW m t) (lo:oN):
  ∃s,D XC (.fn (.func 67) [] []) [.ptr M 0,.int .i64 t] ⟨H,lo⟩=some s/\gY n M p q H lo (vE m t) qv ev (.ax []) s:=by
 refine cA Fs λN i=>?_
 have GY:M<N:=by rw[<-i];exact b.lt
 have oU:p<N:=by rw[<-i];exact b.co.lt
 have Vz:=b.co.mp;have k: (0:Int)<=t/\ (t:Int)<8:=by omega
 have E:=λL=>bf (L:=L) b.box
 have hw:=λH lo=>c0 (Vp (b.cv t) (y.t t) H lo)
 have j: [AV.int .u8 0,.int .u32 0,.int .u32 0,.int .u32 0,.int .u32 0,.int .u64 0]=bp mU:=rfl;have Y: ∀c,(bp c).length=6:=λ_=>rfl
 have Z: ∀c,List.drop 6 (bp c)=[]:=λ_=>rfl
 have ct: ∀c,List.take 6 (bp c)=bp c:=λ_=>rfl
 have s: ∀c,aI (bp c)=0:=λ_=>rfl
 have z:=cL (b.cv t) (bB (λ_=>rfl) _);have B:=b.app [.box (bp (iE (m.aB t).t).1) none];unfold vE;dsimp only;cases h: (m.aB t).busy with
 |true=>
  have g:=A m y F;obtain⟨X,g1,G,W,C,u,W6,I,rfl,V,U,T⟩:=alP hD B y t d F g.d g.m' g.r g.op none;simp only[go_sem,simprocAttr,Fs,i,k,b.box,E,↓M3 d,xM d,h,hw,j,Y,Z,s,g1];exact gY.fin (v:=.ax []) b i V (U.pre (by omega)) (gq.n T) (ae4 _)
 |false=>
  cases w: (iE (m.aB t).t).2 with
  |true=>
   rw[w]at hw;have x:=y.wanted d;have g:=A (M9 m t) x F;have a:=B.GX t {m.aB t with c:={gV with aa:=t,c:=(iE (m.aB t).t).1},busy:=true,fr:=m.now} (aE t) .aq (b.cv t) .aq;rw[mJ]at a;obtain⟨X,g1,G,W,C,u,W6,I,rfl,V,U,T⟩:=alP hD a x t d F g.d g.m' g.r g.op none;have P:1+t*24+10+12<=195:=by omega
   have Q:1+t*24+22+1<=195:=by omega
   have l:1+t*24+23+1<=195:=by omega
   have O:=λL o=>cQ (o:=o) (E L)
   have r:AV.int .i64 (t:Int):: (bp (iE (m.aB t).t).1++[.bool false,.aq,.int .i64 0,.int .i64 0,.int .i64 0])=bN {gV with aa:=t,c:=(iE (m.aB t).t).1} .aq:=rfl;have R: ∀c,aI (bN c .aq)=0:=λ_=>rfl
   have S: ∀c,(bN c .aq).length=12:=λ_=>rfl
   have f:AV.bool (m.aB t).busy= .bool false:=by rw[h]
   simp only[go_sem,simprocAttr,Fs,i,k,b.box,E,Ar,↓M3 d,xM d,f,hw,j,Y,Z,ct,s,O,alY,r,R,S,As d,Vt d,axP d,sP,cw,oY,l,Q,P,g1];have hf:Fm n [M,p,q] H ((H++[ae.box (bp (iE (m.aB t).t).1) none]).set M (ae.box (cJ (M9 m t) p aE (au aO t .aq) ev) none)):=(Fm.app _ (by omega)).trans (B.fM _);exact gY.fin (v:=.ax []) b i V (hf.trans U) (gq.n T) (ae4 _)
  |false=>
   rw[w]at hw;have K:=λH lo=>c0 (axz (b.cv t) (y.t t) H lo)
   have a:=B.GX t {m.aB t with t:=rF (m.aB t).t} (aE t) (aO t) (by rw[axY];exact b.cv t) (b.rv t);rw[mJ,mJ]at a;have J:=λt'=>GP (t:=t') z
   have l:1+t*24+10<=195:=by omega
   have f:AV.bool (m.aB t).busy= .bool false:=by rw[h]
   simp only[go_sem,simprocAttr,Fs,i,k,b.box,E,↓M3 d,xM d,f,hw,j,Y,Z,s,K,J,alI d,oY,l,xK];have e: (⟨rF (m.aB t).t,(m.aB t).c,false,(m.aB t).fr⟩:Runner)={m.aB t with t:=rF (m.aB t).t}:=by rw[<-h]
   rw[e];exact gY.fin (v:=.ax []) b i a ((Fm.app _ (by omega)).trans (B.fM _)) (fH.no ⟨rfl,rfl⟩) (ae4 _)
def dI.ax0{n:Nat}{H W:List ae}(h:dI n p q x qv H)(r:cW (max n (p+1)) W v 1 ot ((x.Q++[k]).map fS))(t:H.length<=W.length)(u: ∀i,i<max n (p+1)->W[i]?=H[i]?)(b: ∀ (i:Nat) (o:ae),(∀a d,o≠ae.row a 1 ot d)->H[i]?=some o->W[i]?=some o):
  dI n p q {x with Q:=x.Q++[k]} v (W.set p (.box (bQ x q v) none))/\Fq n [p,q] H (W.set p (.box (bQ x q v) none)):=by
 have c: ∀cs tg,∀a d,ae.box cs tg≠ .row a 1 ot d:=λ_ _ _ _ e=>by cases e
 have f:=b p _ (c _ _) h.box;have g:=h.qp;have j:=h.mp;refine⟨⟨by grind,h.qp,cQ f,(acG (by omega)).trans (b q _ (c _ _) h.ib),r.set f _⟩,⟨by grind,λi l s=>?_,λi o l ho m=>?_⟩⟩
 ·grind
 ·rw[acG (by grind)];exact b i o (λa d e=>ho ⟨a,d,e⟩) m
theorem alX: ∀ (l:List aD) (x:Core) (s:bF),l.foldl c9 {x with S:=s}={l.foldl c9 x with S:=s}
 | [],_,_=>rfl
 |r::l,x,s=>alX l (c9 x r) s
def fI:cy:={mU with op:=20}
def kc(m:aW)(d:bF×bG×List aD)(k:Nat):Core:=(d.2.2.take k).foldl c9 {m.ai with S:=d.1}
def ax1{n:Nat}{m:aW}{H:List ae}(hD: ∀op,kO op)(x:bI n M p q m qv ev aE aO H)(hm:dh m)(t:Nat)(ht:t<8)(hQ:m.ai.Q.length<2147483648)
  (hd:rP (dX m.ai.S t fI (0,0)) fI) (lo:oN):
  ∃cr,D XC (.fn (.func 66) [] []) [.ptr M 0,.int .i64 t] ⟨H,lo⟩=some cr/\gY n M p q H lo (Cr m t) qv ev (.ax []) cr:=by
 refine cA QK λN hN=>?_
 have GY:M<N:=by rw[<-hN];exact x.lt
 have oU:p<N:=by rw[<-hN];exact x.co.lt
 have Vz:=x.co.mp;have hMq:=x.Mq;have MU:=x.co.qp;have hb:=λL=>bf (L:=L) x.box
 have hcb:=λL=>bf (L:=L) x.co.box
 have hcx:j8 fI:=⟨by decide,by decide,by decide,by decide,by decide,by decide⟩;obtain⟨bv,d1,d2⟩:=UQ m.ai.S hm.ai.S t (by omega) fI hcx (0,0) ⟨show 0<4294967296 by omega,show 0<4294967296 by omega⟩ (hD _) (H++[.box (bp fI) none,.box nc none,.box nO none]) none;have d1:=cB d1;have eS:Cr m t={m with ai:=kc m (dX m.ai.S t fI (0,0)) (dX m.ai.S t fI (0,0)).2.2.length,aV:=m.aV++[⟨t,fI,(0,0),(dX m.ai.S t fI (0,0)).2.1,m.now,m.now⟩]}:=by
  unfold kc;rw[agk,alX];rfl
 rw[eS];generalize dX m.ai.S t fI (0,0)=d at*;have hz: [AV.int .u8 20,.int .u32 0,.int .u32 0,.int .u32 0,.int .u32 0,.int .u64 0]=bp fI:=rfl;have C4:aA (0,0)=[.int .i64 0,.int .i64 0]:=rfl;rw[C4]at d1;have hzr: [AV.int .i64 0,.int .u64 0,.int .u32 0]=nO:=rfl;have cl: ∀c,(bp c).length=6:=λ_=>rfl
 have cd: ∀c,List.drop 6 (bp c)=[]:=λ_=>rfl
 have ct: ∀c,List.take 6 (bp c)=bp c:=λ_=>rfl
 have cr: ∀c,aI (bp c)=0:=λ_=>rfl
 have U:nO.length=3:=rfl;have V:List.drop 3 nO=[]:=rfl;have hA:=(x.app [.box (bp fI) none,.box (bn d.1) none,.box (bH d.2.1) none]);have I:=hA.ai (hA.co.akC d.1) (hA.co.fp _);have G:=bI.fc (M:=M) (hA.co.fp (.box (bQ {m.ai with S:=d.1} q qv) none));have C3:N+1+1=N+2:=rfl;simp only[go_sem,simprocAttr,QK,hN,C3,hb,hcb,qy,KL,↓KL,KS,hz,hzr,cl,ct,cr,d1,DZ,mL,rN,U,V,d2.bJ];refine gE d.2.2.length (λk e W ak=> ∃s,e 0= .ptr M 0/\e 1= .int .i64 t/\e 4= .ptr N 0/\e 6= .ptr (N+2) 0/\e 34=bv/\e 35= .int .i64 d.2.2.length/\e 36= .int .i64 k/\bI n M p q {m with ai:=kc m d k} s ev aE aO W/\fH (s=qv/\ev=ev) p ak/\W[N]?=some (.box (bp fI) none)/\W[N+2]?=some (.box (bH d.2.1) none)/\Fm n [M,p,q] H W) 0 (by omega) ?_ ?_
 ·refine⟨qv,?_⟩;simp(disch:=omega) only[go_sem,simprocAttr];exact⟨I,fH.no trivial,(Fm.app _ (by omega)).trans G⟩
 rintro k hk e W ak ⟨s,C,e1,R,e6,l,i,h,o,g,J,K,P⟩ nn hn;simp only[bO,go_sem,simprocAttr,afr,C,l,i,h];refine⟨λhh=>?_,λhh=>?_⟩
 ·have w:k<d.2.2.length:=by omega
  generalize F:d.2.2.getD k default=f at*;have wk:=hd.runs f (by rw[<-F];exact dY w);have uN: ∀r:aD,(aA r).length=2:=λ_=>rfl
  have Bb: ∀r,aI (aA r)=0:=λ_=>rfl
  have C2: ∀r,List.take 2 (aA r)=aA r:=λ_=>rfl
  have jR: ∀r,List.drop 2 (aA r)=[]:=λ_=>rfl
  have PG: (aA f)[1]?=some (.int .i64 f.2):=rfl;have aC0: (aA f)[0]?=some (.int .i64 f.1):=rfl;simp(disch:=omega) only[go_sem,simprocAttr,d2.bW,d2.cp,F,hn,uN,Bb];have X:=CV (d.2.2.take k) {m.ai with S:=d.1} (λz hz=>(hd.runs z (ahZ hz)).2);have X: (kc m d k).Q.length<=m.ai.Q.length+64*(d.2.2.take k).length:=X;have UN: (d.2.2.take k).length<=k:=by simp;omega
  have hdl:=hd.len;refine⟨by omega,?_⟩;refine gE f.2 (λj e T E=> ∃u,e 0= .ptr M 0/\e 1= .int .i64 t/\e 4= .ptr N 0/\e 6= .ptr (N+2) 0/\e 34=bv/\e 35= .int .i64 d.2.2.length/\e 36= .int .i64 k/\e 9= .ptr nn 0/\e 41= .int .i64 f.2/\e 42= .int .i64 j/\bI n M p q {m with ai:=jw (kc m d k) f j} u ev aE aO T/\fH (u=qv/\ev=ev) p E/\T[nn]?=some (.box (aA f) none)/\T[N]?=some (.box (bp fI) none)/\T[N+2]?=some (.box (bH d.2.1) none)/\Fm n [M,p,q] H T) 0 (by omega) ?_ ?_
  ·refine⟨s,?_⟩;simp(disch:=omega) only[go_sem,simprocAttr,C,e1,R,e6,l,i,h];refine⟨?_,by simpa using g,bf J,bf K,P.trans (Fm.app _ (by have:=o.co.mp;omega))⟩;have e1:jw (kc m d k) f 0=kc m d k:=by unfold jw;simp
   rw[e1];exact o.app _
  have hK0:=o.co.box;have aC3:p<nn:=by rw[<-hn];exact o.co.lt
  clear g J K C e1 R e6 l i h o P hn;rintro j hj e T E ⟨u,C,e1,R,e6,l,i,h,e9,e41,e42,A,g,wn,J,K,P⟩ n2 hn2;simp(disch:=omega) only[bO,go_sem,simprocAttr,afq,C,e1,R,e6,l,i,h,e41,e42];refine⟨λhh=>?_,λhh=>?_⟩
  ·have Y:j<f.2:=by omega
   have hwl:=A.co.lt;have hwm:=A.co.mp;have DR: (jw (kc m d k) f j).Q.length<=m.ai.Q.length+64*k+f.2:=by
    have: (jw (kc m d k) f j).Q.length=(kc m d k).Q.length+((gl f).take j).length:=by simp[jw]
    have h2: ((gl f).take j).length<=f.2:=by simp[gl];omega
    omega
   obtain⟨v',W3,g1,g2,g3,g4,B,g6,g7,g8⟩:=cW.append (bytes:=8) (lo:=E) (y:=[.int .i64 ((f.1:Int)+j)]) A.co.jb (by omega) (by omega) rfl rfl (by rw[ae3];unfold room;show((jw (kc m d k) f j).Q.length+1)*8<=_;omega);have eQ: (jw (kc m d k) f j).Q.map fS++[[.int .i64 ((f.1:Int)+j)]]=((jw (kc m d k) f j).Q++[f.1+j]).map fS:=by rw[agp];rfl
   rw[eQ]at g2;obtain⟨c1,c2⟩:=A.co.ax0 g2 g3 g4 B;have Z:=A.ai c1 c2;have eT: {jw (kc m d k) f j with Q:=(jw (kc m d k) f j).Q++[f.1+j]}=jw (kc m d k) f (j+1):=by
    unfold jw;rw[akE Y,<-aev]
   rw[eT]at Z;have O: ∀cs tg,∀a d,ae.box cs tg≠ .row a 1 ot d:=λ_ _ _ _ e=>by cases e
   have wp':=B p _ (O _ _) A.co.box;have g8': ¬v'.refs<=p+1:=by omega
   simp(disch:=omega) only[go_sem,simprocAttr,C,e1,R,e6,l,i,h,e9,e41,e42,A.box,A.co.box,qy,KL,↓KL,wn,g1,wp',KS,g6,g7,g8'];refine⟨Y,v',Z,?_,B nn _ (O _ _) wn,B N _ (O _ _) J,B (N+2) _ (O _ _) K,P.trans (bI.fc c2)⟩;rcases g with⟨rfl,_⟩| ⟨j2,hj2,rfl⟩
   ·exact .inr ⟨p,ae0 _,rfl⟩
   ·exact .inr ⟨min p j2,by omega,rfl⟩
  ·obtain rfl:j=f.2:=by omega
   have C:kc m d (k+1)=jw (kc m d k) f f.2:=by
    rw[akD];unfold kc;rw[<-F,agu,adQ w,amG,agn,adQ w];rfl
   exact⟨w,u,by rw[C];exact A,g.imp (λq=>⟨q.1,q.2.1⟩) id,J,K,P⟩
 ·obtain rfl:k=d.2.2.length:=by omega
  have g:fH (s=qv/\ev=ev) p ak:=g;obtain⟨v',W3,g1,g2,g3,g4,B,g6,g7,g8⟩:=cW.append (bytes:=96) (lo:=ak) (y:=cE ⟨t,fI,(0,0),d.2.1,m.now,m.now⟩) o.rQ (by have:=o.lt;have:=o.co.mp;omega) (by omega) rfl rfl (by rw[ae3];unfold room;have:=hm.ev;show(m.aV.length+1)*96<=_;omega);have eE:m.aV.map cE++[cE ⟨t,fI,(0,0),d.2.1,m.now,m.now⟩]=(m.aV++[(⟨t,fI,(0,0),d.2.1,m.now,m.now⟩:Event)]).map cE:=by rw[agp];rfl
  have g2:cW (max n (M+1)) W3 v' 14 nb ((m.aV++[(⟨t,fI,(0,0),d.2.1,m.now,m.now⟩:Event)]).map cE):=eE ▸ g2;have I:=o.alM g2 B g3;have G:=alN o g3 g4 B (.box (cJ {m with aV:=m.aV++[⟨t,fI,(0,0),d.2.1,m.now,m.now⟩]} p aE aO v') none);have O: ∀cs tg,∀a d,ae.box cs tg≠ .row a 14 nb d:=λ_ _ _ _ e=>by cases e
  have wM:=B M _ (O _ _) o.box;have hv': ¬v'.refs<=M+1:=by omega
  have Ub: ∀c:cy,bp c=[.int .u8 c.op,.int .u32 c.r,.int .u32 c.s,.int .u32 c.a,.int .u32 c.b,.int .u64 c.v]:=λ_=>rfl
  have hse: ∀r:bG,bH r=[.int .i64 r.e,.int .u64 r.v,.int .u32 r.w]:=λ_=>rfl
  have xO: ∀a b:Nat,[AV.int .i64 (t:Int),.int .u8 fI.op,.int .u32 fI.r,.int .u32 fI.s,.int .u32 fI.a,.int .u32 fI.b,.int .u64 fI.v,.int .i64 0,.int .i64 0,.int .i64 d.2.1.e,.int .u64 d.2.1.v,.int .u32 d.2.1.w,.int .i64 a,.int .i64 b]=cE ⟨t,fI,(0,0),d.2.1,a,b⟩:=λ_ _=>rfl
  have pt: ∀e,(cE e).length=14:=λ_=>rfl
  have het: ∀e,List.take 14 (cE e)=cE e:=λ_=>rfl
  simp only[go_sem,simprocAttr,o.box,C,e1,R,e6,Ar,Vs,J,K,Ub,hse,xO,pt,het,g1,g6,g7,hv',wM,alH,oY];refine gY.fin (v:=.ax []) x hN I (P.trans G) ?_ (ae4 _);rcases g with⟨rfl,_⟩| ⟨j2,hj2,rfl⟩
  ·exact .inr ⟨M,by omega,rfl⟩
  ·exact .inr ⟨min M j2,by omega,rfl⟩
end Go.Proofs.YtcdeobefbpnfeaaGreatDoor
