/- What functions do; conditions as stated. -/
import Derived.Test.YteplichagkpciaaGreatDoorM2
set_option linter.all false
set_option maxRecDepth 10000
set_option maxHeartbeats 1000000
namespace Go.Proofs.YteplichagkpciaaGreatDoor
open Go Go.Den
variable{aa k i sz p q m M:Nat}{c:cz}{a v qv rv ev:AV}{b lo:oN}{af:List lA}{l:List aF}{tg:Option TypeId}{H0:List ae}{Q:Prop}{x:Core}{r:bB}{aD aJ:Nat->AV}
def aop:=@List.take_set_of_le
def avP:=@List.all_eq_not_any_not
def KY(m:Marks)(a aa:Nat):Marks:=if gA a aa then aq m a (yY (m a) aa)else m
def at2(m:Marks)(r: ∀i,gF (m i))(a aa:Nat)(s:aa<4294967296)(H:List ae)(lo:oN):
  D X0 (.fn (.func 146) [] []) [.agg (ck m),.int .i64 a,.int .i64 aa] ⟨H,lo⟩=some (.ret (.agg (ck (KY m a aa))) ⟨H,lo⟩):=by
 refine aH Ee λN l=>?_
 have g:oD.length=320:=by rfl
 have d:List.drop 320 oD=[]:=afL (by omega);have q: ∀m:Marks,List.take 320 (ck m)=ck m:=λm=>ac4 (by rw[dI];omega)
 have b:=λH lo=>KX a aa H lo
 unfold KY;cases c:gA a aa with
 |false=>
  rw[c]at b;simp only[F1,go_sem,simprocAttr,Ee,l,b,↓qV,dI,jF,g,d]
  try rfl
 |true=>
  rw[c]at b;obtain⟨j,t⟩:a<32/\aa<8:=by unfold gA at c;simpa using c
  have f: (0:Int)<=a/\ (a:Int)<32:=by omega
  have k:a*10<=319:=by omega
  have n:=(r a).has;simp only[aeE];unfold yY;by_cases p: (m a).has=aa+1
  ·have e: (((m a).has:Nat):Int)=(aa:Int)+1:=by omega
   have h:aM (ck m) (a*10) [.int .u8 0]=ck (aq m a {m a with has:=0}):=BQ (o:=0) j (by simp) rfl;rw[acE p];simp only[F1,go_sem,simprocAttr,Ee,l,b,f,↓qW j,e,h,k,↓qV,dI,jF,g,d]
  ·have e: ¬(((m a).has:Nat):Int)=(aa:Int)+1:=by omega
   rw[acz p,l6];simp(disch:=omega) only[F1,go_sem,simprocAttr,Ee,l,b,f,↓qW j,e,↓qV,dI,jF,g,d]
def po(m:Marks)(aa k:Nat):Marks:=λi=>if i<k then me m aa i else m i
def at3(m:Marks)(a:aa<8)(b:k<32):po m aa (k+1)=aq (po m aa k) k (sr (yY (m k) aa) aa):=by
 funext i
 unfold po aq;by_cases e:i=k
 ·subst e;rw[acE (by omega),acE rfl];unfold me;rw[acE (by unfold gA;grind)]
 grind
def at4(m:Marks)(aa:Nat):po m aa 32=me m aa:=by
 funext i
 unfold po;by_cases h:i<32
 ·grind
 ·rw[acz h];unfold me;rw[acz (by unfold gA;grind)]
def at5(m:Marks)(k:Nat)(a: ¬aa<8):po m aa k=m:=by
 funext i
 unfold po me;split
 ·rw[acz (by unfold gA;grind)]
 ·rfl
def aii{l:eV}(h:gF l)(aa:Nat):gF (yY l aa):=by
 unfold yY;split
 ·exact⟨by simp,h.n,h.lt,h.inj⟩
 omega
def at6{l:eV}(h:gF l)(n:i<l.n):gF (RF l i):=by
 have m:=h.n;have f:=h.lt;unfold RF;refine⟨h.has,by grind,λj=>?_,λa b k g c=>?_⟩
 ·show(if j=l.n-1 then 0 else if i<=j/\j<7 then l.wait (j+1)else l.wait j)<8
  grind
 ·have e:a<l.n-1:=k;have d:b<l.n-1:=g;simp only[aq,acz (show a≠l.n-1 by omega),acz (show b≠l.n-1 by omega)]at c;have key: ∀j,j<l.n-1->(if i<=j/\j<7 then l.wait (j+1)else l.wait j)=l.wait (if i<=j then j+1 else j):=by grind
  rw[key a e,key b d]at c;have:=h.inj _ _ (by grind) (by grind) c
  grind
def aij{l:eV}(h:gF l)(aa:Nat):gF (sr l aa):=by
 unfold sr;split
 ·exact h
 ·rename_i i a;exact at6 h (aib a).1
def Tb{m:Marks}(a: ∀i,gF (m i))(aa:Nat): ∀i,gF (me m aa i):=by
 intro i;unfold me;split
 ·exact aij (aii (a i) aa) aa
 grind
def at7{m:Marks}(a: ∀i,gF (m i))(aa k:Nat): ∀i,gF (po m aa k i):=by
 intro i;unfold po;split
 ·exact Tb a aa i
 grind
def aua{m:Marks}(g: ∀i,gF (m i))(c:Nat): ∀i,gF ((ia m c aa).1 i):=by
 unfold ia;split
 ·omega
 rename_i h;obtain⟨v,p⟩:c<32/\aa<8:=by unfold gA at h;grind
 split
 ·omega
 split
 ·intro i;show gF (aq _ _ _ _);unfold aq;split
  ·have:=aij (g c) aa;exact⟨by show aa+1<=8;omega,this.n,this.lt,this.inj⟩
  grind
 split
 ·rename_i f;intro i;show gF (aq _ _ _ _);unfold aq;split
  ·have w:=aih (g c) p f;have k:=g c;have e: ∀j,j< (m c).n->(m c).wait j≠aa:=by
    intro j q he;unfold qH at f;rw[avC]at f;have:=f j (ame.2 q);simp at this;omega
   refine⟨k.has,by show(m c).n+1<=8;omega,λj=>?_,λa b u s l=>?_⟩
   ·show(if j=(m c).n then aa else(m c).wait j)<8;split
    ·exact p
    ·exact k.lt j
   ·have t:a< (m c).n+1:=u;have r:b< (m c).n+1:=s;have d: (if a=(m c).n then aa else(m c).wait a)=(if b=(m c).n then aa else(m c).wait b):=l;by_cases o:a=(m c).n<;>by_cases n:b=(m c).n
    ·omega
    ·rw[acE o,acz n]at d;exact absurd d.symm (e b (by omega))
    ·rw[acz o,acE n]at d;exact absurd d (e a (by omega))
    ·rw[acz o,acz n]at d;exact k.inj a b (by omega) (by omega) d
  ·exact g i
 omega
def aub(m:Marks)(z: ∀i,gF (m i))(aa:Nat)(y:aa<4294967296)(H:List ae)(lo:oN):
  D X0 (.fn (.func 133) [] []) [.agg (ck m),.int .i64 aa] ⟨H,lo⟩=some (.ret (.agg (ck (me m aa))) ⟨H,lo⟩):=by
 refine aH Pl λN E=>?_
 have x:oD.length=320:=by rfl
 have j:List.drop 320 oD=[]:=afL (by rw[x];omega);have f: ∀m:Marks,List.take 320 (ck m)=ck m:=λm=>ac4 (by rw[dI];omega)
 have g: ∀m:Marks,List.drop 320 (ck m)=[]:=λm=>afL (by rw[dI];omega)
 simp only[go_sem,simprocAttr,Pl,E];refine ek 32 (λk e H'=>H'=H++[.box (ck (po m aa k)) none,.box oD none]/\e 1= .int .i64 aa/\e 2= .ptr N 0/\e 4= .ptr (N+1) 0/\e 6= .int .i64 k) 0 (by omega) ?_ ?_
 ·simp only[go_sem,simprocAttr];rfl
 rintro k G e H' ⟨rfl,w,v,u,t⟩ n F;simp(disch:=omega) only[cg,go_sem,simprocAttr,adB,w,v,u,t];refine⟨λC=>?_,λC=>?_⟩
 ·have d:k<32:=by omega
  have h: (0:Int)<=k/\ (k:Int)<32:=by omega
  have r:k*10+10<=320:=by omega
  have a:=λH lo=>at2 _ (at7 z aa k) k aa y H lo
  have b:=λH lo=>KX k aa H lo
  have s:po m aa k k=m k:=by unfold po;rw[acz (by omega)]
  by_cases A:aa<8
  ·have c:gA k aa=true:=by unfold gA;simp;omega
   have B:=at3 m A d;unfold KY at a;rw[c,s,acE rfl]at a;rw[c]at b;have p:=λH lo=>aif _ (aii (z k) aa) aa y H lo
   have q: ∀ (m:Marks) (l:eV),aM (ck m) (k*10) (fi l)=ck (aq m k l):=λm l=>BQ (o:=0) d (by rw[zn];omega) rfl
   simp(disch:=omega) only[go_sem,simprocAttr,w,v,u,t,b,a,h,r,↓wY d,p,q,cu,r9,dI,jF,zn,Fc,f,g,aeC];rw[B];exact⟨d,rfl⟩
  ·have c:gA k aa=false:=by unfold gA;simp;omega
   unfold KY at a;rw[c,acz (by simp)]at a;rw[c]at b;simp only[at5 m _ A]at a⊢;simp(disch:=omega) only[go_sem,simprocAttr,w,v,u,t,b,a,h,dI,jF,f,g,aeC];exact d
 ·obtain rfl:k=32:=by omega
  rw[at4];simp(disch:=omega) only[F1,go_sem,simprocAttr,dI,jF,x,j,f]
noncomputable def Ff:lA->AS->Option aT:=ny XB (D XB) Lw 166 Jo
def BR(args:lA)(E:AS):Option aT:=match args with
 | [.an,.int .i64 n]=>if n=0 then some (.ret .an E)else if 0<n/\n<=1024 then some (.ret (.ref E.heap.length 0 2 0 0 false) (E.push (.row 0 2 fg [])))else none
 |_=>none
noncomputable def XC:Ctx:={XB with bU:=λf=>if f=166 then some Ff else if f=192 then some BR else XB.bU f}
theorem aik:Ext XB XC where
 dy:=rfl
 fG:=rfl
 code:=rfl
 bU:=λf=>by
  by_cases b:f=166
  ·subst b;exact .inr ⟨rfl,rfl⟩
  ·by_cases a:f=192
   ·subst a;exact .inr ⟨rfl,rfl⟩
   ·left;show(if f=166 then some Ff else if f=192 then some BR else XB.bU f)=XB.bU f
    grind
section
variable{v:AV}{args:lA}{E:AS}{r:aT}
def cB(h:D XB v args E=some r):D XC v args E=some r:=wH aik h
def c0(h:D X0 v args E=some r):D XC v args E=some r:=wH aik (lz h)
end
def auc{X:Ctx}{f:FuncId}{p:lA->AS->Option aT}{args a:lA}{E:AS}{b:aT}(c:X.bU f=some p)(h:p (args++a) E=some b):D X (.fn (.func f) [] a) args E=some b:=by
 refine GC ?_;simp only[Go.Den.step,c,afY];exact h
def Tc{s:bF}(f:bm s)(l:jE c){a b:Nat}{H:List ae}(n:H[a]?=some (.box (bz s) none))(m:H[b]?=some (.box (bg c) none))(N:Nat)(o:H.length=N)(lo:oN):
  ∃v J aj,D XC (.fn (.func 166) [] [.ptr a 0,.ptr b 0]) [] ⟨H,lo⟩=some (.ret v ⟨H++J,aj⟩)/\aR N (H++J) v 1 bZ ((under s.T c.r).map hC)/\ (aj=lo\/ ∃j,N<=j/\aj=cK lo j):=by
 suffices i: ∃d,Ff [.ptr a 0,.ptr b 0] ⟨H,lo⟩=some d/\ (λd=> ∃v J aj,d=aT.ret v ⟨H++J,aj⟩/\aR N (H++J) v 1 bZ ((under s.T c.r).map hC)/\ (aj=lo\/ ∃j,N<=j/\aj=cK lo j)) d by
  obtain⟨d,t,v,J,aj,rfl,q⟩:=i;exact⟨v,J,aj,auc (p:=Ff) rfl t,q⟩
 refine vF (X:=XB) Jo rfl λM u=>?_
 obtain⟨v,J,aj,e,h,g⟩:=Kq s.T f.T f.tr c.r l.r N H o none;have e:=lX e;simp only[go_sem,simprocAttr,Jo,n,m,↓SL,fU,e,rK];refine⟨_,_,_,rfl,h,?_⟩;rcases g with rfl| ⟨j,k,rfl⟩
 ·exact .inl rfl
 ·exact .inr ⟨j,k,rfl⟩
def aud(n:Nat)(c:n<=1024)(H:List ae)(lo:oN):
  D XC (.fn (.func 192) [] []) [.an,.int .i64 n] ⟨H,lo⟩=some (.ret (if n=0 then .an else .ref H.length 0 2 0 0 false) ⟨H++(if n=0 then[]else[.row 0 2 fg []]),lo⟩):=by
 refine CV (p:=BR) rfl ?_;unfold BR;by_cases h:n=0
 ·grind
 ·have b: ¬((n:Nat):Int)=0:=by omega
  have a: (0:Int)<n/\ (n:Int)<=1024:=by omega
  simp only[acz h,acz b,acE a];rfl
abbrev VR:=AV×List aF
def fw(l:List VR):List aF:=l.flatMap (·.2)
def zp(x:VR):lA:=[x.1]
def KZ{l:List VR}(h:k<l.length):fw (l.take (k+1))=fw (l.take k)++(l.getD k default).2:=by
 unfold fw;rw[aex,amv,aer,acJ h];simp
def aue{N:Nat}{H:List ae}{bytes:Nat}{ty:TypeId}(h:aR N H v sz ty af)(a:0<sz)(d:af.length*bytes<=room):dm ⟨H,lo⟩ ty sz bytes v []=some (v,⟨H,lo⟩):=by
 unfold dm;rw[acE ⟨a,rfl⟩];rcases h.2 with⟨rfl,_⟩| ⟨id,ai,c,rfl,b⟩
 ·rfl
 grind
def auf(l:List VR)(hl:l.length<=3)(Q: ∀x∈l,x.2.length<=64)(H:List ae)(S: ∀x∈l,Rd ⟨H,none⟩ x.1 2 (x.2.map aA))(lo:oN):
  D XC (.fn (.func 186) [] []) [.sl (l.map zp) true] ⟨H,lo⟩=some (.ret (en (fw l)) ⟨H,lo⟩):=by
 refine aH PO λN Y=>?_
 have s:Rv (.sl (l.map zp) true) 1 (l.map zp):=.sl (by intro el d;obtain⟨x,_,rfl⟩:=ael.1 d;rfl);have y: ∀k,(fw (l.take k)).length<=64*k:=by
  intro k
  induction k with
  |zero=>simp[fw]
  |succ k ih=>
   by_cases h:k<l.length
   ·rw[KZ h,ac6];have:=Q _ (fE h);omega
   ·rw[ac4 (by omega)];rw[ac4 (by omega)]at ih;omega
 generalize(AV.sl (l.map zp) true)=V at*;simp only[go_sem,simprocAttr,PO,s.bK];refine ek l.length (λk e H'=>H'=H/\e 0=V/\e 3= .int .i64 (fw (l.take k)).length/\e 9=V/\e 10= .int .i64 l.length/\e 11= .int .i64 k) 0 (by omega) ?_ ?_
 ·simp only[go_sem,simprocAttr];rfl
 rintro k hk e H' ⟨rfl,h0,P,Z,B,A⟩ n hn;simp only[cg,go_sem,simprocAttr,adM,P,Z,B,A];refine⟨λM=>?_,λM=>?_⟩
 ·have a:k<l.length:=by omega
  have j:=(S _ (fE a)).bK;have w:=y (k+1);have X:=y k;rw[KZ a,ac6]at w;have u: ((fw (l.take k)).length:Int)+(l.getD k default).2.length=((fw (l.take (k+1))).length:Nat):=by rw[KZ a,ac6];omega
  have J: ¬(((fw (l.take (k+1))).length:Nat):Int)<0:=by omega
  have g: (zp (l.getD k default))[0]?=some (l.getD k default).1:=rfl;have U:=y (k+1);simp(disch:=omega) only[go_sem,simprocAttr,h0,P,Z,B,A,s.cG,s.cS,g,j,u,J];exact⟨by omega,a⟩
 ·obtain rfl:k=l.length:=by omega
  have c:fw (l.take l.length)=fw l:=by rw[aeo]
  rw[c]at P;have O:=aud (fw l).length (by have:=y l.length;rw[c]at this;omega);simp only[go_sem,simprocAttr,c,h0,O,s.bK];obtain⟨v0,t⟩: ∃v0,v0=(if(fw l).length=0 then .an else AV.ref H'.length 0 2 0 0 false):=⟨_,rfl⟩;obtain⟨E,z⟩: ∃E,E=H'++(if(fw l).length=0 then[]else[ae.row 0 2 fg []]):=⟨_,rfl⟩;rw[<-t,<-z];have G:aR N E v0 2 fg ([].map aA)/\ ((fw l).length=0->v0= .an)/\H'<+:E:=by
   rw[t,z];by_cases h: (fw l).length=0
   ·rw[acE h,acE h];exact⟨aR.an,λ_=>rfl,by simp⟩
   ·rw[acz h,acz h];exact⟨⟨by simp,.inr ⟨H'.length,0,by omega,rfl,by simp⟩⟩,λq=>absurd q h,anY _ _⟩
  refine ek l.length (λk e W=>(∃v,e 6=v/\aR N W v 2 fg ((fw (l.take k)).map aA)/\ ((fw l).length=0->v= .an))/\H'<+:W/\e 25=V/\e 26= .int .i64 l.length/\e 27= .int .i64 k) 0 (by omega) ?_ ?_
  ·simp only[go_sem,simprocAttr];exact⟨⟨_,rfl,G.1,G.2.1⟩,G.2.2⟩
  rintro k hk e W ⟨⟨v,h6,r,f⟩,b,p,o,m⟩ n hn;simp only[cg,F1,go_sem,simprocAttr,adL,h6,p,o,m];refine⟨λM=>?_,λM=>?_⟩
  ·have a:k<l.length:=by omega
   have j:=Rd.mono (aj:=none) (S _ (fE a)) b;have g: (zp (l.getD k default))[0]?=some (l.getD k default).1:=rfl;have d:=j.eq;have w:=y k;have hzk:=Q _ (fE a);have C:=KZ a;simp(disch:=omega) only[go_sem,simprocAttr,h6,s.cG,s.cS,g,d];generalize Ag: (l.getD k default).2=rr at*;by_cases R:rr=[]
   ·subst R;rw[aeC]at C;rw[avb,aue r (by omega) (by rw[aej];unfold room;omega)];simp(disch:=omega) only[go_sem,simprocAttr,p,o,m];rw[C];exact⟨by omega,a,⟨v,rfl,r,f⟩,b⟩
   ·have K: ¬(fw l).length=0:=by
      intro q;have q2:fw l=[]:=ahK.1 q;have:fw l=fw (l.take (k+1))++fw (l.drop (k+1)):=by
       unfold fw;rw[<-amv,amx]
      rw[C]at this;rw[q2]at this;simp[R]at this
    refine⟨by omega,?_⟩;refine oA (bytes:=16) (ys:=rr.map aA) r b Y (by omega) (by intro el d;obtain⟨x,_,rfl⟩:=ael.1 d;rfl) (bp (λ_=>rfl) _) (by rw[aej,aej];unfold room;omega) λv' W2 F I=>?_
    simp(disch:=omega) only[go_sem,simprocAttr,p,o,m];rw[C,aeq];exact⟨a,⟨v',rfl,F,λq=>absurd q K⟩,I⟩
  ·obtain rfl:k=l.length:=by omega
   rw[c]at r;have T:=r.Hd (lo:=lo) (by rw[bp (λ_=>rfl)];omega);rw[Aa]at T;rw[T];refine de ?_ (kS Y λi hi=>?_)
   ·unfold en;by_cases h: (fw l).length=0
    ·rw[f h,ahK.1 h];rfl
    ·have h1: (fw l).isEmpty=false:=by
       cases hq:fw l with
       |nil=>rw[hq]at h;exact absurd rfl h
       |cons=>rfl
     rw[h1];rcases r.2 with⟨_,q⟩| ⟨id,ai,_,rfl,_⟩
     ·rw[aoq]at q;rw[q]at h;exact absurd rfl h
     ·rfl
   ·obtain⟨L,rfl⟩:=b;rw[abP (by omega)]
def aug(x y:aF)(c:x.1+x.2<4294967296)(b:y.1+y.2<4294967296)(p:Nat)(H:List ae)(lo:oN)(d:H[p]?=some (.box (aA x) none)):
  D X0 (.fn (.func 185) [] [.ptr p 0]) [.agg (aA y)] ⟨H,lo⟩=some (.ret (.bool (holds y x)) ⟨H,lo⟩):=by
 refine fe PN λN e=>?_
 have a: ∀L,(H++L)[p]?=some (.box (aA x) none):=λL=>bf d
 simp only[F1,go_sem,simprocAttr,PN,e,a,afC y x b c]
def auh(b:Rv v 2 (l.map aA))(d:l≠[]): ∃c,v= .sl (l.map aA) c:=by
 obtain⟨e,a,f⟩:=b ⟨[],none⟩;cases v<;>simp only[]at e
 ·simp only[Den.elems]at a;simp_all
 ·simp only[Den.elems]at a
  grind
 ·trivial
def aui(b: ∀el∈af,el.length=sz){c:Bool}(f:i<=af.length): ∃w,fZ sz (.sl af c) none (some (.int .i64 i)) none=some w/\Rv w sz (af.take i):=by
 refine⟨.sl (af.take i) (c&&i==af.length),?_,.sl λel a=>b el (afZ a)⟩;have d:fY af.length none (some (.int .i64 i))=some (0,i):=by
  have e: (i:Int)<=af.length:=by omega
  simp[fY,k0,e]
 simp only[fZ,d,k5]
 grind
def ail(b: ∀el∈af,el.length=sz){c:Bool}(g:i<=af.length): ∃w,fZ sz (.sl af c) (some (.int .i64 i)) none none=some w/\Rv w sz (af.drop i):=by
 refine⟨.sl (af.drop i) (c&&af.length==af.length),?_,.sl λel a=>b el (am3 a)⟩;have d:fY af.length (some (.int .i64 i)) none=some (i,af.length):=by
  have f: (i:Int)<=af.length:=by omega
  simp[fY,k0,f]
 have e:af.all (λel=>el.length==sz)=true:=by grind
 simp only[fZ,d,k5];rw[acE e,ac4 (by simp)]
def aim(l:List aF): ∀el∈l.map aA,el.length=2:=by intro el a;obtain⟨x,_,rfl⟩:=ael.1 a;rfl
def Td(v:AV)(l:List aF)(x:aF):AV:=match qI l x with
 |some a=>.av [.agg [en a],.bool true]
 |none=>.av [.agg [v],.bool false]
def na{E:AS}(h:Rd E v sz af):v.cm=false/\v.cells=[v]:=by
 have a:=h.kind;cases v<;>simp only[]at a<;>exact⟨rfl,rfl⟩
def auj(v:AV)(l:List aF)(E:Rv v 2 (l.map aA))(G:za l)(x:aF)(RN:x.1<4294967296)(RP:x.2<4294967296)(H:List ae)(lo:oN):
  D XC (.fn (.func 174) [] []) [.agg [v],.int .i64 (x.1:Nat),.int .i64 (x.2:Nat)] ⟨H,lo⟩=some (.ret (Td v l x) ⟨H,lo⟩):=by
 refine aH Eh λN p=>?_
 have hm:=λH lo=>c0 (RI x RN RP H lo)
 have hr:aA x=[.int .i64 (x.1:Nat),.int .i64 (x.2:Nat)]:=rfl;rw[hr]at hm;have F:v.refs=0:=cq E (bp (λ_=>rfl) l);unfold Td;cases f:kK x with
 |false=>
  have e0:qI l x=none:=by unfold qI;rw[acE f]
  rw[e0];rw[f]at hm;simp only[F1,go_sem,simprocAttr,Eh,p,hm,F]
 |true=>
  rw[f]at hm;have hx:1<=x.2/\x.1+x.2<=64:=by simpa[kK]using f
  have d:=λH lo h=>c0 (afx v (.fn (.func 185) [] [.ptr (N+2) 0]) l E (by have:=G.1;omega) (λy=>holds y x) H lo h)
  have d:=d (H++[.box [v] none,.box [.an] none,.box (aA x) none]) none (λy Z=>aug x y (by omega) (by have:=G.2 y Z;omega) (N+2) _ none (by rw[bE p];rfl));rw[hr]at d;have e1:qI l x=match l.findIdx? λy=>holds y x with
   |none=>none
   |some i=>some (l.take i++((if(l.getD i (0,0)).1<x.1 then[((l.getD i (0,0)).1,x.1- (l.getD i (0,0)).1)]else[])++(if x.1+x.2< (l.getD i (0,0)).1+(l.getD i (0,0)).2 then[(x.1+x.2,(l.getD i (0,0)).1+(l.getD i (0,0)).2- (x.1+x.2))]else[]))++l.drop (i+1)):=by
   unfold qI;rw[acz (by rw[f];simp)];rfl
  rw[e1];unfold ka at d;cases hi:l.findIdx? (λy=>holds y x)with
  |none=>
   rw[hi]at d;simp only at d;simp only[F1,go_sem,simprocAttr,Eh,p,hm,d,F]
  |some i=>
   rw[hi]at d;simp only at d⊢;have I:i<l.length:=by
    obtain⟨h,_⟩:=arp.1 hi;exact h
   have hi0: ¬((i:Nat):Int)<0:=by omega
   have Hi:=G.1;have hrv:=λl=>cq (mN l) (bp (g:=aA) (λ_=>rfl) l)
   have ir:l.getD i (0,0)=l.getD i default:=rfl;rw[ir];have hyb:=G.2 _ (fE I);have azC:=E.cG (k:=.i64) (a:=i);obtain⟨c,hvc⟩:=auh E (by rintro rfl;simp at I);obtain⟨w1,s1,U⟩:=aui (c:=c) (aim l) (i:=i) (by rw[aej];omega);obtain⟨R,s2,T⟩:=ail (c:=c) (aim l) (i:=i+1) (by rw[aej];omega);rw[<-hvc]at s1 s2;rw[<-List.map_take]at U;rw[<-List.map_drop]at T;generalize Z:l.getD i default=y at*;obtain⟨B,hB⟩: ∃B:List ae,B=[.box [v] none,.box [.an] none,.box (aA x) none,.box (aA y) none]:=⟨_,rfl⟩;have O: (H++B).length=N+4:=by rw[hB];simp[p]
   have gW: ∀W,(H++B)<+:W->W[N]?=some (.box [v] none)/\W[N+1]?=some (.box [.an] none)/\W[N+2]?=some (.box (aA x) none)/\W[N+3]?=some (.box (aA y) none):=by
    rintro W ⟨L,rfl⟩;rw[hB,acF];refine⟨by rw[di p];rfl,by rw[bE p];rfl,by rw[bE p];rfl,by rw[bE p];rfl⟩
   have CI: (aA x)[0]?=some (.int .i64 x.1):=rfl;have CK: (aA y)[0]?=some (.int .i64 y.1):=rfl;have hex:=λH lo=>c0 (Bt x (by omega) H lo)
   have J:=λH lo=>c0 (Bt y (by omega) H lo)
   have tx:List.take 2 (aA x)=aA x:=rfl;have ty:List.take 2 (aA y)=aA y:=rfl;have dz: ∀r:aF,List.drop 2 (aA r)=[]:=λ_=>rfl
   have lx: ∀r:aF,(aA r).length=2:=λ_=>rfl
   have bl: ∀a b:Nat,[AV.int .i64 (a:Int),AV.int .i64 (b:Int)]=aA (a,b):=λ_ _=>rfl
   simp(disch:=omega) only[go_sem,simprocAttr,Eh,p,hm,d,hi0,E.cG,E.cS,Z,lx];refine⟨by omega,?_⟩;refine Zr (λe W aj=>aj=none/\ (H++B)<+:W/\aR (N+4) W (e 12) 2 fg ((if y.1<x.1 then[(y.1,x.1-y.1)]else[]).map aA)/\e 3= .ptr N 0/\e 6= .ptr (N+1) 0/\e 8= .ptr (N+2) 0/\e 10= .int .i64 i/\e 11= .ptr (N+3) 0) ?_ ?_
   ·simp(disch:=omega) only[cg,go_sem,simprocAttr];refine⟨λa=>?_,λa=>?_⟩
    ·have V: (x.1:Int)-y.1=((x.1-y.1:Nat):Int):=by omega
     simp only[go_sem,simprocAttr,V];refine oA (N:=N+4) (H0:=H++B) (af:=[]) (bytes:=16) (ys:=[aA (y.1,x.1-y.1)]) aR.an (by rw[hB];exact aoN) O (by omega) (by intro el t;rw[ada.1 t];rfl) rfl (by simp[room]) λv' W2 Y X=>?_
     simp only[go_sem,simprocAttr,GR];rw[acE (by omega)];exact⟨X,Y⟩
    ·simp only[go_sem,simprocAttr,GR];rw[acz (by omega)];exact⟨by rw[hB];exact aoN,aR.an⟩
   ·rintro e W aj ⟨rfl,s,q,e3,e6,e8,n,m⟩;obtain⟨C,M⟩: ∃C,C=(if y.1<x.1 then[(y.1,x.1-y.1)]else[]):=⟨_,rfl⟩;have azD:C.length<=1:=by rw[M];split<;>simp
    rw[<-M]at q⊢;obtain⟨g0,g1,g2,Q⟩:=gW W s;simp only[go_sem,simprocAttr,g2,Q,e8,m,hex,J];refine Zr (λe W aj=>aj=none/\ (H++B)<+:W/\aR (N+4) W (e 12) 2 fg ((C++(if x.1+x.2<y.1+y.2 then[(x.1+x.2,y.1+y.2- (x.1+x.2))]else[])).map aA)/\e 3= .ptr N 0/\e 6= .ptr (N+1) 0/\e 8= .ptr (N+2) 0/\e 10= .int .i64 i/\e 11= .ptr (N+3) 0) ?_ ?_
    ·simp only[cg,go_sem,simprocAttr];refine⟨λa=>?_,λa=>?_⟩
     ·have V: (y.1:Int)+y.2- ((x.1:Int)+x.2)=((y.1+y.2- (x.1+x.2):Nat):Int):=by omega
      have q2: (x.1:Int)+x.2=((x.1+x.2:Nat):Int):=by omega
      simp(disch:=omega) only[go_sem,simprocAttr,g2,Q,e8,m,hex,J,V];rw[q2];refine oA (H0:=H++B) (bytes:=16) (ys:=[aA (x.1+x.2,y.1+y.2- (x.1+x.2))]) q s O (by omega) (by intro el t;rw[ada.1 t];rfl) rfl (by rw[aej];simp[room];omega) λv' W2 Y X=>?_
      simp only[go_sem,simprocAttr,GR,e3,e6,e8,n,m];rw[acE (by omega),aeq];exact⟨X,Y⟩
     ·simp only[go_sem,simprocAttr,GR,e3,e6,e8,n,m];rw[acz (by omega),aeC];exact⟨s,q⟩
    ·clear g0 g1 g2 Q s q e3 e6 e8 n m e W;rintro e W aj ⟨rfl,s,q,e3,e6,e8,n,m⟩;obtain⟨P,A⟩: ∃P,P=C++(if x.1+x.2<y.1+y.2 then[(x.1+x.2,y.1+y.2- (x.1+x.2))]else[]):=⟨_,rfl⟩;have azE:P.length<=2:=by rw[A];split<;>simp<;>omega
     rw[<-A]at q;generalize hw:e 12=w at*;obtain⟨g0,g1,g2,Q⟩:=gW W s;have u:=λlo=>auf [(w1,l.take i),(w,P),(R,l.drop (i+1))] (by simp) (by have:=G.1;simp;omega) W (by
      intro z hz;simp only[aeB,List.not_mem_nil,or_false]at hz;rcases hz with rfl|rfl|rfl
      ·exact U _
      ·exact q.rd
      ·exact T _) lo
     have K:fw [(w1,l.take i),(w,P),(R,l.drop (i+1))]=l.take i++(C++((if x.1+x.2<y.1+y.2 then[(x.1+x.2,y.1+y.2- (x.1+x.2))]else[])++l.drop (i+1))):=by simp[fw,A]
     rw[K]at u;generalize(l.take i++(C++((if x.1+x.2<y.1+y.2 then[(x.1+x.2,y.1+y.2- (x.1+x.2))]else[])++l.drop (i+1))))=LL at*;obtain⟨t7,t8⟩:=na (mN LL ⟨[],none⟩);have ml:W.take N=H:=kS p λj hj=>by
      obtain⟨L,rfl⟩:=s;rw[acF,abP (by omega)]
     have sX: ∀o,(W.set (N+1) o).take N=H:=λo=>by rw[aop (by omega),ml]
     simp only[alM,avb,zp]at u;obtain⟨t1,t2⟩:=na (U ⟨[],none⟩);obtain⟨t3,t4⟩:=na (T ⟨[],none⟩);obtain⟨t5,t6⟩:=na (q.rd (lo:=none));have S:fZ 2 v (some (.int .i64 ((i:Int)+1))) none none=some R:=s2;simp(disch:=omega) only[F1,go_sem,simprocAttr,g0,g1,e3,e6,n,hw,s1,S,t1,t2,t3,t4,t5,t6,t7,t8,cT g1,sX,u,hrv]
abbrev wZ(a b:aF):Prop:=a.1+a.2<b.1
structure eA(l:List aF):Prop where
 pw:l.Pairwise wZ
 bd: ∀x∈l,1<=x.2/\x.1+x.2<=64
def eA.ok(h:eA l):za l:=by
 refine⟨?_,λx c=>(h.bd x c).2⟩;have f: (l.map (·.1)).Nodup:=by
  rw[au2,ax2];refine h.pw.imp λ {a b} d he=>?_
  omega
 have:=KJ 64 _ f (by
  intro a e;obtain⟨x,c,rfl⟩:=ael.1 e;have:=h.bd x c;omega)
 grind
def eA.nil:eA []:=⟨.nil,by simp⟩
def eA.app{a b:List aF}(e:eA a)(d:eA b)(c: ∀x∈a,∀y∈b,wZ x y):eA (a++b):=
 ⟨al5.2 ⟨e.pw,d.pw,c⟩,λx f=>(ac8.1 f).elim (e.bd x) (d.bd x)⟩
def eA.one{x:aF}(c:1<=x.2)(b:x.1+x.2<=64):eA [x]:=⟨List.pairwise_singleton _ _,λy a=>by grind⟩
def aum: ∀ (l:List aF) (x:aF) (put:Bool) (out k:List aF),1<=x.2->x.1+x.2<=64->eA l->eA out->(∀a∈out,∀b∈l,wZ a b)->(put=false-> ∀a∈out,wZ a x)->(put=true-> ∀b∈l,wZ x b)->
  hO x put out l=some k->eA k:=by
 intro l
 induction l with
 |nil=>
  intro x put out k s r _ ho _ p _ h;unfold hO at h;cases h;cases put with
  |true=>grind
  |false=>exact ho.app (eA.one s r) λa d b e=>by rw[ada.1 e];exact p rfl a d
 |cons y ys t=>
  intro x put out k s r A ho j p w h;have i:=amB.1 A.pw;have g:eA ys:=⟨i.2,λz B=>A.bd z (aew _ B)⟩;have u:=A.bd y (ahM ..);have m: ∀a∈out,wZ a y:=λa d=>j a d y (ahM ..)
  unfold hO at h;split at h
  ·rename_i c;refine t x put (out++[y]) k s r g (ho.app (eA.one u.1 u.2) λa d b e=>by rw[ada.1 e];exact m a d) ?_ ?_ (λq b e=>w q b (aew _ e)) h
   ·intro a d b e;rcases ac8.1 d with d|d
    ·exact j a d b (aew _ e)
    ·rw[ada.1 d];exact i.1 b e
   ·intro q a d;rcases ac8.1 d with d|d
    ·exact p q a d
    ·rw[ada.1 d];exact c
  ·split at h
   ·rename_i c;have v:eA (out++(if put then[]else[x])):=by
     cases put with
     |true=>simpa using ho
     |false=>
      refine ho.app (eA.one s r) λa d b e=>?_
      have:b=x:=by simpa using e
      rw[this];exact p rfl a d
    have o: ∀a∈out++(if put then[]else[x]),wZ a y:=by
     intro a d;rcases ac8.1 d with d|d
     ·exact m a d
     ·cases put with
      |true=>simp at d
      |false=>
       have:a=x:=by simpa using d
       rw[this];exact c
    refine t x true (out++(if put then[]else[x])++[y]) k s r g (v.app (eA.one u.1 u.2) λa d b e=>by rw[ada.1 e];exact o a d) ?_ (λq=>by cases q) ?_ h
    ·intro a d b e;have n:wZ y b:=i.1 b e;rcases ac8.1 d with d|d
     ·have:=o a d;have D:y.1+y.2<b.1:=n;have C:a.1+a.2<y.1:=this;show a.1+a.2<b.1;omega
     ·rw[ada.1 d];exact n
    ·intro _ b e;have D:y.1+y.2<b.1:=i.1 b e;have C:x.1+x.2<y.1:=c;show x.1+x.2<b.1;omega
   ·split at h
    ·rename_i G F E;have f:put=false:=by
      cases put with
      |false=>rfl
      |true=>
       have:x.1+x.2<y.1:=w rfl y (ahM ..);omega
     refine t (y.1,y.2+x.2) put out k (by show 1<=y.2+x.2;omega) (by show y.1+(y.2+x.2)<=64;omega) g ho (λa d b e=>j a d b (aew _ e)) (λ_ a d=>m a d) (λq=>by rw[f]at q;cases q) h
    ·split at h
     ·rename_i G F E H;have f:put=false:=by
       cases put with
       |false=>rfl
       |true=>
        have:x.1+x.2<y.1:=w rfl y (ahM ..);omega
      refine t (x.1,x.2+y.2) put out k (by show 1<=x.2+y.2;omega) (by show x.1+(x.2+y.2)<=64;omega) g ho (λa d b e=>j a d b (aew _ e)) (λq a d=>p q a d) (λq=>by rw[f]at q;cases q) h
     ·cases h
theorem eA.iw{a:List aF}{x:aF}(h:eA l)(b:iw l x=some a):eA a:=by
 unfold Go.Proofs.YteplichagkpciaaGreatDoor.iw at b;split at b
 ·rename_i hm;have c:1<=x.2/\x.1+x.2<=64:=by simpa[kK]using hm
  exact aum l x false [] a c.1 c.2 h eA.nil (by simp) (λ_=>by simp) (λq=>by cases q) b
 grind
theorem eA.take{s:List aF}{x:aF}(h:eA l)(j:qI l x=some s):eA s:=by
 unfold qI at j;split at j
 ·cases j
 rename_i hm;have J:1<=x.2/\x.1+x.2<=64:=by simpa[kK]using hm
 split at j
 ·cases j
 rename_i i E;cases j;obtain⟨m,g,_⟩:=arp.1 E;have p:l.getD i (0,0)=l[i]:=by simp[aer,acJ m]
 rw[p];have d:l=l.take i++(l[i]::l.drop (i+1)):=by rw[<-amf m,amx]
 generalize I:l[i]=y at*;generalize l.take i=A at*;generalize l.drop (i+1)=B at*;have k:=h.pw;have e:=h.bd;rw[d]at k e;obtain⟨w,v,r⟩:=al5.1 k;obtain⟨u,t⟩:=amB.1 v;have C:=e y (by simp);have F:x=y\/ (y.1<=x.1/\x.1+x.2<=y.1+y.2):=by simpa using g
 have D:y.1<=x.1/\x.1+x.2<=y.1+y.2:=by
  rcases F with rfl|q
  ·exact⟨aeg _,aeg _⟩
  ·exact q
 have H:eA A:=⟨w,λz o=>e z (by simp[o])⟩;have hB:eA B:=⟨t,λz o=>e z (by simp[o])⟩;have G:eA ((if y.1<x.1 then[(y.1,x.1-y.1)]else[])++(if x.1+x.2<y.1+y.2 then[(x.1+x.2,y.1+y.2- (x.1+x.2))]else[])):=by
  refine eA.app ?_ ?_ ?_
  ·split
   ·exact eA.one (by show 1<=x.1-y.1;omega) (by show y.1+(x.1-y.1)<=64;omega)
   ·exact eA.nil
  ·split
   ·exact eA.one (by show 1<=y.1+y.2- (x.1+x.2);omega) (by show x.1+x.2+(y.1+y.2- (x.1+x.2))<=64;omega)
   ·exact eA.nil
  ·intro a c b f;split at c<;>split at f<;>simp at c f;rw[c,f];show y.1+(x.1-y.1)<x.1+x.2;omega
 have n: ∀a∈((if y.1<x.1 then[(y.1,x.1-y.1)]else[])++(if x.1+x.2<y.1+y.2 then[(x.1+x.2,y.1+y.2- (x.1+x.2))]else[])),y.1<=a.1/\a.1+a.2<=y.1+y.2:=by
  intro a c;rcases ac8.1 c with c|c
  ·split at c
   ·rw[ada.1 c];exact⟨aeg _,by show y.1+(x.1-y.1)<=_;omega⟩
   ·cases c
  ·split at c
   ·rw[ada.1 c];exact⟨by show y.1<=x.1+x.2;omega,by show x.1+x.2+(y.1+y.2- (x.1+x.2))<=_;omega⟩
   ·cases c
 refine(H.app G λa c b f=>?_).app hB λa c b f=>?_
 ·have L:a.1+a.2<y.1:=r a c y (by simp);have:=n b f;show a.1+a.2<b.1;omega
 ·have K:y.1+y.2<b.1:=u b f;rcases ac8.1 c with c|c
  ·exact r a c b (by simp[f])
  ·have:=n a c;show a.1+a.2<b.1;omega
def pq(f:Nat->Nat):lA:=arr 32 λj=>[.int .u8 (f j)]
theorem Te(f:Nat->Nat): (pq f).length=32:=by rfl
def lF(p:cQ):AV:=if p.free.isEmpty then .an else .sl (p.free.map aA) p.cI
def uY(p:cQ):Rv (lF p) 2 (p.free.map aA):=by
 unfold lF;split
 ·rename_i h;rw[ayS.1 h];exact .an
 ·exact .sl (by intro el h;obtain⟨x,_,rfl⟩:=ael.1 h;rfl)
def cb(p:cQ):lA:=[.int .i64 p.n,lF p]++arr 64 λi=>pq (p.bytes i)
def w4(p:cQ): (cb p).length=2050:=by
 unfold cb;rw[ac6,Bb (k:=32) (λi=>Te (p.bytes i))];rfl
structure fN(p:cQ):Prop where
 n:p.n<=64
 free:eA p.free
 bytes: ∀i j,p.bytes i j<256
theorem Tf{p:cQ}:Den.part false 1 (cb p) 0=some (.int .i64 p.n):=rfl
def w5{p:cQ}:Den.part true 1 (cb p) 1=some (.agg [lF p]):=by
 unfold cb;rw[nI (by simp) (by omega)];rfl
def aun{p:cQ}{j:Nat}(b:i<64)(a:j<32):Den.part false 1 (cb p) (2+i*32+j)=some (.int .u8 (p.bytes i j)):=by
 unfold cb;rw[jZ (by grind),show 2+i*32+j- [AV.int .i64 p.n,lF p].length=i*32+j by grind,kI (k:=32) (f:=λi=>pq (p.bytes i)) (λi=>Te _) b (by omega) (by omega)];have:=kI (ag:=false) (m:=1) (n:=32) (k:=1) (i:=j) (o:=0) (f:=λj=>[AV.int .u8 (p.bytes i j)]) (λ_=>rfl) a (by omega) (by omega);rw[Nat.mul_one,aem]at this;exact this
theorem aio{p:cQ}{l:List aF}:aM (cb p) 1 [en l]=cb {p with free:=l,cI:=false}:=by rfl
theorem aip{p:cQ}:aM (cb p) 1 [lF p]=cb p:=by rfl
def aiq{p:cQ}{o:Nat}{vs:lA}{f:Nat->Nat}(a:i<64)(ho:o+vs.length<=32)(b:aM (pq (p.bytes i)) o vs=pq f):aM (cb p) (2+i*32+o) vs=cb {p with bytes:=aq p.bytes i f}:=by
 unfold cb;rw[gx (by grind),show 2+i*32+o- [AV.int .i64 p.n,lF p].length=i*32+o by grind,nK (k:=32) (f:=λi=>pq (p.bytes i)) (λi=>Te _) a ho,b,oQ pq];rfl
def auo{p:cQ}{j v:Nat}(b:i<64)(a:j<32):aM (cb p) (2+i*32+j) [.int .u8 v]=cb {p with bytes:=aq p.bytes i (aq (p.bytes i) j v)}:=by
 refine aiq b (by grind) ?_;unfold pq;have:=nK (n:=32) (k:=1) (i:=j) (o:=0) (vs:=[AV.int .u8 v]) (f:=λj=>[AV.int .u8 (p.bytes i j)]) (λ_=>rfl) a (by simp);rw[Nat.mul_one,aem]at this;rw[this];have e:aM [AV.int .u8 (p.bytes i j)] 0 [AV.int .u8 v]=[AV.int .u8 v]:=rfl;rw[e,oQ (λx:Nat=>[AV.int .u8 x])]
def aup{p:cQ}{H:List ae}(a:i<64)(h:H[q]?=some (.box (cb p) none)):
  rj ⟨H,lo⟩ [.int .u8 0] (.fa q 1 (2+i*32) 32)=some ⟨H.set q (.box (cb {p with bytes:=aq p.bytes i λ_=>0}) none),lo⟩:=by
 have e:aM (cb p) (2+i*32) (List.replicate 32 [AV.int .u8 0]).flatten=cb {p with bytes:=aq p.bytes i λ_=>0}:=by
  have:=aiq (p:=p) (i:=i) (o:=0) (vs:=(List.replicate 32 [AV.int .u8 0]).flatten) (f:=λ_=>0) a (by decide) (by rfl);omega
 simp only[rj,h,AS.set];rw[acE ⟨rfl,by rw[w4];omega,rfl⟩,e];simp
def air{X:Ctx}{n id off:Nat}:pK X n sz (.ptr id off) none none=some (.fa id sz off n):=by
 simp[pK,fY,k0]
def auq{p:cQ}{H:List ae}(c:i<64)(h:H[q]?=some (.box (cb p) none))(lo:oN):
  D X0 (.fn (.func 175) [] []) [.ptr q (2+i*32)] ⟨H,lo⟩=some (.ret (.av []) ⟨H.set q (.box (cb {p with bytes:=aq p.bytes i λ_=>0}) none),lo⟩):=by
 refine aH PE λN d=>?_
 have b:=λlo=>aup (lo:=lo) c h
 have a: ∀o,(H.set q o).take N=H.set q o:=λo=>ac4 (by grind)
 simp only[F1,go_sem,simprocAttr,PE,air,b,a]
theorem uZ{o:Nat}:dA .ptr (.ptr q o) .dP=some false:=rfl
def Tg{p:cQ}(k:fN p){H:List ae}(m:i<2147483648)(h:H[q]?=some (.box (cb p) none)){fv:AV}{H':List ae}(r:H'.length=H.length)
  (n:gj p i=0->i<64->D X0 fv [.ptr q (2+i*32)] ⟨H,none⟩=some (.ret (.av []) ⟨H',none⟩)) (lo:oN):
  D X0 (.fn (.func 118) [] []) [.ptr q 0,.int .i64 i,fv] ⟨H,lo⟩=some (.ret (.int .i64 (gj p i)) ⟨if gj p i=0 then H' else H,lo⟩):=by
 have ho:Old q H (.box (cb p) none):=⟨h⟩;refine aH Eb λN s=>?_
 have o:=k.n;have c: ¬((i:Nat):Int)<0:=by omega
 have a:=ap3 (lF p) p.free (uY _) k.free.ok i m;have f:Kh p.free i=RG p.free i:=rfl;rw[f]at a;by_cases l:p.n<=i
 ·have b: (i:Int)>=p.n:=by omega
  have d:gj p i=2:=by unfold gj;grind
  rw[d];simp(disch:=omega) only[F1,go_sem,simprocAttr,Eb,uZ,c,h,↓Tf,b]
 ·have b: ¬(i:Int)>=p.n:=by omega
  cases g:RG p.free i with
  |true=>
   rw[g]at a;have d:gj p i=12:=by unfold gj;rw[acz l,acE g]
   rw[d];simp(disch:=omega) only[F1,go_sem,simprocAttr,Eb,uZ,c,h,↓Tf,↓w5,b,a]
  |false=>
   rw[g]at a;have d:gj p i=0:=by unfold gj;rw[acz l,g];rfl
   rw[d];have j:=n d (by omega);have e: (0:Int)<=i/\ (i:Int)<64:=by omega
   simp(disch:=omega) only[F1,go_sem,simprocAttr,Eb,uZ,c,h,↓Tf,↓w5,b,a,e,j]
theorem Fg{E:AS}{o:Nat}:rF E (.ptr i o) tg=some (.ptr E.heap.length 0,E.push (.box [.ptr i o] tg)):=rfl
theorem ais{E:AS}{f:Fn}{bs cs:lA}:rF E (.fn f bs cs) tg=some (.ptr E.heap.length 0,E.push (.box [.fn f bs cs] tg)):=rfl
theorem ait(n:Nat): ((n:Nat):Int).tdiv 32=((n/32:Nat):Int):=by rfl
theorem aur(n:Nat): ((n:Nat):Int).tmod 32=((n % 32:Nat):Int):=by rfl
section
variable{p:cQ}(hp:fN p){i q:Nat}{H:List ae}(h:H[q]?=some (.box (cb p) none))(lo:oN)
include hp h
theorem aus(e:i<2147483648):D X0 (.fn (.func 155) [] []) [.ptr q 0,.int .i64 i] ⟨H,lo⟩=some (.ret (.int .i64 (gj p i)) ⟨H.set q (.box (cb (qJ p i)) none),lo⟩):=by
 have ho:Old q H (.box (cb p) none):=⟨h⟩;refine aH Jj λN g=>?_
 have a:=λlo=>Tg hp e h (fv:=.fn (.func 175) [] []) (H':=H.set q (.box (cb (qJ p i)) none)) (by simp) (λd c=>by
  rw[auq c h];unfold qJ;grind) lo
 have b: ∀o,(H.set q o).take N=H.set q o:=λo=>ac4 (by grind)
 by_cases d:gj p i=0
 ·rw[d]at a;simp only[F1,go_sem,simprocAttr,Jj,a,b]
  grind
 ·simp only[acz d]at a;have f:qJ p i=p:=by unfold qJ;grind
  rw[f,o9 h];simp(disch:=omega) only[F1,go_sem,simprocAttr,Jj,a]
theorem aut(t:i<64){a b:Nat}(r:H[a]?=some (.box [.ptr q 0] none))(n:H[b]?=some (.box [.int .i64 i] none))(v:AV):
  D X0 (.fn (.func 119) [] [.ptr a 0,.ptr b 0]) [v] ⟨H,lo⟩=some (.ret (.av []) ⟨H.set q (.box (cb (Ka p i)) none),lo⟩):=by
 refine fe Jb λN s=>?_
 have f: ∀H lo,D X0 (.fn (.func 120) [] []) [.agg [lF p],.int .i64 i,.int .i64 1] ⟨H,lo⟩=some (.ret (o7 (lF p) p.free (i,1)) ⟨H,lo⟩):=λH lo=>afG (lF p) p.free (uY _) hp.free.ok (i,1) (by omega) (by simp) H lo
 have c: ∀o,(H.set q o).take N=H.set q o:=λo=>ac4 (by grind)
 unfold o7 at f;have j:= @aio p;have d:= @aip p;have k:=λl=>cq (mN l) (bp (g:=aA) (λ_=>rfl) l)
 have m:=cq (uY p) (bp (g:=aA) (λ_=>rfl) _);unfold Ka;cases e:iw p.free (i,1)with
 |some l=>
  simp only[e]at f⊢;simp only[F1,go_sem,simprocAttr,Jb,s,r,n,h,↓w5,f,j,c,w4,k]
 |none=>
  simp only[e]at f⊢;simp only[F1,go_sem,simprocAttr,Jb,s,r,n,h,↓w5,f,d,c,w4,m]
theorem auu(g:i<2147483648):D X0 (.fn (.func 93) [] []) [.ptr q 0,.int .i64 i] ⟨H,lo⟩=some (.ret (.int .i64 (gj p i)) ⟨H.set q (.box (cb (qK p i)) none),lo⟩):=by
 have ho:Old q H (.box (cb p) none):=⟨h⟩;refine aH I6 λN e=>?_
 have f:q<N:=by grind
 obtain⟨B,hB⟩: ∃B:List ae,B=[.box [.ptr q 0] none,.box [.int .i64 i] none]:=⟨_,rfl⟩;have a:=λlo=>Tg hp g (bf (L:=B) h) (fv:=.fn (.func 119) [] [.ptr N 0,.ptr (N+1) 0]) (H':=(H++B).set q (.box (cb (qK p i)) none)) (by simp) (λc d=>by
  rw[aut hp (bf (L:=B) h) none d (by grind) (by grind)];unfold qK;grind) lo
 have b: ∀o,((H++B).set q o).take N=H.set q o:=λo=>by grind
 rw[hB]at a b;by_cases c:gj p i=0
 ·rw[c]at a;simp only[aeE]at a;simp only[F1,go_sem,simprocAttr,I6,Fg,e,a,b];rw[c];rfl
 ·simp only[acz c]at a;have j:qK p i=p:=by unfold qK;rw[acz c]
  rw[j,o9 h];simp only[F1,go_sem,simprocAttr,I6,Fg,e,a]
theorem aiu{at':Nat}(r:at'<68719476736){f:Fn}{cs:lA}{H':List ae}(o:H'.length=H.length)
  (m: ∀L,gj p (at'/32)=0->at'/32<64->D X0 (.fn f [] cs) [.ptr q (2+at'/32*32+at' % 32)] ⟨H++L,none⟩=some (.ret (.av []) ⟨H'++L,none⟩)):
  D X0 (.fn (.func 178) [] []) [.ptr q 0,.int .i64 at',.fn f [] cs] ⟨H,lo⟩=some (.ret (.int .i64 (gj p (at'/32))) ⟨if gj p (at'/32)=0 then H' else H,lo⟩):=by
 have ho:Old q H (.box (cb p) none):=⟨h⟩;refine aH Ju λN g=>?_
 have l:q<N:=by rw[<-g];exact ho.lt
 have n:H'.length=N:=by omega
 have e:gj p (at'/32)=0->at'/32<64->D X0 (.fn (.func 187) [] [.ptr (N+1) 0,.ptr N 0]) [.ptr q (2+at'/32*32)] ⟨H++[.box [.int .i64 at'] none,.box [.fn f [] cs] none],none⟩=some (.ret (.av []) ⟨H'++[.box [.int .i64 at'] none,.box [.fn f [] cs] none],none⟩):=by
  intro b j;refine fe PQ λM k=>?_
  have d:=m [.box [.int .i64 at'] none,.box [.fn f [] cs] none] b j;simp(disch:=omega) only[F1,go_sem,simprocAttr,PQ,aur,k,d];exact⟨by omega,de rfl (ac4 (by simp at k⊢;omega))⟩
 have a:=λlo=>Tg hp (i:=at'/32) (by omega) (bf (L:=[.box [.int .i64 at'] none,.box [.fn f [] cs] none]) h) (H':=H'++[.box [.int .i64 at'] none,.box [.fn f [] cs] none]) (by simp;omega) e lo
 have c: ¬((at':Nat):Int)<0:=by omega
 by_cases b:gj p (at'/32)=0
 ·rw[b]at a;simp only[aeE]at a;simp(disch:=omega) only[F1,go_sem,simprocAttr,Ju,ais,uZ,ait,g,c,a];rw[b,acE rfl];rfl
 ·simp only[acz b]at a;simp(disch:=omega) only[F1,go_sem,simprocAttr,Ju,ais,uZ,ait,g,c,a];rw[acz b]
theorem auv{at':Nat}(k:at'<68719476736):D X0 (.fn (.func 161) [] []) [.ptr q 0,.int .i64 at'] ⟨H,lo⟩=some (.ret (.av [.int .u8 (qL p at'),.int .i64 (gj p (at'/32))]) ⟨H,lo⟩):=by
 have ho:Old q H (.box (cb p) none):=⟨h⟩;refine aH Jm λN d=>?_
 have g:q<N:=by grind
 have a:=λlo=>aiu hp (bf (L:=[.box [.int .u8 0] none]) h) lo k (f:=.func 180) (cs:=[.ptr N 0]) (H':=H++[.box [.int .u8 (p.bytes (at'/32) (at' % 32))] none]) (by simp) (λL c b=>by
  refine fe PI λM l=>?_
  have j: ∀L,(H++L)[q]?=some (.box (cb p) none):=λL=>bf h
  have e:=aun (p:=p) b (show at' % 32<32 by omega);simp(disch:=omega) only[F1,go_sem,simprocAttr,PI,j,↓e];exact de rfl (ac4 (by simp at l⊢;omega)))
 unfold qL;by_cases c:gj p (at'/32)=0
 ·rw[c]at a⊢;simp only[aeE]at a⊢;simp only[F1,go_sem,simprocAttr,Jm,d,a,oB]
 ·simp only[acz c]at a⊢;simp only[F1,go_sem,simprocAttr,Jm,d,a,oB]
theorem auw{at' b:Nat}(m:at'<68719476736):D X0 (.fn (.func 159) [] []) [.ptr q 0,.int .i64 at',.int .u8 b] ⟨H,lo⟩=some (.ret (.int .i64 (gj p (at'/32))) ⟨H.set q (.box (cb (ss p at' b)) none),lo⟩):=by
 have ho:Old q H (.box (cb p) none):=⟨h⟩;refine aH Jl λN d=>?_
 have k:q<N:=by grind
 have a:=λlo=>aiu hp (bf (L:=[.box [.int .u8 b] none]) h) lo m (f:=.func 179) (cs:=[.ptr N 0]) (H':=(H++[ae.box [.int .u8 b] none]).set q (.box (cb {p with bytes:=aq p.bytes (at'/32) (aq (p.bytes (at'/32)) (at' % 32) b)}) none)) (by simp) (λL g e=>by
  refine fe PH λM n=>?_
  have l: ∀L,(H++L)[q]?=some (.box (cb p) none):=λL=>bf h
  have j:=auo (p:=p) (v:=b) e (show at' % 32<32 by omega);simp(disch:=omega) only[F1,go_sem,simprocAttr,PH,l,j,w4]
  grind)
 unfold ss;have c: ∀L o,((H++L).set q o).take N=H.set q o:=λL o=>by
  rw[aqc _ _ (by omega),lh (by simp[d])]
 by_cases g:gj p (at'/32)=0
 ·rw[g]at a⊢;simp only[aeE]at a⊢;simp only[F1,go_sem,simprocAttr,Jl,d,a,c]
 ·simp only[acz g]at a⊢;rw[o9 h];simp only[F1,go_sem,simprocAttr,Jl,d,a]
theorem auy{n:Nat}(w:n<=1024):D XC (.fn (.func 154) [] []) [.ptr q 0,.int .i64 n] ⟨H,lo⟩=some (.ret (.av [.int .i64 (ji p n).2.1,.int .i64 (ji p n).2.2]) ⟨H.set q (.box (cb (ji p n).1) none),lo⟩):=by
 have ho:Old q H (.box (cb p) none):=⟨h⟩;refine aH A3 λN y=>?_
 have u:q<N:=by grind
 have k:=λl=>cq (mN l) (bp (g:=aA) (λ_=>rfl) l)
 have j:= @aio p;have e:= @aip p;have m:=cq (uY p) (bp (g:=aA) (λ_=>rfl) _);have c: ∀o,(H.set q o).take N=H.set q o:=λo=>ac4 (by grind)
 by_cases s:n<1
 ·have a: ((n:Nat):Int)<1:=by omega
  have v:ji p n=(p,0,2):=by unfold ji;rw[acE s]
  rw[v,o9 h];simp(disch:=omega) only[F1,go_sem,simprocAttr,A3,uZ,a]
 ·have a: ¬((n:Nat):Int)<1:=by omega
  have b:=λH lo=>c0 (ap6 (lF p) p.free (uY _) hp.free.ok n H lo)
  unfold Kj at b;have e1:ji p n=match p.free.find? (fits n)with
   |none=>(p,0,6)
   |some x=>(match qI p.free (x.1,n)with|some l=>{p with free:=l,cI:=false}|none=>p,x.1,0):=by unfold ji;rw[acz s];rfl
  rw[e1];cases f:p.free.find? (fits n)with
  |none=>
   simp only[f]at b⊢;rw[o9 h];simp(disch:=omega) only[F1,go_sem,simprocAttr,A3,uZ,a,h,↓w5,b]
  |some x=>
   simp only[f]at b⊢;have t:=hp.free.bd x (aqd f);have d:=λH lo=>auj (lF p) p.free (uY _) hp.free.ok (x.1,n) (by simp;omega) (by simp;omega) H lo
   unfold Td at d;cases r:qI p.free (x.1,n)with
   |none=>
    simp only[r]at d⊢;simp only[F1,go_sem,simprocAttr,A3,uZ,a,h,↓w5,b,d,e,c,w4,m]
   |some l=>
    simp only[r]at d⊢;simp only[F1,go_sem,simprocAttr,A3,uZ,a,h,↓w5,b,d,j,c,w4,k]
end
def ke(a:Nat):Prop:= ∀E,iV XA.fG E .int .dg (.kZ ub) (.int .u8 a) true=some (match qU a with|some f=>.av [.fn (.func f) [] [],.bool true]|none=>.av [.dg,.bool false])
theorem qX{r:bB}:aI (bD r)=0:=rfl
def aiv(s:bF)(g:bm s)(aa:Nat)(f:aa<4294967296)(c:cz)(i:jE c)(k:ke c.op)(H:List ae)(lo:oN):
  D XC (.fn (.func 110) [] []) [.agg (bz s),.int .i64 aa,.agg (bg c)] ⟨H,lo⟩=some (.ret (.int .i64 (nR s aa c)) ⟨H,lo⟩):=by
 refine aH Ja λN j=>?_
 have h:=λH lo=>cB (Ta s g aa f c i k H lo)
 unfold nR;by_cases l:0<eU s aa c
 ·have a: ((eU s aa c:Nat):Int)>0:=by omega
  rw[acE l];simp only[F1,go_sem,simprocAttr,Ja,j,DZ,h,a]
 ·have a: ¬((eU s aa c:Nat):Int)>0:=by omega
  rw[acz l];obtain⟨v,d1,d2⟩:=S9 s g aa f c i (0,0) ⟨show 0<4294967296 by omega,show 0<4294967296 by omega⟩ k (H++[.box (bz s) none,.box (bg c) none]) none;have d1:=cB d1;have b:aA (0,0)=[.int .i64 0,.int .i64 0]:=rfl;rw[b]at d1;generalize db s aa c (0,0)=d at*;have e: (bD d.2.1)[0]?=some (.int .i64 d.2.1.e):=rfl;simp only[F1,go_sem,simprocAttr,Ja,j,DZ,h,a,d1,e,nM,qX]
def Th(s:bF)(f:bm s)(aa:Nat)(e:aa<4294967296)(c:cz)(h:jE c)(i:ke c.op)(H:List ae)(lo:oN):
  D XC (.fn (.func 76) [] []) [.agg (bz s),.int .i64 aa,.agg (bg c)] ⟨H,lo⟩=some (.ret (.bool (wA s aa c)) ⟨H,lo⟩):=by
 refine aH I3 λN b=>?_
 have g:=aiv s f aa e c h i;unfold wA;by_cases d:c.op=15
 ·have a: (c.op:Int)=15:=by omega
  have j:decide (nR s aa c=10)=decide (((nR s aa c:Nat):Int)=10):=aev.2 (by omega);rw[ac5 d,aha,j];simp only[F1,go_sem,simprocAttr,I3,b,DZ,fU,a,g]
 ·have a: ¬(c.op:Int)=15:=by omega
  rw[acK d,afH];simp only[F1,go_sem,simprocAttr,I3,b,fU,a]
def Fh(s:bF)(h:Nat):AV:=if s.T.az h then .sl [hC h] true else .an
def aiw(s:bF)(g:bm s)(h:Nat)(f:h<4294967296)(H:List ae)(lo:oN):
  D XC (.fn (.func 165) [] []) [.agg (bz s),.int .u32 h] ⟨H,lo⟩=some (.ret (Fh s h) ⟨H,lo⟩):=by
 refine aH Jn λN d=>?_
 have b:=λH lo=>c0 (ew s.T.b h f H lo)
 have c:az s.T.b h=s.T.az h:=rfl;rw[c]at b;unfold Fh;have a:Den.part true 96 (bz s) 0=some (.agg (bY s.T.b)):=by rfl
 cases e:s.T.az h with
 |true=>
  rw[e]at b;simp only[F1,go_sem,simprocAttr,Jn,d,↓a,b];rfl
 |false=>
  rw[e]at b;simp only[F1,go_sem,simprocAttr,Jn,d,↓a,b]
def zq(s:bF)(h:Nat):Rv (Fh s h) 1 ((nS s h).map hC):=by
 unfold Fh nS;split
 ·exact .sl (by intro el a;rw[ada.1 a];rfl)
 ·exact .an
def auz(l:lN)(p:l.length<2147483648)(v:AV)(H:List ae)(b:Rd ⟨H,none⟩ v 1 (l.map hC))(x:Nat)(lo:oN):
  D X0 (.fn (.func 184) [] []) [v,.int .u32 x] ⟨H,lo⟩=some (.ret (.int .i64 (ka (λy=>decide (y=x)) l)) ⟨H,lo⟩):=by
 refine aH PM λN t=>?_
 simp only[go_sem,simprocAttr,PM,b.bK];refine ek l.length (λk e H'=>H'=H/\ (∀j,j<k->decide (l.getD j default=x)=false)/\e 0=v/\e 1= .int .u32 x/\e 7= .int .i64 l.length/\e 8= .int .i64 k) 0 (by omega) ?_ ?_
 ·simp only[go_sem,simprocAttr];omega
 rintro k r e H' ⟨rfl,f,n,i,h,g⟩ m hm;simp(disch:=omega) only[cg,F1,go_sem,simprocAttr,adK,n,i,h,g];refine⟨λo=>?_,λo=>?_⟩
 ·have c:k<l.length:=by omega
  have d: ∀y,(hC y)[0]?=some (.int .u32 y):=λ_=>rfl
  by_cases e1:l.getD k default=x
  ·have a: ((x:Nat):Int)=(l.getD k default:Nat):=by omega
   simp(disch:=omega) only[F1,go_sem,simprocAttr,b.cG,b.cS,d,a];rw[y8 c f (ac5 e1)];exact⟨by omega,rfl⟩
  ·have a: ¬((x:Nat):Int)=(l.getD k default:Nat):=by omega
   simp(disch:=omega) only[go_sem,simprocAttr,n,i,h,g,b.cG,b.cS,d,a];refine⟨by omega,c,λj s=>?_⟩;rcases(show j<k\/j=k by omega)with q|rfl
   ·exact f j q
   ·exact acK e1
 ·obtain rfl:k=l.length:=by omega
  rw[y9 f]
def auA(l:lN)(b:l.length<2147483648)(v:AV)(H:List ae)(a:Rd ⟨H,none⟩ v 1 (l.map hC))(x:Nat)(lo:oN):
  D X0 (.fn (.func 169) [] []) [v,.int .u32 x] ⟨H,lo⟩=some (.ret (.bool (l.contains x)) ⟨H,lo⟩):=by
 refine aH PB λN c=>?_
 simp(disch:=omega) only[F1,go_sem,simprocAttr,PB,auz l b v H a x none,y7]
 grind
section
variable{s:bF}(hs:bm s){c:cz}(hc:jE c){a b:Nat}{H:List ae}(ha:H[a]?=some (.box (bz s) none))(hb:H[b]?=some (.box (bg c) none))(lo:oN)
include hs hc ha hb
theorem aix:D XC (.fn (.func 164) [] [.ptr a 0,.ptr b 0]) [] ⟨H,lo⟩=some (.ret (Fh s c.r) ⟨H,lo⟩):=by
 refine fe PA λN e=>?_
 have d:=cq (zq s c.r) (bp (λ_=>rfl) _);simp(disch:=omega) only[F1,go_sem,simprocAttr,PA,ha,hb,↓SL,fU,aiw s hs c.r hc.r,d]
theorem auB{u:Nat}(p:H[u]?=some (.box [.fn (.func 166) [] [.ptr a 0,.ptr b 0]] none)):
  ∃v,D XC (.fn (.func 168) [] [.ptr u 0,.ptr a 0,.ptr b 0]) [] ⟨H,lo⟩=some (.ret v ⟨H,lo⟩)/\Rv v 1 ((if under s.T c.r=[]\/s.T.az c.s=false then[]else if(under s.T c.r).contains c.s then under s.T c.r else under s.T c.r++[c.s]).map hC):=by
 suffices E: ∃o,D XC (.fn (.func 168) [] [.ptr u 0,.ptr a 0,.ptr b 0]) [] ⟨H,lo⟩=some o/\ (λo=> ∃v,o=aT.ret v ⟨H,lo⟩/\Rv v 1 ((if under s.T c.r=[]\/s.T.az c.s=false then[]else if(under s.T c.r).contains c.s then under s.T c.r else under s.T c.r++[c.s]).map hC)) o by
  obtain⟨o,M,v,rfl,K⟩:=E;exact⟨v,M,K⟩
 refine wE A4 rfl rfl rfl λN q=>?_
 obtain⟨v,J,aj,g1,g2,O⟩:=Tc hs hc ha hb N q none;have e:=λH lo=>c0 (ew s.T.b c.s hc.s H lo)
 have z:az s.T.b c.s=s.T.az c.s:=rfl;rw[z]at e;have k:Den.part true 96 (bz s) 0=some (.agg (bY s.T.b)):=by rw[<-uQ (x:=⟨s,0,mi,(0,0),0,false,[]⟩) (bk:=.an) (by omega) (by omega)];exact SB
 have F:=EX hs.tr c.r;have G:=lE g2 aj;have d:=G.bK;have w:=λL=>bf (L:=L) ha
 have t:=λL=>bf (L:=L) hb
 have h:=λlo=>c0 (auA (under s.T c.r) (by omega) v (H++J) (lE g2 none) c.s lo)
 have f:dX N aj:=dX.of O;have j: (H++J).take N=H:=by rw[<-q];simp
 have y:=bp (g:=hC) (λ_=>rfl) (under s.T c.r);by_cases r:under s.T c.r=[]
 ·have n: ((under s.T c.r).length:Int)=0:=by rw[r];rfl
  rw[acE (.inl r)];simp only[go_sem,simprocAttr,A4,p,g1,d,n];rw[iQ f (ac7 _),j];exact⟨_,rfl,.an⟩
 ·have n: ¬((under s.T c.r).length:Int)=0:=by
    have:=au1.2 r;omega
  cases B:s.T.az c.s with
  |false=>
   rw[B]at e;rw[acE (.inr rfl)];simp only[go_sem,simprocAttr,A4,p,g1,d,n,w,t,↓k,fU,e];rw[iQ f (ac7 _),j];exact⟨_,rfl,.an⟩
  |true=>
   rw[B]at e;rw[acz (by simp[r])];cases m: (under s.T c.r).contains c.s with
   |true=>
    rw[m]at h;rw[acE rfl];simp only[go_sem,simprocAttr,A4,p,g1,d,n,w,t,↓k,fU,e,h];rw[EY f g2 (by rw[y];omega),j];exact⟨_,rfl,aR.qd g2⟩
   |false=>
    rw[m]at h;rw[acz (by simp)];simp only[go_sem,simprocAttr,A4,p,g1,d,n,w,t,↓k,fU,e,h];refine oA (H0:=H) (ys:=[[.int .u32 c.s]]) g2 (anY _ _) q (by omega) (by intro el A;rw[ada.1 A];rfl) rfl (by unfold room;simp;omega) λv' W C I=>?_
    simp only[go_sem,simprocAttr];have l:aR N W v' 1 bZ ((under s.T c.r++[c.s]).map hC):=by rw[aeq];exact C
    rw[EY f l (by rw[bp (λ_=>rfl)];omega)];refine⟨_,de rfl (kS q λi P=>?_),aR.qd l⟩;obtain⟨L,rfl⟩:=I;rw[abP (by omega)]
theorem auC: ∃v,D XC (.fn (.func 170) [] [.ptr a 0,.ptr b 0]) [] ⟨H,lo⟩=some (.ret v ⟨H,lo⟩)/\Rv v 1 ((if(ch s.K c.s).2=0 then nS s (ch s.K c.s).1.aN else[]).map hC):=by
 suffices n: ∃g,D XC (.fn (.func 170) [] [.ptr a 0,.ptr b 0]) [] ⟨H,lo⟩=some g/\ (λg=> ∃v,g=aT.ret v ⟨H,lo⟩/\Rv v 1 ((if(ch s.K c.s).2=0 then nS s (ch s.K c.s).1.aN else[]).map hC)) g by grind
 refine wE Jp rfl rfl rfl λN k=>?_
 have j:=λH lo=>c0 (BA s.K hs.K c.s hc.s H lo)
 have m:=λL=>bf (L:=L) ha
 have f: ∀t:Tok,(fC t).length=5:=λ_=>rfl
 have e: ∀t:Tok,aI (fC t)=0:=λ_=>rfl
 have h: ∀t:Tok,(fC t)[0]?=some (.int .u32 t.aN):=λ_=>rfl
 by_cases l: (ch s.K c.s).2=0
 ·have d: (((ch s.K c.s).2:Nat):Int)=0:=by omega
  have ho:=aiw s hs (ch s.K c.s).1.aN (hs.K.get c.s).aN;have i:=cq (zq s (ch s.K c.s).1.aN) (bp (λ_=>rfl) _);rw[acE l];simp only[F1,go_sem,simprocAttr,Jp,k,ha,hb,↓SL,fU,m,f,e,h,j,d,ho,i];exact⟨_,rfl,zq s _⟩
 ·have d: ¬(((ch s.K c.s).2:Nat):Int)=0:=by omega
  rw[acz l];simp only[F1,go_sem,simprocAttr,Jp,k,ha,hb,↓SL,fU,f,e,j,d];exact⟨_,rfl,.an⟩
theorem auD{u:Nat}(l:H[u]?=some (.box [.fn (.func 166) [] [.ptr a 0,.ptr b 0]] none))(h:H[i]?=some (.box [.fn (.func 164) [] [.ptr a 0,.ptr b 0]] none)):
  ∃v,D XC (.fn (.func 172) [] [.ptr b 0,.ptr i 0,.ptr u 0]) [] ⟨H,lo⟩=some (.ret v ⟨H,lo⟩)/\Rv v 1 ((if c.b=1 then nS s c.r else under s.T c.r).map hC):=by
 suffices n: ∃e,D XC (.fn (.func 172) [] [.ptr b 0,.ptr i 0,.ptr u 0]) [] ⟨H,lo⟩=some e/\ (λe=> ∃v,e=aT.ret v ⟨H,lo⟩/\Rv v 1 ((if c.b=1 then nS s c.r else under s.T c.r).map hC)) e by grind
 refine wE Jr rfl rfl rfl λN j=>?_
 by_cases k:c.b=1
 ·have d: (c.b:Int)=1:=by omega
  have g:=cq (zq s c.r) (bp (λ_=>rfl) _);rw[acE k];simp(disch:=omega) only[F1,go_sem,simprocAttr,Jr,hb,h,fU,d,aix hs hc ha hb,g];exact⟨_,rfl,zq s _⟩
 ·have d: ¬(c.b:Int)=1:=by omega
  obtain⟨v,J,aj,g1,g2,m⟩:=Tc hs hc ha hb N j none;have f: (H++J).take N=H:=by rw[<-j];simp
  rw[acz k];simp only[go_sem,simprocAttr,Jr,hb,l,fU,d,g1];rw[EY (dX.of m) g2 (by rw[bp (λ_=>rfl)];omega),f];exact⟨_,rfl,aR.qd g2⟩
end
abbrev eY(N:Nat):AV:=.fn (.func 164) [] [.ptr N 0,.ptr (N+1) 0]
abbrev kX(N:Nat):AV:=.fn (.func 166) [] [.ptr N 0,.ptr (N+1) 0]
abbrev K0(N:Nat):AV:=.fn (.func 168) [] [.ptr (N+3) 0,.ptr N 0,.ptr (N+1) 0]
abbrev K1(N:Nat):AV:=.fn (.func 170) [] [.ptr N 0,.ptr (N+1) 0]
abbrev K2(N:Nat):AV:=.fn (.func 172) [] [.ptr (N+1) 0,.ptr (N+2) 0,.ptr (N+3) 0]
def auE(N:Nat):List (AV×AV):=[(.int .u8 1,eY N),(.int .u8 2,eY N),(.int .u8 3,eY N),(.int .u8 4,eY N),(.int .u8 5,eY N),(.int .u8 10,eY N),(.int .u8 12,eY N),(.int .u8 18,eY N),(.int .u8 19,eY N),(.int .u8 6,kX N),(.int .u8 7,kX N),(.int .u8 9,kX N),(.int .u8 11,kX N),(.int .u8 8,K0 N),(.int .u8 13,K1 N),(.int .u8 14,K2 N)]
def nb(N k:Nat):List (AV×AV):=(auE N).take k
theorem auF(N:Nat):ae.map []= .map (nb N 0):=rfl
def lG{N:Nat}{H:List ae}(d:H.length=N)(B:List ae)(f:B.length=4){key:Int}(i:v.refs<=N+5)(h:k6 (.int .u8 key) v (nb N k)=some (nb N (k+1)))(lo:oN):
  lJ ⟨H++(B++[.map (nb N k)]),lo⟩ .int (.mp (N+4)) (.int .u8 key) v=some ⟨H++(B++[.map (nb N (k+1))]),lo⟩:=by
 simp only[lJ,kf,aeE];have e: (H++(B++[ae.map (nb N k)]))[N+4]?=some (.map (nb N k)):=by grind
 simp only[e,h];have g: (H++(B++[ae.map (nb N k)])).set (N+4) (.map (nb N (k+1)))=H++(B++[.map (nb N (k+1))]):=by
  rw[aoi _ _ (by omega),aoi _ _ (by omega)];simp[d,f]
 simp only[AS.set,g]
 grind
def Fi(N d:Nat):Option AV:=
 if[1,2,3,4,5,10,12,18,19].contains d then some (eY N)
 else if[6,7,9,11].contains d then some (kX N)
 else if d=8 then some (K0 N)else if d=13 then some (K1 N)else if d=14 then some (K2 N)else none
def auG(N d:Nat):dU (.int .u8 d) (nb N 16)=some (Fi N d):=by
 have key: ∀ (es:List (Nat×AV)),dU (.int .u8 d) (es.map λx=>(.int .u8 (x.1:Nat),x.2))=some ((es.find? λx=>decide (x.1=d)).map (·.2)):=by
  intro es
  induction es with
  |nil=>rfl
  |cons x xs j=>
   simp only[alM,dU,oo,aeE,List.find?_cons]
   grind
 have e:nb N 16=[(1,eY N),(2,eY N),(3,eY N),(4,eY N),(5,eY N),(10,eY N),(12,eY N),(18,eY N),(19,eY N),(6,kX N),(7,kX N),(9,kX N),(11,kX N),(8,K0 N),(13,K1 N),(14,K2 N)].map λx:Nat×AV=>(.int .u8 (x.1:Nat),x.2):=rfl
 rw[e,key];by_cases h:d<=19
 ·rcases(show d=0\/d=1\/d=2\/d=3\/d=4\/d=5\/d=6\/d=7\/d=8\/d=9\/d=10\/d=11\/d=12\/d=13\/d=14\/d=15\/d=16\/d=17\/d=18\/d=19 by omega)with q|q|q|q|q|q|q|q|q|q|q|q|q|q|q|q|q|q|q|q<;>subst q<;>rfl
 ·have hc: ∀l:lN,l.all (λk=>decide (k<=19))=true->l.contains d=false:=by
    intro l g;rw[Bool.eq_false_iff];intro hm;have:=aes.1 g d (by simpa using hm);simp at this;omega
  have f: ∀l:List (Nat×AV),(l.map (·.1)).all (λk=>decide (k<=19))=true->l.find? (λx=>decide (x.1=d))=none:=by
   intro l g;rw[avC];intro x i;have:=aes.1 g x.1 (List.mem_map_of_mem i);simp at this⊢;omega
  rw[f _ rfl];unfold Fi;rw[hc _ rfl,hc _ rfl,acz (by simp),acz (by simp),acz (by omega),acz (by omega),acz (by omega)];rfl
def auH{s:bF}(hs:bm s)(hc:jE c)(H:List ae)(lo:oN):
  ∃v,D XC (.fn (.func 152) [] []) [.agg (bz s),.agg (bg c)] ⟨H,lo⟩=some (.ret v ⟨H,lo⟩)/\Rv v 1 ((sq s c).map hC):=by
 suffices X: ∃r,D XC (.fn (.func 152) [] []) [.agg (bz s),.agg (bg c)] ⟨H,lo⟩=some r/\ (λr=> ∃v,r=aT.ret v ⟨H,lo⟩/\Rv v 1 ((sq s c).map hC)) r by
  obtain⟨r,h1,v,rfl,Z⟩:=X;exact⟨v,h1,Z⟩
 refine cH Pu λN d=>?_
 have V:N<=N+1:=by omega
 have U:N<=N+2:=by omega
 have Y: (eY N).refs=N+2:=by simp[AV.refs,aI]
 have P: (kX N).refs=N+2:=by simp[AV.refs,aI]
 obtain⟨B,hB⟩: ∃B:List ae,B=[.box (bz s) none,.box (bg c) none,.box [eY N] none,.box [kX N] none]:=⟨_,rfl⟩;have hm:=auF N;have G:=lG (k:=0) (key:=1) (v:=eY N) d B (by rw[hB];rfl) (by simp[AV.refs,aI]) rfl;have F:=lG (k:=1) (key:=2) (v:=eY N) d B (by rw[hB];rfl) (by simp[AV.refs,aI]) rfl;have C:=lG (k:=2) (key:=3) (v:=eY N) d B (by rw[hB];rfl) (by simp[AV.refs,aI]) rfl;have A:=lG (k:=3) (key:=4) (v:=eY N) d B (by rw[hB];rfl) (by simp[AV.refs,aI]) rfl;have z:=lG (k:=4) (key:=5) (v:=eY N) d B (by rw[hB];rfl) (by simp[AV.refs,aI]) rfl;have y:=lG (k:=5) (key:=10) (v:=eY N) d B (by rw[hB];rfl) (by simp[AV.refs,aI]) rfl;have x:=lG (k:=6) (key:=12) (v:=eY N) d B (by rw[hB];rfl) (by simp[AV.refs,aI]) rfl;have w:=lG (k:=7) (key:=18) (v:=eY N) d B (by rw[hB];rfl) (by simp[AV.refs,aI]) rfl;have p8:=lG (k:=8) (key:=19) (v:=eY N) d B (by rw[hB];rfl) (by simp[AV.refs,aI]) rfl;have u:=lG (k:=9) (key:=6) (v:=kX N) d B (by rw[hB];rfl) (by simp[AV.refs,aI]) rfl;have o:=lG (k:=10) (key:=7) (v:=kX N) d B (by rw[hB];rfl) (by simp[AV.refs,aI]) rfl;have n:=lG (k:=11) (key:=9) (v:=kX N) d B (by rw[hB];rfl) (by simp[AV.refs,aI]) rfl;have m:=lG (k:=12) (key:=11) (v:=kX N) d B (by rw[hB];rfl) (by simp[AV.refs,aI]) rfl;have l:=lG (k:=13) (key:=8) (v:=K0 N) d B (by rw[hB];rfl) (by simp[AV.refs,aI]) rfl;have j:=lG (k:=14) (key:=13) (v:=K1 N) d B (by rw[hB];rfl) (by simp[AV.refs,aI]) rfl;have i:=lG (k:=15) (key:=14) (v:=K2 N) d B (by rw[hB];rfl) (by simp[AV.refs,aI]) rfl;rw[hB]at G F C A z y x w p8 u o n m l j i;simp only[af3,afY]at G F C A z y x w p8 u o n m l j i;simp only[go_sem,simprocAttr,Pu,d,V,U,hm,Y,P,fU,G,F,C,A,z,y,x,w,p8,u,o,n,m,l,j,i];have O: ∀E:AS,E.heap[N+4]?=some (.map (nb N 16))->iV XC.fG E .int .dg (.mp (N+4)) (.int .u8 c.op) true=some (match Fi N c.op with|some v=>.av [v,.bool true]|none=>.av [.dg,.bool false]):=by
  intro E h;simp only[iV,kf,aeE,mapOf,h,auG];cases Fi N c.op<;>rfl
 rw[O _ (by rw[bE d];rfl)];obtain⟨W,g⟩: ∃W,W=H++[.box (bz s) none,.box (bg c) none,.box [eY N] none,.box [kX N] none,.map (nb N 16)]:=⟨_,rfl⟩;have w0:W[N]?=some (.box (bz s) none):=by rw[g,di d];rfl
 have w1:W[N+1]?=some (.box (bg c) none):=by rw[g,bE d];rfl
 have T:W[N+2]?=some (.box [eY N] none):=by rw[g,bE d];rfl
 have R:W[N+3]?=some (.box [kX N] none):=by rw[g,bE d];rfl
 have wt: ∀L,(W++L).take N=H:=λL=>by rw[g,acF,lh d]
 have e:W.take N=H:=by rw[g,lh d]
 have Q:W.length=N+5:=by rw[g];simp[d]
 rw[<-g];unfold sq Fi;by_cases p: [1,2,3,4,5,10,12,18,19].contains c.op
 ·simp only[p,aeE];have K:=cq (zq s c.r) (bp (λ_=>rfl) _);simp only[F1,go_sem,simprocAttr,aix hs hc w0 w1,K,e];exact⟨_,rfl,zq s _⟩
 ·by_cases q: [6,7,9,11].contains c.op
  ·obtain⟨v,J,aj,g1,g2,g3⟩:=Tc hs hc w0 w1 (N+5) Q none;simp only[p,q,aeE,ahz,aek];simp only[go_sem,simprocAttr,g1];rw[EY (dX.le (dX.of g3) (by omega)) (aR.le (M:=N) g2 (by omega)) (by rw[bp (λ_=>rfl)];omega),wt];exact⟨_,rfl,aR.qd g2⟩
  ·by_cases t:c.op=8
   ·obtain⟨v,g1,g2⟩:=auB hs hc w0 w1 none R;have f:=cq g2 (bp (λ_=>rfl) _);simp only[acz p,acz q,acE t];simp only[F1,go_sem,simprocAttr,g1,f,e];exact⟨_,rfl,g2⟩
   ·by_cases I:c.op=13
    ·obtain⟨v,g1,g2⟩:=auC hs hc w0 w1 none;have f:=cq g2 (bp (λ_=>rfl) _);simp only[acz p,acz q,acz t,acE I];simp only[F1,go_sem,simprocAttr,g1,f,e];exact⟨_,rfl,g2⟩
    ·by_cases S:c.op=14
     ·obtain⟨v,g1,g2⟩:=auD hs hc w0 w1 none R T;have f:=cq g2 (bp (λ_=>rfl) _);simp only[acz p,acz q,acz t,acz I,acE S];simp only[F1,go_sem,simprocAttr,g1,f,e];exact⟨_,rfl,g2⟩
     ·simp only[p,q,t,I,S,ahz,aek];simp only[F1,go_sem,simprocAttr,e];exact⟨_,rfl,.an⟩
def bA(x:Core)(q:Nat)(qv:AV):lA:=bz x.S++([.ptr q 0]++(ck x.M++[qv]))
section
variable{x:Core}{q:Nat}{qv:AV}
def w8: (bA x q qv).length=1274:=by simp only[bA,ac6,dY,dI];rfl
def Fj:aI (bA x q qv)=max (q+1) qv.refs:=by
 simp only[bA,ED,nM,jF];simp[aI,AV.refs]
def aiy:Den.part true 952 (bA x q qv) 0=some (.agg (bz x.S)):=by exact wk (dY _) (by omega)
def Ti{ag:Bool}{o:Nat}(ho:952<=o):Den.part ag m (bA x q qv) o=Den.part ag m ([.ptr q 0]++(ck x.M++[qv])) (o-952):=by
 unfold bA;rw[jZ (by rw[dY];exact ho),dY]
def aiz:Den.part false 1 (bA x q qv) 952=some (.ptr q 0):=by rw[Ti (by omega)];rfl
def aiA:Den.part true 320 (bA x q qv) 953=some (.agg (ck x.M)):=by
 rw[Ti (by omega),jZ (by simp)];exact wk (dI _) (by omega)
def Tj:Den.part false 1 (bA x q qv) 1273=some qv:=by
 rw[Ti (by omega),jZ (by simp),jZ (by rw[dI];simp),dI];rfl
def aiB{s:bF}:aM (bA x q qv) 0 (bz s)=bA {x with S:=s} q qv:=by
 unfold bA;rw[qA (by rw[dY,dY];omega),nJ (by rw[dY,dY])]
def aiC{m:Marks}:aM (bA x q qv) 953 (ck m)=bA {x with M:=m} q qv:=by
 unfold bA;rw[gx (by rw[dY];omega),dY,gx (by simp),qA (by simp[dI])];have:953-952- [AV.ptr q 0].length=0:=rfl;rw[this,nJ (by rw[dI,dI])]
def aiD:aM (bA x q qv) 1273 [v]=bA x q v:=by
 unfold bA;rw[gx (by rw[dY];omega),dY,gx (by simp),gx (by rw[dI];simp),dI];rfl
theorem azF{P:cQ}:bA {x with P:=P} q qv=bA x q qv:=rfl
theorem auI{Q:lN}:bA {x with Q:=Q} q qv=bA x q qv:=rfl
def aiE: (bA x q qv)[1273]?=some qv:=Tj
def KL:=gG @aiy<|gG @aiz<|gG @aiA<|gG @Tj @aiE
def KS:=gG @aiB<|gG @aiC<|gG @aiD @w8
end
def cD(N:Nat)(H:List ae)(v:AV)(sz:Nat)(ty:TypeId)(af:List lA):Prop:=
 (∀el∈af,el.length=sz)/\ ((v= .an/\af=[])\/ ∃id ai off all,N<=id/\v= .ref id ai sz off af.length false/\H[id]?=some (.row ai sz ty all)/\off+af.length<=all.length/\ (all.drop off).take af.length=af)
theorem cD.an{N:Nat}{H:List ae}{ty:TypeId}:cD N H .an sz ty []:=⟨by simp,.inl ⟨rfl,rfl⟩⟩
section
variable{N:Nat}{H H':List ae}{v:AV}{sz:Nat}{ty:TypeId}{af:List lA}
def cD.rd(h:cD N H v sz ty af):Rd ⟨H,lo⟩ v sz af:=by
 obtain⟨c,b⟩:=h;rcases b with⟨rfl,rfl⟩| ⟨id,ai,off,all,e,rfl,a,f,d⟩
 ·exact .an
 ·refine⟨trivial,?_,c⟩;simp only[elems,a,axg]
  grind
def cD.lg(h:cD N H v sz ty af)(b: ∀ (id ai:Nat) (all:List lA),H[id]?=some (ae.row ai sz ty all)->H'[id]?=some (ae.row ai sz ty all)):cD N H' v sz ty af:=by
 obtain⟨a,c⟩:=h;refine⟨a,?_⟩
 grind
def cD.mono(h:cD N H v sz ty af)(b:M<=N):cD M H v sz ty af:=by
 obtain⟨a,c⟩:=h;refine⟨a,?_⟩
 grind
def cD.app(h:cD N H v sz ty af)(L:List ae):cD N (H++L) v sz ty af:=h.lg λ_ _ _ a=>bf a
theorem cD.set(h:cD N H v sz ty af){cs:lA}(b:H[p]?=some (.box cs tg))(o:ae):cD N (H.set p o) v sz ty af:=h.lg λid _ _ a=>by grind
theorem cD.take{n:Nat}{a:List lA}(h:cD N H v sz ty af)(e:cD N H0 v sz ty a)(k:H0.length=n):cD N (H.take n) v sz ty af:=by
 obtain⟨d,b⟩:=h;refine⟨d,?_⟩;rcases b with b| ⟨id,ai,off,all,o,g,j,l,i⟩
 ·grind
 ·rcases e.2 with⟨q,_⟩| ⟨c,_,_,_,_,q,f,_⟩
  ·grind
  grind
def cD.tail{a:lA}{bytes:Nat}(h:cD N H v sz ty (a::af)): ∃w,fZ sz v (some (.int .i64 1)) none none=some w/\cD N H w sz ty af/\w.cm=false/\w.cells=[w]/\w.refs=v.refs:=by
 obtain⟨i,c⟩:=h;rcases c with⟨_,c⟩| ⟨id,ai,off,all,f,rfl,e,k,j⟩
 ·grind
 ·refine⟨.ref id ai sz (off+1) af.length false,?_,⟨λel d=>i el (aew _ d),.inr ⟨id,ai,off+1,all,f,rfl,e,by grind,?_⟩⟩,rfl,rfl,rfl⟩
  ·have g:fY (a::af).length (some (.int .i64 1)) none=some (1,af.length+1):=by
     have: (1:Int)<=af.length+1:=by omega
     simp[fY,k0,this]
   simp only[fZ,g,k5]
   grind
  ·have: (all.drop off).take (af.length+1)=a::af:=by omega
   have c:all.drop (off+1)=(all.drop off).drop 1:=by simp
   rw[c];generalize all.drop off=l at this;cases l with
   |nil=>grind
   |cons b l=>grind
def cD.append{bytes:Nat}{y:lA}(h:cD N H v sz ty af)(r:N<=H.length)(f:0<sz)(t:y.length=sz)(j:aI y=0)(p: (af.length+1)*bytes<=room):
  ∃v' H',dm ⟨H,lo⟩ ty sz bytes v [y]=some (v',⟨H',lo⟩)/\cD N H' v' sz ty (af++[y])/\H.length<=H'.length/\ (∀i,i<N->H'[i]?=H[i]?)/\ (∀ (i:Nat) (o:ae),(∀a d,o≠ae.row a sz ty d)->H[i]?=some o->H'[i]?=some o)/\v'.cm=false/\v'.cells=[v']/\N<v'.refs:=by
 have c:0<sz/\ [y].all (λel=>el.length==sz)=true:=⟨f,by grind⟩;obtain⟨z,s⟩:=h;have e: ∀el∈af++[y],el.length=sz:=by grind
 rcases s with⟨rfl,rfl⟩| ⟨id,ai,off,all,k,rfl,b,u,g⟩
 ·refine⟨.ref H.length 0 sz 0 1 false,H++[.row 0 sz ty [y]],?_,⟨e,.inr ⟨H.length,0,0,[y],r,rfl,by simp,by simp,by simp⟩⟩,by simp,λi n=>abP (by omega),λi o _ ho=>bf ho,rfl,rfl,by simp only[AV.refs];omega⟩;unfold dm;rw[acE c];simp only[aoQ];rw[acz (by omega),acE (by omega)];rfl
 ·have l:=dM b;refine⟨.ref id (ai+1) sz 0 (af.length+1) false,H.set id (.row (ai+1) sz ty (af++[y])),?_,⟨e,.inr ⟨id,ai+1,0,af++[y],k,by simp,by grind,by simp,ac4 (by simp)⟩⟩,by simp,λi n=>abN (by omega),λi o ho w=>?_,rfl,rfl,by simp only[AV.refs];omega⟩
  ·unfold dm;rw[acE c];simp only[b,aoQ];rw[acE ⟨trivial,trivial,trivial,trivial,by omega,p⟩,acz (by omega)];have:bT [y]=0:=by simp[bT,j]
   simp[AS.set,this,g]
  grind
end
def Mu(o:ae):Prop:= ∃a d,o= .row a 1 kr d
structure Fq(m:Nat)(S:lN)(H H':List ae):Prop where
 len:H.length<=H'.length
 low: ∀i,i<m->i∉S->H'[i]?=H[i]?
 box: ∀i o,i∉S-> ¬Mu o->H[i]?=some o->H'[i]?=some o
section
variable{m:Nat}{S T:lN}{A B C H W:List ae}
theorem Fq.refl:Fq m S A A:=⟨aeg _,λ_ _ _=>rfl,λ_ _ _ _ h=>h⟩
theorem Fq.trans(h:Fq m S A B)(g:Fq m S B C):Fq m S A C:=⟨afI h.len g.len,λi a b=>(g.low i a b).trans (h.low i a b),λi o a ho c=>g.box i o a ho (h.box i o a ho c)⟩
def Fq.mono(h:Fq m S A B)(b: ∀i∈S,i∈T):Fq m T A B:=⟨h.len,λi a q=>h.low i a λr=>q (b i r),λi o a ho c=>h.box i o (λq=>a (b i q)) ho c⟩
theorem Fq.set(b:p∈S)(_:m<=A.length)(o:ae):Fq m S A (A.set p o):=⟨by simp,λi _ a=>abN (by grind),λi w c _ h=>by grind⟩
def Fq.app(L:List ae)(a:m<=A.length):Fq m S A (A++L):=⟨by simp,λi b _=>abP (by omega),λi o _ _ h=>bf h⟩
def Fq.pre{L:List ae}(h:Fq m S (H++L) W)(a:m<=H.length):Fq m S H W:=(Fq.app L a).trans h
theorem Fq.take{N:Nat}(h:Fq m S A B)(e:A.length=N)(d:m<=N):Fq m S A (B.take N):=⟨by rw[aeD];have:=h.len;omega,λi a c=>by rw[aez (by omega)];exact h.low i a c,λi o a ho b=>by
 have:=dM b;rw[aez (by omega)];exact h.box i o a ho b⟩
def Fq.own{cs:lA}(h:Fq m S A B)(b:p∉S)(c:A[p]?=some (.box cs tg)):B[p]?=some (.box cs tg):=h.box p _ b (λq=>by obtain⟨a,d,q⟩:=q;cases q) c
end
def fV(Q:Prop)(B:Nat)(H H':List ae)(lo aj:oN):Prop:=(aj=lo/\H'.length=H.length/\Q)\/ ∃j,j<=B/\aj=cK lo j
def auJ{a b:Nat}:cK (cK lo a) b=cK lo (min a b):=by
 cases lo with
 |none=>exact afW some (Nat.min_comm b a)
 |some c=>show some (min b (min a c))=some (min (min a b) c);grind
theorem fV.same{B:Nat}{H:List ae}(h:Q):fV Q B H H lo lo:=.inl ⟨rfl,rfl,h⟩
section
variable{m N B:Nat}{S:lN}{H L W H2:List ae}{lo mm:oN}{Q:Prop}{v:AV}
def K3(h:H.length=N)(k:B<N)(e:m<=N)(i:Fq m S (H++L) W)(f:fV Q B (H++L) W none mm)(d:v.refs<=N):
  ∃H2 a,finish N lo v ⟨W,mm⟩=(v,⟨H2,a⟩)/\Fq m S H H2/\fV Q B H H2 lo a/\ (H2=W\/ (H2=W.take N/\Q)):=by
 have b:=i.pre (by omega);rcases f with⟨rfl,l,c⟩| ⟨j,g,rfl⟩
 ·refine⟨W.take N,lo,iQ (.inl rfl) d,b.take h e,.inl ⟨rfl,?_,c⟩,.inr ⟨rfl,c⟩⟩
  grind
 ·refine⟨W,cK lo j,?_,b,.inr ⟨j,g,rfl⟩,.inl rfl⟩;have:cK none j=some j:=rfl;exact uW (by omega)
def K4{o:ae}(h:H2=W\/ (H2=W.take N/\Q))(b:i<N)(a:W[i]?=some o):H2[i]?=some o:=by grind
def cD.nZ{n:Nat}{ty:TypeId}{v v':AV}{a:List lA}(h:cD n W v' sz ty af)(c:H2=W\/ (H2=W.take N/\Q))(b:Q->v'=v)(e:cD n H v sz ty a)(d:H.length=N):cD n H2 v' sz ty af:=by
 rcases c with rfl| ⟨rfl,q⟩
 ·exact h
 ·have:=b q;subst this;exact h.take e d
end
structure dx(m p q:Nat)(x:Core)(qv:AV)(H:List ae):Prop where
 mp:m<=H.length
 qp:q<p
 box:H[p]?=some (.box (bA x q qv) none)
 eB:H[q]?=some (.box (cb x.P) none)
 ic:cD (max m (p+1)) H qv 1 kr (x.Q.map gE)
section
variable{m p q:Nat}{x:Core}{qv:AV}{H:List ae}
def dx.lt(h:dx m p q x qv H):p<H.length:=dM h.box
theorem dx.app(h:dx m p q x qv H)(L:List ae):dx m p q x qv (H++L):=⟨by have:=h.mp;grind,h.qp,bf h.box,bf h.eB,h.ic.app L⟩
theorem dx.set(h:dx m p q x qv H){cs:lA}(c:H[i]?=some (.box cs tg))(b:i≠p)(a:i≠q)(o:ae):dx m p q x qv (H.set i o):=
 ⟨by simpa using h.mp,h.qp,(abN b).trans h.box,(abN a).trans h.eB,h.ic.set c o⟩
theorem dx.nZ{W H2:List ae}{N:Nat}{d:Core}(h:dx m p q x qv W)(b:H2=W\/ (H2=W.take N/\Q))(e:Q->qv=a)(c:dx m p q d a H0)(f:H0.length=N):dx m p q x qv H2:=
 have g:=c.lt
 ⟨by
   rcases b with rfl| ⟨rfl,_⟩
   ·exact h.mp
   ·have:=h.mp;have:=c.mp;grind,h.qp,K4 b (by omega) h.box,K4 b (by have:=h.qp;omega) h.eB,cD.nZ h.ic b e c.ic f⟩
def dx.aiF(h:dx m p q x qv H)(M:Marks):dx m p q {x with M:=M} qv (H.set p (.box (bA {x with M:=M} q qv) none)):=
 ⟨by simpa using h.mp,h.qp,cT h.box,(abN (by have:=h.qp;omega)).trans h.eB,h.ic.set h.box _⟩
def dx.aiG(h:dx m p q x qv H)(s:bF):dx m p q {x with S:=s} qv (H.set p (.box (bA {x with S:=s} q qv) none)):=
 ⟨by simpa using h.mp,h.qp,cT h.box,(abN (by have:=h.qp;omega)).trans h.eB,h.ic.set h.box _⟩
def dx.Fk(h:dx m p q x qv H)(P:cQ):dx m p q {x with P:=P} qv (H.set q (.box (cb P) none)):=
 ⟨by simpa using h.mp,h.qp,(abN (by have:=h.qp;omega)).trans h.box,cT h.eB,h.ic.set h.eB _⟩
def dx.fp(h:dx m p q x qv H)(o:ae):Fq m [p,q] H (H.set p o):=Fq.set (by simp) h.mp o
def dx.fq(h:dx m p q x qv H)(o:ae):Fq m [p,q] H (H.set q o):=Fq.set (by simp) h.mp o
end
def Tk(m p q:Nat)(H:List ae)(lo:oN)(b:Core)(qv:AV)(r:AV)(c:aT):Prop:=
 ∃a H' aj,c= .ret r ⟨H',aj⟩/\dx m p q b a H'/\Fq m [p,q] H H'/\fV (a=qv) p H H' lo aj
def iU(x:Core)(r:aF)(k:Nat):Core:={x with Q:=x.Q++(iO r).take k}
def aiH(x:Core)(r:aF):iU x r r.2=cO x r:=by
 unfold iU cO;rw[ac4 (by simp[iO])]
def aiI{r:aF}(h:k<r.2): (iO r).take (k+1)=(iO r).take k++[r.1+k]:=by
 rw[aex];simp[iO,h]
def Tl{H:List ae}(l:dx m p q x qv H)(r:aF)(Z:r.1<4294967296/\r.2<4294967296)(hQ:x.Q.length<17179869184)(lo:oN):
  ∃K,D XC (.fn (.func 132) [] []) [.ptr p 0,.agg (aA r)] ⟨H,lo⟩=some K/\Tk m p q H lo (cO x r) qv (.av []) K:=by
 refine cH Pk λN s=>?_
 have C:p<N:=by rw[<-s];exact l.lt
 have h1: (aA r)[1]?=some (.int .i64 r.2):=rfl;simp only[go_sem,simprocAttr,Pk,s];refine iJ r.2 (λk e W aj=> ∃c,e 0= .ptr p 0/\e 3= .ptr N 0/\e 6= .int .i64 r.2/\e 7= .int .i64 k/\dx m p q (iU x r k) c W/\W[N]?=some (.box (aA r) none)/\Fq m [p,q] (H++[.box (aA r) none]) W/\fV (c=qv) p (H++[.box (aA r) none]) W none aj) 0 (by omega) ?_ ?_
 ·refine⟨qv,?_⟩;simp(disch:=omega) only[go_sem,simprocAttr];refine⟨?_,Fq.refl,fV.same trivial⟩;have:=l.app [.box (aA r) none];unfold iU;simpa using this
 rintro k hk e W aj ⟨c,J,e3,e6,e7,b,hw,I,g⟩ n hn;have h0: (aA r)[0]?=some (.int .i64 r.1):=rfl;simp only[cg,go_sem,simprocAttr,adA,J,e6,e7];refine⟨λR=>?_,λR=>?_⟩
 ·have E:k<r.2:=by omega
  have Y:=(na (b.ic.rd (lo:=none)));simp(disch:=omega) only[go_sem,simprocAttr,e3,b.box,hw,↓KL];have h: (x.Q++(iO r).take k).length<=x.Q.length+r.2:=by simp[iO];omega
  have O:=b.lt;have M:=b.mp;obtain⟨v',W',g1,g2,g3,X,t,V,U,g8⟩:=cD.append (bytes:=8) (lo:=aj) (y:=[.int .i64 ((r.1:Int)+k)]) b.ic (by omega) (by omega) rfl rfl (by rw[aej];show((x.Q++(iO r).take k).length+1)*8<=room;unfold room;omega);have z: ∀cs tg,∀a d,ae.box cs tg≠ .row a 1 kr d:=λ_ _ _ _ e=>by cases e
  have f:=t p _ (z _ _) b.box;have u:=t q _ (z _ _) b.eB;have w:=t N _ (z _ _) hw;have F: ¬v'.refs<=p+1:=by omega
  rw[g1];simp(disch:=omega) only[go_sem,simprocAttr,J,e3,e6,e7,f,KS,V,U,F];refine⟨by omega,v',?_⟩;refine⟨?_,w,?_,?_⟩
  ·refine⟨by rw[aen];omega,b.qp,by rw[auI];exact cT f,(abN (by have:=b.qp;omega)).trans u,?_⟩;have: (iU x r (k+1)).Q.map gE=(iU x r k).Q.map gE++[[.int .i64 ((r.1:Int)+k)]]:=by
    unfold iU;rw[aiI E,<-acF,aeq];rfl
   rw[this];exact g2.set f _
  ·refine I.trans ⟨by simp;omega,λi G P=>?_,λi o G ho T=>?_⟩
   ·rw[abN (by rintro rfl;simp at P)];exact X i (by have:=b.mp;omega)
   ·rw[abN (by rintro rfl;simp at G)];exact t i o (λa d e=>ho ⟨a,d,e⟩) T
  ·rcases g with⟨rfl,_,_⟩| ⟨j,hj,rfl⟩
   ·exact .inr ⟨p,aeg _,rfl⟩
   ·exact .inr ⟨min j p,by omega,auJ⟩
 ·obtain rfl:k=r.2:=by omega
  have hm:=l.mp;obtain⟨H2,A,f1,f2,f3,f4⟩:=K3 (lo:=lo) s C (by omega) I g (v:=.av []) (ac7 _);rw[f1];rw[aiH]at b;exact⟨c,H2,A,rfl,b.nZ f4 id l s,f2,f3⟩
def br(c:Call)(rv:AV):lA:=[.int .i64 c.aa]++(bg c.c++([.bool c.checked,rv]++(aA c.run++[.int .i64 c.eW])))
theorem auK(c:Call)(rv:AV):br c rv=[.int .i64 c.aa,.int .u8 c.c.op,.int .u32 c.c.r,.int .u32 c.c.s,.int .u32 c.c.a,.int .u32 c.c.b,.int .u64 c.c.v,.bool c.checked,rv,.int .i64 c.run.1,.int .i64 c.run.2,.int .i64 c.eW]:=rfl
structure fI(c:Call):Prop where
 aa:c.aa<4294967296
 ie:jE c.c
 aW: ∀h∈c.aW,h<4294967296
 run:c.run.1<65536/\c.run.2<65536
 eW:c.eW<65536
structure jG(x:Core):Prop where
 S:bm x.S
 P:fN x.P
 M: ∀i,gF (x.M i)
 Q: ∀k∈x.Q,k<2147483648
 Ql:x.Q.length<8589934592
def aiJ{H:List ae}(b:dx m p q x qv H)(l:jG x)(c:Call)(n:fI c)(rv:AV)(r:rv.refs=0)(lo:oN):
  ∃k,D XC (.fn (.func 97) [] []) [.ptr p 0,.agg (br c rv)] ⟨H,lo⟩=some k/\Tk m p q H lo (wC x c) qv (.av []) k:=by
 refine cH OZ λN d=>?_
 have f:p<N:=by rw[<-d];exact b.lt
 have z:=n.run;obtain⟨k,g1,a,W,aj,rfl,g2,o,y⟩:=Tl (b.app [.box (br c rv) none]) c.run ⟨by omega,by omega⟩ (by have:=l.Ql;omega) none;have h:Den.part true 2 (br c rv) 9=some (.agg (aA c.run)):=rfl;have i: (br c rv)[0]?=some (.int .i64 c.aa):=rfl;have j:N∉[p,q]:=by have:=b.qp;grind
 have wn:W[N]?=some (.box (br c rv) none):=o.own j (by rw[di d];rfl);have t:=λH lo=>c0 (aub x.M l.M c.aa n.aa H lo)
 have w: (cO x c.run).M=x.M:=rfl;have g:=λm=>dI m
 simp only[go_sem,simprocAttr,OZ,d,↓h,g1,g2.box,wn,i,↓KL,KS,w,t,g,jF];have u:=o.trans (g2.fp (.box (bA {cO x c.run with M:=me x.M c.aa} q a) none));have s:fV (a=qv) p (H++[.box (br c rv) none]) (W.set p (.box (bA {cO x c.run with M:=me x.M c.aa} q a) none)) none aj:=y.elim (λq=>.inl ⟨q.1,by rw[aen];exact q.2.1,q.2.2⟩) .inr;obtain⟨H2,e,f1,f2,f3,f4⟩:=K3 (lo:=lo) d f (by have:=b.mp;omega) u s (v:=.av []) (ac7 _);rw[f1];exact⟨a,H2,e,rfl,(g2.aiF _).nZ f4 id b d,f2,f3⟩
def auL{H:List ae}(c:dx m p q x qv H)(t:jG x)(lo:oN):
  ∃y,D XC (.fn (.func 59) [] []) [.ptr p 0] ⟨H,lo⟩=some y/\Tk m p q H lo (iz x).1 qv (.bool (iz x).2) y:=by
 have ho:Old p H (.box (bA x q qv) none):=⟨c.box⟩;refine cH I0 λN r=>?_
 have h:p<N:=by rw[<-r];exact c.lt
 have b:=(c.ic.rd (lo:=none)).bK;unfold iz;have E:Fq m [p,q] (H++[]) H:=by rw[aeC];exact Fq.refl
 cases n:x.Q with
 |nil=>
  rw[n]at b;simp(disch:=omega) only[F1,go_sem,simprocAttr,I0,c.box,↓KL,b];exact⟨qv,H,lo,rfl,c,Fq.refl,fV.same rfl⟩
 |cons a l=>
  have d:=c.ic;rw[n]at b d;rw[alM]at d;have G: ¬((l.length:Nat):Int)+1=0:=by omega
  have k:iG 1 qv (.int .i64 0)=some (eh qv 0 0):=by
   rw[(d.rd (lo:=none)).addr,acE ⟨by omega,by simp⟩];rfl
  have i:bW XC ⟨H,none⟩ false 1 (eh qv 0 0)=some (.int .i64 a):=(d.rd (lo:=none)).load (by simp);obtain⟨w,s1,s2,B,A,z⟩:=cD.tail (bytes:=8) d;have F:=λlo=>c0 (auu t.P c.eB lo (t.Q a (by rw[n];simp)))
  have j: (FP.rd p 952 1).ok (nu 1 (eh qv 0 0))=true:=by
   rcases d.2 with⟨_,e⟩| ⟨_,_,_,_,_,rfl,_⟩
   ·cases e
   ·rfl
  have s: ∀o,(H.set q o)[p]?=some (.box (bA x q qv) none):=λo=>(abN (by have:=c.qp;omega)).trans c.box
  have C:p+1<w.refs:=by
   rw[z];rcases d.2 with⟨_,e⟩| ⟨id,_,_,_,J,rfl,_⟩
   ·cases e
   ·simp only[AV.refs];omega
  have f: ¬w.refs<=p+1:=by omega
  simp only[go_sem,simprocAttr,I0,r,c.box,↓KL,b,G,k,i,F,j,s,s1,B,A,KS,f];have u:=(c.fq (.box (cb (qK x.P a)) none)).trans ((c.Fk (qK x.P a)).fp (.box (bA x q w) none));have hm:=c.mp;obtain⟨I,g,f1,f2,f3,f4⟩:=K3 (m:=m) (N:=N) (lo:=lo) (Q:=False) (L:=[]) r h (by omega) (by rw[aeC];exact u) (.inr ⟨p,aeg _,rfl⟩) (v:=.bool true) (ac7 _);rw[f1];have f5:I=(H.set q (.box (cb (qK x.P a)) none)).set p (.box (bA x q w) none):=f4.elim id λe=>e.2.elim
  rw[f5];refine⟨w,_,g,rfl,⟨by simpa using c.mp,c.qp,cT (s _),(abN (by have:=c.qp;omega)).trans (cT c.eB),?_⟩,u,?_⟩
  ·exact(s2.set c.eB _).set (s _) _
  ·rw[f5]at f3;exact f3.elim (λe=>e.2.2.elim) .inr
def dJ(st:bM)(p:Nat)(rv:AV):lA:=[.ptr p 0]++(br st.c rv++(bD st.r++[.bool st.ended]))
section
variable{st:bM}{p:Nat}{rv:AV}
theorem Tm: (dJ st p rv).length=17:=rfl
theorem aiK: (dJ st p rv)[0]?=some (.ptr p 0):=rfl
theorem aiL: (dJ st p rv)[1]?=some (.int .i64 st.c.aa):=rfl
theorem aiM: (dJ st p rv)[8]?=some (.bool st.c.checked):=rfl
theorem aiN: (dJ st p rv)[9]?=some rv:=rfl
theorem aiO: (dJ st p rv)[10]?=some (.int .i64 st.c.run.1):=rfl
theorem aiP: (dJ st p rv)[11]?=some (.int .i64 st.c.run.2):=rfl
theorem aiQ: (dJ st p rv)[12]?=some (.int .i64 st.c.eW):=rfl
theorem aiR: (dJ st p rv)[16]?=some (.bool st.ended):=rfl
theorem Tn:Den.part true 12 (dJ st p rv) 1=some (.agg (br st.c rv)):=rfl
theorem aiS:Den.part true 6 (dJ st p rv) 2=some (.agg (bg st.c.c)):=rfl
theorem aiT:Den.part true 2 (dJ st p rv) 10=some (.agg (aA st.c.run)):=rfl
theorem aiU:Den.part true 3 (dJ st p rv) 13=some (.agg (bD st.r)):=rfl
theorem aiV{b:Bool}:aM (dJ st p rv) 8 [.bool b]=dJ {st with c:={st.c with checked:=b}} p rv:=rfl
theorem aiW:aM (dJ st p rv) 9 [v]=dJ st p v:=rfl
theorem aiX{r:aF}:aM (dJ st p rv) 10 (aA r)=dJ {st with c:={st.c with run:=r}} p rv:=rfl
theorem aiY{n:Nat}:aM (dJ st p rv) 12 [.int .i64 n]=dJ {st with c:={st.c with eW:=n}} p rv:=rfl
theorem aiZ:aM (dJ st p rv) 13 (bD r)=dJ {st with r:=r} p rv:=rfl
theorem ai0{b:Bool}:aM (dJ st p rv) 16 [.bool b]=dJ {st with ended:=b} p rv:=rfl
def To(c:Call)(h:rv.refs=0):aI (br c rv)=0:=by rw[auK];simp[aI,AV.refs,h]
def PL:=gG @aiK<|gG @aiL<|gG @aiM<|gG @aiN<|gG @aiO<|gG @aiP<|gG @aiQ<|gG @aiR<|gG @Tn<|gG @aiS<|gG @aiT @aiU
def PS:=gG @aiV<|gG @aiW<|gG @aiX<|gG @aiY<|gG @aiZ<|gG @ai0 @Tm
end
structure cZ(m p q s:Nat)(st:bM)(qv rv:AV)(H:List ae):Prop where
 co:dx m p q st.x qv H
 ps:p<s
 box:H[s]?=some (.box (dJ st p rv) none)
 aW:Rv rv 1 (st.c.aW.map hC)
section
variable{m p q s:Nat}{st:bM}{qv rv:AV}{H:List ae}
def cZ.lt(h:cZ m p q s st qv rv H):s<H.length:=dM h.box
theorem cZ.rz(h:cZ m p q s st qv rv H):rv.refs=0:=cq h.aW (bp (λ_=>rfl) _)
theorem cZ.app(h:cZ m p q s st qv rv H)(L:List ae):cZ m p q s st qv rv (H++L):=⟨h.co.app L,h.ps,bf h.box,h.aW⟩
theorem cZ.set(h:cZ m p q s st qv rv H){pt:bM}{qY:AV}(a:pt.x=st.x)(b:Rv qY 1 (pt.c.aW.map hC)):cZ m p q s pt qv qY (H.set s (.box (dJ pt p qY) none)):=
 ⟨a ▸ h.co.set h.box (by have:=h.ps;omega) (by have:=h.ps;have:=h.co.qp;omega) _,h.ps,cT h.box,b⟩
def cZ.fs(h:cZ m p q s st qv rv H)(o:ae):Fq m [p,q,s] H (H.set s o):=Fq.set (by simp) h.co.mp o
def cZ.sn(h:cZ m p q s st qv rv H):s∉[p,q]:=by have:=h.ps;have:=h.co.qp;grind
def cZ.ar{W:List ae}{b:Core}(h:cZ m p q s st qv rv H)(d:dx m p q b a W)(c:Fq m [p,q] H W):cZ m p q s {st with x:=b} a rv W:=
 ⟨d,h.ps,c.own h.sn h.box,h.aW⟩
def Fq.m3{H W:List ae}(h:Fq m [p,q] H W):Fq m [p,q,s] H W:=h.mono (by simp)
theorem cZ.nZ{W d:List ae}{N:Nat}{c:AV}{b:bM}(h:cZ m p q s st qv rv W)(e:d=W\/ (d=W.take N/\Q))(i:Q->qv=a)(g:cZ m p q s b a c H0)(f:H0.length=N):cZ m p q s st qv rv d:=
 ⟨h.co.nZ e i g.co f,h.ps,K4 e (by rw[<-f];exact g.lt) h.box,h.aW⟩
end
def dZ(m p q s:Nat)(H:List ae)(lo:oN)(pt:bM)(qv:AV)(r:AV)(b:aT):Prop:=
 ∃a qY H' aj,b= .ret r ⟨H',aj⟩/\cZ m p q s pt a qY H'/\Fq m [p,q,s] H H'/\fV (a=qv) p H H' lo aj
structure py(st:bM):Prop where
 x:jG st.x
 c:fI st.c
def dZ.fin{s N:Nat}{d st:bM}{e:AV}{H L W:List ae}(c:cZ m p q s d a e H)(g:H.length=N)(h:cZ m p q s st qv rv W)(k:Fq m [p,q,s] (H++L) W)(j:fV (qv=a) p (H++L) W none b)(i:v.refs<=N):
  dZ m p q s H lo st a v (.ret (finish N lo v ⟨W,b⟩).1 (finish N lo v ⟨W,b⟩).2):=by
 have r:=c.lt;have o:=c.ps;have n:=c.co.mp;obtain⟨l,f,f1,f2,f3,f4⟩:=K3 (m:=m) (N:=N) (lo:=lo) g (by omega) (by omega) k j i;rw[f1];exact⟨qv,rv,l,f,rfl,h.nZ f4 id c g,f2,f3⟩
def Tp{s:Nat}{st:bM}{H:List ae}(a:cZ m p q s st qv rv H)(e:py st)(r:bB)(lo:oN):
  ∃d,D XC (.fn (.func 151) [] []) [.ptr s 0,.agg (bD r)] ⟨H,lo⟩=some d/\dZ m p q s H lo (mY st r) qv (.av []) d:=by
 refine cH Pt λN g=>?_
 have h:=(a.app [.box (bD r) none]).set (pt:={st with r:=r,ended:=true}) (qY:=rv) rfl a.aW;have k:=(a.app [.box (bD r) none]).fs (.box (dJ {st with r:=r,ended:=true} p rv) none);obtain⟨d,g1,b,W,aj,rfl,g2,i,l⟩:=aiJ h.co e.x st.c e.c rv a.rz none;have f:=λL=>bf (L:=L) a.box
 have c:=λL o=>cT (o:=o) (f L)
 simp only[go_sem,simprocAttr,Pt,g,f,PL,PS,wX,sF,qX,c,ajO,↓Tn,g1];have j:fV (b=qv) p (H++[.box (bD r) none]) W none aj:=l.elim (λq=>.inl ⟨q.1,by grind,q.2.2⟩) .inr;exact dZ.fin a g (h.ar g2 i) (k.trans i.m3) j (ac7 _)
def fN.ai1{p:cQ}(h:fN p)(n:Nat):fN (ji p n).1:=by
 unfold ji;split
 ·exact h
 split
 ·exact h
 ·rename_i x b;cases a:qI p.free (x.1,n)with
  |none=>exact h
  |some l=>exact⟨h.n,h.free.take a,h.bytes⟩
def fN.clear{p:cQ}(h:fN p)(i:Nat):fN (qJ p i):=by
 unfold qJ;split
 ·refine⟨h.n,h.free,λa b=>?_⟩;show aq p.bytes i (λ_=>0) a b<256;unfold aq;split
  ·simp
  ·exact h.bytes a b
 omega
def fN.back{p:cQ}(h:fN p)(i:Nat):fN (qK p i):=by
 unfold qK;split
 ·unfold Ka;cases a:iw p.free (i,1)with
  |none=>exact h
  |some l=>exact⟨h.n,h.free.iw a,h.bytes⟩
 omega
def fN.write{p:cQ}(h:fN p)(i b:Nat)(d:b<256):fN (ss p i b):=by
 unfold ss;split
 ·refine⟨h.n,h.free,λa c=>?_⟩;show aq p.bytes (i/32) (aq (p.bytes (i/32)) (i % 32) b) a c<256;unfold aq;split
  ·show(if c=i % 32 then b else p.bytes (i/32) c)<256;split
   ·omega
   ·exact h.bytes _ _
  ·exact h.bytes a c
 omega
def auM{p:cQ}(h:fN p)(n:Nat)(c:n<=64)(b: (ji p n).2.2=0): (ji p n).2.1+n<=64:=by
 unfold ji at b⊢;split
 ·grind
 ·rename_i e;split
  ·grind
  ·rename_i x a;have d:=h.free.bd x (aqd a)
   grind
def ai2{x y:aB}{h:Nat}{r:df}(e:nQ x h r= .ok y):y.ma=x.ma:=by
 unfold nQ at e;cases a:cC (fD x.s.T h r).2 with
 |error _=>rw[a]at e;cases e
 |ok _=>rw[a]at e;cases e;rfl
def bo{α β:Type}{m:R α}{f:α->R β}{b:β}(h: (m>>=f)= .ok b): ∃a,m= .ok a/\f a= .ok b:=by
 cases m with
 |error e=>cases h
 |ok a=>exact⟨a,rfl,h⟩
def auN{x y:aB}(e:x.ma=0)(h:mc x= .ok (y,r)):y.ma<=4:=by
 unfold mc at h;dsimp only at h;cases b:oX (min x.c.a 129) (min x.c.b 9)with
 |none=>rw[b]at h;cases h
 |some n=>
  have c:n<=4:=by
   unfold oX at b;split at b
   ·rename_i ho;have:min x.c.a 129<=128:=by unfold isObj at ho;simp at ho;omega
    cases b;omega
   ·cases b
  rw[b]at h;obtain⟨a,e1,h⟩:=bo h;cases e1;obtain⟨_,_,h⟩:=bo h;obtain⟨_,_,h⟩:=bo h;split at h
  ·obtain⟨z,d,h⟩:=bo h;cases h;rw[ai2 d,e];omega
  ·obtain⟨_,_,h⟩:=bo h;split at h
   ·cases h;exact c
   ·obtain⟨_,_,h⟩:=bo h;obtain⟨z,d,h⟩:=bo h;cases h;rw[ai2 d];exact c
def ai3(s:bF)(aa:Nat)(c:cz):eU s aa c<=4:=by
 unfold eU;split
 ·omega
 ·split
  ·rename_i y r e;obtain⟨_,_,e⟩:=bo (show(ask _ _>>=λ_=>lu _)=_ from e);unfold lu at e;have:c.op=2:=by omega
   simp only[this]at e;exact auN rfl e
  ·omega
theorem dZ.same{s:Nat}{st:bM}{H:List ae}{r:AV}(h:cZ m p q s st qv rv H):dZ m p q s H lo st qv r (.ret r ⟨H,lo⟩):=⟨qv,rv,H,lo,rfl,h,Fq.refl,fV.same rfl⟩
def dZ.Fl{s N:Nat}{c st:bM}{d:AV}{H W:List ae}(g:cZ m p q s c a d H)(f:H.length=N)(h:cZ m p q s st qv rv W)(j:Fq m [p,q,s] H W)(i:fV (qv=a) p H W none b)(e:v.refs<=N):
 dZ m p q s H lo st a v (.ret (finish N lo v ⟨W,b⟩).1 (finish N lo v ⟨W,b⟩).2):=dZ.fin (L:=[]) g f h (by grind) (by grind) e
def ai4{s:Nat}{st:bM}{H:List ae}(ha:cZ m p q s st qv rv H)(hx:py st)(e:Nat)(lo:oN):
 ∃a,D XC (.fn (.func 151) [] []) [.ptr s 0,.agg [.int .i64 e,.int .u64 0,.int .u32 0]] ⟨H,lo⟩=some a/\dZ m p q s H lo (mY st {bO with e:=e}) qv (.av []) a:=Tp ha hx {bO with e:=e} lo
section
variable(hD: ∀op,ke op){m p q s:Nat}{st:bM}{qv rv:AV}{H:List ae}(ha:cZ m p q s st qv rv H)(hx:py st)(lo:oN)
include hD ha hx
theorem auO: ∃f,D XC (.fn (.func 140) [] []) [.ptr s 0] ⟨H,lo⟩=some f/\dZ m p q s H lo (j9 st).1 qv (.bool (j9 st).2) f:=by
 refine cH A1 λN b=>?_
 have k:s<N:=by rw[<-b];exact ha.lt
 have hw:=Th st.x.S hx.x.S st.c.aa hx.c.aa st.c.c hx.c.ie (hD _);have g:=aiv st.x.S hx.x.S st.c.aa hx.c.aa st.c.c hx.c.ie (hD _);unfold j9;cases d:st.c.checked with
 |true=>
  simp(disch:=omega) only[F1,go_sem,simprocAttr,A1,ha.box,PL,d];exact dZ.same ha
 |false=>
  cases i:wA st.x.S st.c.aa st.c.c with
  |true=>
   rw[i]at hw;simp only[F1,go_sem,simprocAttr,A1,b,ha.box,ha.co.box,PL,↓PL,KL,↓KL,d,hw];exact dZ.same ha
  |false=>
   rw[i]at hw;by_cases h:nR st.x.S st.c.aa st.c.c=0
   ·have a: ((nR st.x.S st.c.aa st.c.c:Nat):Int)=0:=by omega
    obtain⟨v,d1,d2⟩:=auH hx.x.S hx.c.ie H none;obtain⟨t1,t2⟩:=na (d2 ⟨[],none⟩);have t3:=cq d2 (bp (λ_=>rfl) _);have e:=λo=>cT (o:=o) ha.box
    simp only[go_sem,simprocAttr,A1,b,ha.box,ha.co.box,PL,↓PL,KL,↓KL,PS,d,hw,g,a,d1,t1,t2,t3,e,ajO];rw[acz (λq=>q h)];exact dZ.Fl (v:=.bool true) ha b (ha.set (pt:={st with c:={st.c with checked:=true,aW:=sq st.x.S st.c.c}}) rfl d2) (ha.fs _) (.inl ⟨rfl,by simp,rfl⟩) (ac7 _)
   ·have a: ¬((nR st.x.S st.c.aa st.c.c:Nat):Int)=0:=by omega
    obtain⟨f,g1,j,qY,W,aj,rfl,g2,n,l⟩:=ai4 ha hx (nR st.x.S st.c.aa st.c.c) none;simp only[go_sem,simprocAttr,A1,b,ha.box,ha.co.box,PL,↓PL,KL,↓KL,d,hw,g,a,g1];rw[acE h];exact dZ.Fl ha b g2 n l (ac7 _)
omit hD in
theorem auP: ∃R,D XC (.fn (.func 141) [] []) [.ptr s 0] ⟨H,lo⟩=some R/\dZ m p q s H lo (mf st).1 qv (.bool (mf st).2) R:=by
 have ho:Old s H (.box (dJ st p rv) none):=⟨ha.box⟩;refine cH Ec λN n=>?_
 have T:s<N:=by rw[<-n];exact ha.lt
 have U:p<N:=by have:=ha.ps;omega
 have a:=ha.aW.bK (E:=⟨H,none⟩);unfold mf;cases G:st.c.aW with
 |nil=>
  rw[G]at a;simp(disch:=omega) only[F1,go_sem,simprocAttr,Ec,n,ha.box,PL,a];exact dZ.same ha
 |cons h t=>
  have f:=ha.aW;rw[G]at a f;have Q: ¬((t.length:Nat):Int)+1=0:=by omega
  have A:iG 1 rv (.int .i64 0)=some (eh rv 0 0):=by
   rw[f.cG,acE ⟨by omega,by simp⟩];rfl
  have y: ∀E,bW XC E false 1 (eh rv 0 0)=some (.int .u32 h):=λE=>f.cS (by simp)
  have e:=λH lo=>c0 (jB h (hx.c.aW h (by rw[G];simp)) H lo)
  have F: ((eF h).getD 0)=aO h:=rfl;unfold iB at e;rw[F]at e;have d:=λH lo=>c0 (at1 st.x.M hx.x.M (aO h) st.c.aa hx.c.aa H lo)
  have B:oD.length=320:=by decide
  have r:List.drop 320 oD=[]:=afL (by rw[B];omega);have u: ∀m:Marks,List.take 320 (ck m)=ck m:=λm=>ac4 (by rw[dI];omega)
  have K:=λL=>bf (L:=L) ha.box
  have z:=λL=>bf (L:=L) ha.co.box
  have v:=λm=>dI m
  obtain⟨c,C⟩: ∃c,rv= .sl ((h::t).map hC) c:=by
   obtain⟨S,l,V⟩:=f ⟨[],none⟩;cases rv<;>simp only[]at S
   ·simp[Den.elems]at l
   ·rename_i af c;simp only[Den.elems]at l;split at l
    ·cases l;exact⟨c,rfl⟩
    ·cases l
   ·simp[Den.elems]at l
  obtain⟨w,s1,s2⟩:=ail (sz:=1) (af:=(h::t).map hC) (c:=c) (i:=1) (by intro el J;obtain⟨x,_,rfl⟩:=ael.1 J;rfl) (by simp);rw[<-C]at s1;have s1:fZ 1 rv (some (.int .i64 1)) none none=some w:=s1;obtain⟨t1,t2⟩:=na (s2 ⟨[],none⟩);have t3:=cq s2 (bp (g:=hC) (λ_=>rfl) t);have I: ∀L o,((H++L).set p o)[s]?=some (.box (dJ st p rv) none):=λL o=>(abN (by have:=ha.ps;omega)).trans (K L)
  obtain⟨j,k⟩: ∃j,j=(ia st.x.M (aO h) st.c.aa).1:=⟨_,rfl⟩;have O:=(ha.app [.box (ck j) none]).ar ((ha.app [.box (ck j) none]).co.aiF j) ((ha.app [.box (ck j) none]).co.fp _);have P:=(ha.app [.box (ck j) none]).co.fp (.box (bA {st.x with M:=j} q qv) none);rw[<-k]at d;cases b: (ia st.x.M (aO h) st.c.aa).2 with
  |true=>
   rw[b]at d;simp(disch:=omega) only[go_sem,simprocAttr,Ec,n,ha.box,K,z,I,PL,↓PL,PS,KL,↓KL,KS,a,Q,A,y,e,d,B,r,u,v,jF,s1,t1,t2,t3];rw[acE b,<-k];exact dZ.fin ha n (O.set (pt:={st with x:={st.x with M:=j},c:={st.c with aW:=t}}) rfl s2) (P.m3.trans (O.fs _)) (.inl ⟨rfl,by simp,rfl⟩) (ac7 _)
  |false=>
   rw[b]at d;simp(disch:=omega) only[go_sem,simprocAttr,Ec,n,ha.box,K,z,PL,↓PL,KL,↓KL,KS,a,Q,A,y,e,d,B,r,u,v,jF];rw[acz (by rw[b];simp),<-k];exact dZ.fin ha n O P.m3 (.inl ⟨rfl,by simp,rfl⟩) (ac7 _)
theorem auQ: ∃l,D XC (.fn (.func 142) [] []) [.ptr s 0] ⟨H,lo⟩=some l/\dZ m p q s H lo (mg st).1 qv (.bool (mg st).2) l:=by
 have ho:Old s H (.box (dJ st p rv) none):=⟨ha.box⟩;refine cH A2 λN f=>?_
 have i:=λH lo=>cB (Ta st.x.S hx.x.S st.c.aa hx.c.aa st.c.c hx.c.ie (hD _) H lo)
 have v:=ai3 st.x.S st.c.aa st.c.c;unfold mg;dsimp only;by_cases y:eU st.x.S st.c.aa st.c.c=0
 ·have a:decide (((eU st.x.S st.c.aa st.c.c:Nat):Int)=0)=true:=ac5 (by omega);rw[acE (.inl y)];simp only[F1,go_sem,simprocAttr,A2,f,ha.box,ha.co.box,PL,↓PL,KL,↓KL,i,a];exact dZ.same ha
 ·have a:decide (((eU st.x.S st.c.aa st.c.c:Nat):Int)=0)=false:=acK (by omega);by_cases w:0<st.c.run.2
  ·have b: ((st.c.run.2:Nat):Int)>0:=by omega
   rw[acE (.inr w)];simp only[F1,go_sem,simprocAttr,A2,f,ha.box,ha.co.box,PL,↓PL,KL,↓KL,i,a,b];exact dZ.same ha
  ·have b: ¬((st.c.run.2:Nat):Int)>0:=by omega
   rw[acz (by omega)];have h:=λlo=>auy hx.x.P ha.co.eB lo (n:=eU st.x.S st.c.aa st.c.c) (by omega)
   have j:=ha.ar (ha.co.Fk (ji st.x.P (eU st.x.S st.c.aa st.c.c)).1) (ha.co.fq _);have o:=ha.co.fq (.box (cb (ji st.x.P (eU st.x.S st.c.aa st.c.c)).1) none);have k:py {st with x:={st.x with P:=(ji st.x.P (eU st.x.S st.c.aa st.c.c)).1}}:=⟨⟨hx.x.S,hx.x.P.ai1 _,hx.x.M,hx.x.Q,hx.x.Ql⟩,hx.c⟩;generalize u:ji st.x.P (eU st.x.S st.c.aa st.c.c)=d at*;by_cases r:d.2.2=0
   ·have e:decide (((d.2.2:Nat):Int)=0)=true:=ac5 (by omega);rw[acz (λq=>q r)];have g: [AV.int .i64 (d.2.1:Nat),.int .i64 ((eU st.x.S st.c.aa st.c.c:Nat))]=aA (d.2.1,eU st.x.S st.c.aa st.c.c):=rfl;simp only[go_sem,simprocAttr,A2,f,ha.box,ha.co.box,PL,↓PL,KL,↓KL,i,a,b,h,e,j.box,g,PS];exact dZ.Fl ha f (j.set (pt:={st with x:={st.x with P:=d.1},c:={st.c with run:=(d.2.1,eU st.x.S st.c.aa st.c.c)}}) rfl ha.aW) (o.m3.trans (j.fs _)) (.inl ⟨rfl,by simp,rfl⟩) (ac7 _)
   ·have e:decide (((d.2.2:Nat):Int)=0)=false:=acK (by omega);rw[acE r];obtain⟨l,g1,t,qY,W,aj,rfl,g2,A,z⟩:=ai4 j k d.2.2 none;simp only[go_sem,simprocAttr,A2,f,ha.box,ha.co.box,PL,↓PL,KL,↓KL,i,a,b,h,e,g1];exact dZ.Fl ha f g2 (o.m3.trans A) (z.elim (λq=>.inl ⟨q.1,by rw[q.2.1,aen],q.2.2⟩) .inr) (ac7 _)
omit hD in
theorem auR: ∃h,D XC (.fn (.func 143) [] []) [.ptr s 0] ⟨H,lo⟩=some h/\dZ m p q s H lo (mh st).1 qv (.bool (mh st).2) h:=by
 have ho:Old s H (.box (dJ st p rv) none):=⟨ha.box⟩;refine cH Jh λN e=>?_
 have j:=hx.c.run;have k:=hx.c.eW;unfold mh;by_cases g:st.c.run.2<=st.c.eW
 ·have a: ((st.c.eW:Nat):Int)>=st.c.run.2:=by omega
  rw[acE g];simp(disch:=omega) only[F1,go_sem,simprocAttr,Jh,e,ha.box,PL,a];exact dZ.same ha
 ·have a: ¬((st.c.eW:Nat):Int)>=st.c.run.2:=by omega
  rw[acz g];have d: ∀lo,D XC (.fn (.func 155) [] []) [.ptr q 0,.int .i64 ((st.c.run.1:Int)+st.c.eW)] ⟨H,lo⟩=_:=λlo=>c0 (aus hx.x.P ha.co.eB lo (i:=st.c.run.1+st.c.eW) (by omega))
  have f:=ha.ar (ha.co.Fk (qJ st.x.P (st.c.run.1+st.c.eW))) (ha.co.fq _);have l:=ha.co.fq (.box (cb (qJ st.x.P (st.c.run.1+st.c.eW))) none);have b: ∀x,aM (dJ {st with x:=x} p rv) 12 [.int .i64 ((st.c.eW:Int)+1)]=dJ {st with x:=x,c:={st.c with eW:=st.c.eW+1}} p rv:=λ_=>rfl
  simp(disch:=omega) only[go_sem,simprocAttr,Jh,e,ha.box,ha.co.box,PL,KL,a,d,f.box,b,Tm];exact dZ.Fl ha e (f.set (pt:={st with x:={st.x with P:=qJ st.x.P (st.c.run.1+st.c.eW)},c:={st.c with eW:=st.c.eW+1}}) rfl ha.aW) (l.m3.trans (f.fs _)) (.inl ⟨rfl,by simp,rfl⟩) (ac7 _)
end
theorem ai5: ∀ (l:List aF) (b x k:Nat),(∀r∈l,r.1+r.2<=64)->j8 l b x=some k->k<=2048+x
 | [],_,_,_,_,h=>by cases h
 |r::rs,b,x,k,a,h=>by
  rw[agd]at h;split at h
  ·grind
  ·exact ai5 rs _ x k (λz c=>a z (by grind)) h
def ai6{s:bF}(d:bm s)(c:cz): (gz s c).1.length<=8/\ ∀k∈(gz s c).1,k<65536:=by
 unfold gz;split
 ·simp
 split
 ·simp
 split
 ·simp
 ·rename_i m l j;refine⟨by simp;omega,λk f=>?_⟩;obtain⟨i,h,rfl⟩:=ael.1 f;have g:=ame.1 h;have b:=d.T.get c.r;have a:=b.len;cases he:j8 (aL s.T c.r).1.runs 0 (c.a+i)with
  |none=>simp
  |some v=>
   have:=ai5 _ _ _ _ (λr e=>(b.runs r e).2) he;simp;omega
def auS(v i:Nat)(a:i<8):kn .shr (.int .u64 v) (.int .i64 (8*(i:Int)))=some (.int .u64 ((v/2^(8*i):Nat))):=by
 rw[CQ,acE (by omega)];have b:min (8*(i:Int)).toNat IntKind.u64.bits=8*i:=by
  have:IntKind.u64.bits=64:=rfl;omega
 grind
def ai7(b i:Nat)(f:b<256)(e:i<8):kn .shl (.int .u64 b) (.int .i64 (8*(i:Int)))=some (.int .u64 ((b*2^(8*i):Nat)))/\b*2^(8*i)<18446744073709551616:=by
 have a:b*2^(8*i)<18446744073709551616:=by
  rcases(show i=0\/i=1\/i=2\/i=3\/i=4\/i=5\/i=6\/i=7 by omega)with q|q|q|q|q|q|q|q<;>subst q<;>simp<;>omega
 refine⟨?_,a⟩;rw[z9,acE (by omega)];have d:min (8*(i:Int)).toNat IntKind.u64.bits=8*i:=by
  have:IntKind.u64.bits=64:=rfl;omega
 rw[d];have c: ((2:Int)^(8*i))=((2^(8*i):Nat):Int):=by rfl
 rw[c,<-Int.natCast_mul,wrap_u64 (by omega) (by omega)]
def ai8(a b:Nat)(d:a<18446744073709551616)(c:b<18446744073709551616):dh .or (.int .u64 a) (.int .u64 b)=some (.int .u64 ((a|||b:Nat)))/\a|||b<18446744073709551616:=by
 have f:a|||b<2^64:=Nat.or_lt_two_pow d c;refine⟨?_,f⟩;rw[GP];have e: ∀n:Nat,n<18446744073709551616->(BitVec.ofInt IntKind.u64.bits (n:Int)).toNat=n:=by
  have:IntKind.u64.bits=64:=rfl
  grind
 rw[BitVec.toNat_or,e a d,e b c,wrap_u64 (by omega) (by omega)]
def auT(v i:Nat):IntKind.wrap .u8 ((v/2^(8*i):Nat):Int)=(byteOf v i:Nat):=aic _
def sH(P:cQ)(pl:lN)(v k:Nat):cQ:=(List.range k).foldl (λP i=>ss P (pl.getD i 0) (byteOf v i)) P
def ai9(P:cQ)(pl:lN)(v k:Nat):sH P pl v (k+1)=ss (sH P pl v k) (pl.getD k 0) (byteOf v k):=by
 unfold sH;rw[an7,akp];rfl
def pA(P:cQ)(pl:lN)(v k:Nat):Nat:=(List.range k).foldl (λv i=>v|||qL P (pl.getD i 0)*2^(8*i)) v
def aja(P:cQ)(pl:lN)(v k:Nat):pA P pl v (k+1)=pA P pl v k|||qL P (pl.getD k 0)*2^(8*k):=by
 unfold pA;rw[an7,akp];rfl
theorem Tq{P:cQ}(h:fN P)(pl:lN)(v:Nat): ∀k,fN (sH P pl v k)
 |0=>h
 |k+1=>by rw[ai9];exact(Tq h pl v k).write _ _ (amw _ (by omega))
def ajb{P:cQ}(h:fN P)(i:Nat):qL P i<256:=by
 unfold qL;split
 ·exact h.bytes _ _
 ·omega
theorem Tr{P:cQ}(h:fN P)(pl:lN)(v:Nat)(a:v<18446744073709551616): ∀k,k<=8->pA P pl v k<18446744073709551616
 |0,_=>a
 |k+1,b=>by
  rw[aja];exact(ai8 _ _ (Tr h pl v a k (by omega)) (ai7 _ _ (ajb h _) (by omega)).2).2
def ajc{pv:AV}{pl:lN}(d:Rv pv 1 (pl.map gE))(v:pl.length<=8){f:Fn}{cs:lA}(m:AV)(F:Nat->List ae)(t: ∀k,(F k).length=(F 0).length)
  (p: ∀k,k<pl.length->D XC (.fn f [] cs) [.int .i64 (pl.getD k 0:Nat),.int .i64 k] ⟨F k,none⟩=some (.ret (.av []) ⟨F (k+1),none⟩)) (lo:oN):
  D XC (.fn (.func 157) [] []) [m,pv,.fn f [] cs] ⟨F 0,lo⟩=some (.ret (.av []) ⟨F pl.length,lo⟩):=by
 refine aH Pv λN r=>?_
 simp only[go_sem,simprocAttr,Pv,d.bK];refine ek pl.length (λk e H'=>H'=F k/\e 2= .fn f [] cs/\e 8=pv/\e 9= .int .i64 pl.length/\e 10= .int .i64 k) 0 (by omega) ?_ ?_
 ·simp only[go_sem,simprocAttr]
 rintro k w e H' ⟨rfl,s,l,j,b⟩ n u;simp only[cg,F1,go_sem,simprocAttr,adH,l,j,b];refine⟨λo=>?_,λo=>?_⟩
 ·have a:k<pl.length:=by omega
  have i: ∀y,(gE y)[0]?=some (.int .i64 y):=λ_=>rfl
  have g:pl.getD k default=pl.getD k 0:=rfl;have h:=p k a;simp(disch:=omega) only[go_sem,simprocAttr,s,l,j,b,d.cG,d.cS,i,g,h];exact⟨by omega,a⟩
 ·obtain rfl:k=pl.length:=by omega
  have q: (F pl.length).length=N:=by rw[t,r]
  have c: (F pl.length).take N=F pl.length:=ac4 (by omega);simp only[go_sem,simprocAttr,c]
def auU{s:Nat}{st:bM}{W:List ae}(f:cZ m p q s st qv rv W)(k:fN st.x.P){n g:Nat}(t:W[n]?=some (.box [.ptr s 0] none))(r:W[g]?=some (.box (bg c) none))(at' i:Nat)(j:at'<65536)(h:i<8)(lo:oN):
  D XC (.fn (.func 158) [] [.ptr n 0,.ptr g 0]) [.int .i64 at',.int .i64 i] ⟨W,lo⟩=some (.ret (.av []) ⟨W.set q (.box (cb (ss st.x.P at' (byteOf c.v i))) none),lo⟩):=by
 refine fe Pw λN l=>?_
 have hw:=λlo=>c0 (auw k f.co.eB lo (at':=at') (b:=byteOf c.v i) (by omega))
 have a: ∀o,(W.set q o).take N=W.set q o:=λo=>ac4 (by grind)
 have d:=auS c.v i h;have e:=auT c.v i;simp(disch:=omega) only[F1,go_sem,simprocAttr,Pw,l,t,r,f.box,f.co.box,PL,KL,fU,d,e,hw,a]
def auV{s:Nat}{st:bM}{W:List ae}(e:cZ m p q s st qv rv W)(f:fN st.x.P){n a:Nat}(h:r.v<18446744073709551616)(w:W[n]?=some (.box [.ptr s 0] none))(u:W[a]?=some (.box (bD r) none))(at' i:Nat)(l:at'<65536)(j:i<8)(lo:oN):
  D XC (.fn (.func 160) [] [.ptr n 0,.ptr a 0]) [.int .i64 at',.int .i64 i] ⟨W,lo⟩=some (.ret (.av []) ⟨W.set a (.box (bD {r with v:=r.v|||qL st.x.P at'*2^(8*i)}) none),lo⟩):=by
 refine fe Px λN t=>?_
 have hw:=λlo=>c0 (auv f e.co.eB lo (at':=at') (by omega))
 have b: ∀o,(W.set a o).take N=W.set a o:=λo=>ac4 (by grind)
 have k:=ajb f at';obtain⟨s1,s2⟩:=ai7 (qL st.x.P at') i k j;obtain⟨g,x⟩:=ai8 r.v (qL st.x.P at'*2^(8*i)) h s2;have d: (bD r)[1]?=some (.int .u64 r.v):=rfl;have c: ∀n:Nat,aM (bD r) 1 [.int .u64 n]=bD {r with v:=n}:=λ_=>rfl
 simp(disch:=omega) only[F1,go_sem,simprocAttr,Px,t,w,u,e.box,e.co.box,PL,KL,hw,s1,g,d,c,b,sF]
def sI:PC->PC|.seq a _=>a|x=>x
def sJ:PC->PC|.seq _ b=>b|x=>x
def fx(Q:Prop)(B:Nat)(lo:oN):Prop:=(lo=none/\Q)\/ ∃j,j<=B/\lo=some j
theorem fx.no{B:Nat}(h:Q):fx Q B none:=.inl ⟨rfl,h⟩
def fx.step{e d:Prop}{B:Nat}{m l:List ae}{a:oN}(h:fx e B b)(g:fV d B m l b a)(f:e->d->Q):fx Q B a:=by
 rcases h with⟨rfl,h⟩| ⟨j,i,rfl⟩
 ·rcases g with⟨rfl,_,g⟩| ⟨k,c,rfl⟩
  ·exact .inl ⟨rfl,f h g⟩
  ·exact .inr ⟨k,c,rfl⟩
 ·rcases g with⟨rfl,_,_⟩| ⟨k,c,rfl⟩
  ·exact .inr ⟨j,i,rfl⟩
  ·exact .inr ⟨min k j,by omega,rfl⟩
def fV.n{B:Nat}{H H':List ae}(h:fV Q B H H' none lo):fx Q B lo:=(fx.no trivial).step h λ_ q=>q
def dZ.ajd{s N:Nat}{f st:bM}{g:AV}{H W:List ae}{c:oN}(e:cZ m p q s f a g H)(l:H.length=N)(h:cZ m p q s st qv rv W)(i:Fq m [p,q,s] H W)(o:fx (qv=a) p c)(n:v.refs<=N):
  dZ m p q s H lo st a v (.ret (finish N lo v ⟨W,c⟩).1 (finish N lo v ⟨W,c⟩).2):=by
 have x:=e.lt;have w:=e.ps;have u:=e.co.mp;have t: ∃d b,finish N lo v ⟨W,c⟩=(v,⟨d,b⟩)/\Fq m [p,q,s] H d/\fV (qv=a) p H d lo b/\ (d=W\/ (d=W.take N/\qv=a)):=by
  rcases o with⟨rfl,k⟩| ⟨j,r,rfl⟩
  ·refine⟨W.take N,lo,iQ (.inl rfl) n,i.take l (by omega),.inl ⟨rfl,?_,k⟩,.inr ⟨rfl,k⟩⟩;rw[aeD];have:=i.len;omega
  ·exact⟨W,cK lo j,uW (by omega),i,.inr ⟨j,r,rfl⟩,.inl rfl⟩
 obtain⟨d,b,f1,f2,f3,f4⟩:=t;rw[f1];exact⟨qv,rv,d,b,rfl,h.nZ f4 id e l,f2,f3⟩
def mr(n:Nat):PC:=match n with
 |0=>nH.body
 |n+1=>sJ (mr n)
def jH(n:Nat):PC:=sI (mr n)
def Ts:PC:=mr 3
def Tt:PC:=mr 6
def Tu:PC:=mr 7
theorem auW:nH.body= .seq (jH 0) (.seq (jH 1) (.seq (jH 2) Ts)):=rfl
theorem auX:Ts= .seq (jH 3) (.seq (jH 4) (.seq (jH 5) Tt)):=rfl
theorem auY:Tt= .seq (jH 6) Tu:=rfl
theorem auZ:Tu= .seq (jH 7) (.seq (jH 8) (.seq (jH 9) (mr 10))):=rfl
def eG(st:bM):bM:=if 0<st.c.run.2/\eU st.x.S st.c.aa st.c.c≠st.c.run.2 then{st with x:=cO st.x st.c.run,c:={st.c with run:=(0,0)}}else st
structure CmS(m p q s N M:Nat)(H:List ae)(qv0 rv:AV)(st:bM)(c:cz)(nx:bF)(r:bB)(bv:AV)(e:Env)(W:List ae)(lo:oN):Prop where
 e1:e 1= .ptr N 0
 e3:e 3= .ptr (N+1) 0
 e6:e 6= .ptr M 0
 e7:e 7= .ptr (M+1) 0
 e8:e 8=bv
 st: ∃qv,cZ m p q s st qv rv W/\fx (qv=qv0) p lo
 w0:W[N]?=some (.box [.ptr s 0] none)
 w1:W[N+1]?=some (.box (bg c) none)
 w6:W[M]?=some (.box (bz nx) none)
 w7:W[M+1]?=some (.box (bD r) none)
 fr:Fq m [p,q,s] H W
 sN:s<N
 NM:N+2<=M
theorem BS: ∀ (l:List aF) (x:Core),(∀r∈l,r.2<=64)->(l.foldl cO x).Q.length<=x.Q.length+64*l.length
 | [],_,_=>by simp
 |r::l,x,h=>by
  have:=BS l (cO x r) (λz a=>h z (by grind));have b: (cO x r).Q.length=x.Q.length+r.2:=by simp[cO,iO]
  grind
theorem Tv: ∀ (l:List aF) (x:Core),(l.foldl cO x).S=x.S/\ (l.foldl cO x).P=x.P/\ (l.foldl cO x).M=x.M
 | [],_=>⟨rfl,rfl,rfl⟩
 |r::l,x=>Tv l (cO x r)
theorem Tw: ∀ (l:List aF) (x:Core),(∀r∈l,r.1<=64/\r.2<=64)->(∀k∈x.Q,k<2147483648)-> ∀k∈(l.foldl cO x).Q,k<2147483648
 | [],_,_,h=>h
 |r::l,x,h,c=>Tw l (cO x r) (λz b=>h z (by grind)) λk a=>by
  rcases ac8.1 a with a|a
  ·grind
  ·obtain⟨i,d,rfl⟩:=ael.1 a
   grind
def jG.ajf(a:jG x)(b: ∀r∈l,r.1<=64/\r.2<=64)(g:x.Q.length+64*l.length<8589934592):jG (l.foldl cO x):=by
 obtain⟨f,e,d⟩:=Tv l x;exact⟨f ▸ a.S,e ▸ a.P,d ▸ a.M,Tw l x b a.Q,by have:=BS l x (λr c=>(b r c).2);omega⟩
def Tx{s N:Nat}{H:List ae}{g T:AV}{R st:bM}{nx:bF}{bv:AV}{back:List aF}{e:Env}{W:List ae}(h0:cZ m p q s R g T H)(hN:H.length=N)
  (h:CmS m p q s N M H g rv st c nx r bv e W lo) (hb:Rv bv 2 (back.map aA)) (B:back.length<=4096/\ ∀r∈back,r.1<=64/\r.2<=64) (y:py st) (Y:bm nx) (hQ:st.x.Q.length<4294967296) (F:oN):
  wp XC 144 false Tu ⟨e,[]⟩ ⟨W,lo⟩ (dE XC N F [.t 2] (dZ m p q s H F (mY {st with x:=back.foldl cO {st.x with S:=nx},c:={st.c with run:=(0,0)}} r) g (.bool true))):=by
 obtain⟨e1,e3,e6,e7,e8,⟨qv,d,f⟩,w0,w1,w6,w7,fr,sN,NM⟩:=h;have Gf:=d.ps;have K5:=d.co.qp;have hmp:=d.co.mp;have Q:=d.ar (d.co.aiG nx) (d.co.fp _);have O:=Q.set (pt:={st with x:={st.x with S:=nx},c:={st.c with run:=(0,0)}}) rfl d.aW;have hF:=(d.co.fp (.box (bA {st.x with S:=nx} q qv) none)).m3.trans (Q.fs (.box (dJ {st with x:={st.x with S:=nx},c:={st.c with run:=(0,0)}} p rv) none));have hw: ∀i o,i≠p->i≠s->W[i]?=some o->((W.set p (.box (bA {st.x with S:=nx} q qv) none)).set s (.box (dJ {st with x:={st.x with S:=nx},c:={st.c with run:=(0,0)}} p rv) none))[i]?=some o:=λi o hi hi2 ho=>by
  rw[abN (Ne.symm hi2),abN (Ne.symm hi)];exact ho
 have G: [AV.int .i64 0,.int .i64 0]=aA (0,0):=rfl;have J: ∀r:aF,(aA r).length=2:=λ_=>rfl
 have I: ∀r:aF,aI (aA r)=0:=λ_=>rfl
 have hNp: (N !=p)=true:=by simp;omega
 rw[auZ];simp only[go_sem,simprocAttr,nH,jH,mr,sI,sJ,e1,e6,e8,w0,w6,d.box,d.co.box,Q.box,PL,G,PS,KS,nM,hb.bK,dY,J,I,KV,hNp];generalize hW1: (W.set p (.box (bA {st.x with S:=nx} q qv) none)).set s (.box (dJ {st with x:={st.x with S:=nx},c:={st.c with run:=(0,0)}} p rv) none)=W1 at*;refine iJ back.length (λk e P j=> ∃w,e 1= .ptr N 0/\e 7= .ptr (M+1) 0/\e 128=bv/\e 129= .int .i64 back.length/\e 130= .int .i64 k/\cZ m p q s {st with x:=(back.take k).foldl cO {st.x with S:=nx},c:={st.c with run:=(0,0)}} w rv P/\fx (w=g) p j/\P[N]?=some (.box [.ptr s 0] none)/\P[M+1]?=some (.box (bD r) none)/\Fq m [p,q,s] H P) 0 (by omega) ?_ ?_
 ·refine⟨qv,?_⟩;simp only[go_sem,simprocAttr,e1,e7];exact⟨O,f,hw _ _ (by omega) (by omega) w0,hw _ _ (by omega) (by omega) w7,fr.trans hF⟩
 clear f Q O hF hw w0 w1 w6 w7 fr e1 e3 e6 e7 e8 d hW1;rintro k hk e P j ⟨w,e1,e7,v,u,t,d,f,w0,w7,fr⟩ n hn;have K:=λL=>bf (L:=L) w0
 have hbx:=λL=>bf (L:=L) d.box
 simp only[cg,go_sem,simprocAttr,adF,e1,v,u,t];refine⟨λhh=>?_,λhh=>?_⟩
 ·have l:k<back.length:=by omega
  generalize A:back.getD k default=D at*;have zT:=B.2 D (by rw[<-A];exact fE l);have V:=BS (back.take k) {st.x with S:=nx} (λz hz=>(B.2 z (afZ hz)).2);have xr: (back.take k).length<=k:=by simp;omega
  obtain⟨cr,g1,E,W3,U,rfl,g2,C,g4⟩:=Tl (d.co.app [.box (aA D) none]) D ⟨by omega,by omega⟩ (by
   have: ({st.x with S:=nx}:Core).Q=st.x.Q:=rfl;rw[this]at V;show((back.take k).foldl cO {st.x with S:=nx}).Q.length<_;omega) j
  simp(disch:=omega) only[go_sem,simprocAttr,e1,e7,v,u,t,hb.cG,hb.cS,A,hn,J,I,K,hbx,PL,g1];have hs:=(d.app [.box (aA D) none]).ar g2 C;have Ty:N∉[p,q]:=by simp;omega
  have Z:M+1∉[p,q]:=by simp;omega
  have e0: (back.take (k+1)).foldl cO {st.x with S:=nx}=cO ((back.take k).foldl cO {st.x with S:=nx}) D:=by
   rw[<-A,aex,acJ l,akp,aer,acJ l];rfl
  rw[e0];refine⟨by omega,l,E,hs,f.step g4 (λa b=>b.trans a),C.own Ty (K _),C.own Z (bf w7),?_⟩;exact fr.trans (C.m3.pre (by have:=d.co.mp;omega))
 ·obtain rfl:k=back.length:=by omega
  rw[aeo]at d;have X:py {st with x:=back.foldl cO {st.x with S:=nx},c:={st.c with run:=(0,0)}}:=
   ⟨jG.ajf (x:={st.x with S:=nx}) ⟨Y,y.x.P,y.x.M,y.x.Q,by show st.x.Q.length<_;omega⟩ B.2 (by show st.x.Q.length+_<_;omega),⟨y.c.aa,y.c.ie,y.c.aW,⟨by show 0<65536;omega,by show 0<65536;omega⟩,y.c.eW⟩⟩
  obtain⟨cr,g1,E,rv3,W3,U,rfl,g2,C,g4⟩:=Tp d X r j;simp only[go_sem,simprocAttr,e7,w0,w7,wX,sF,g1];exact dZ.ajd h0 hN g2 (fr.trans C) (f.step g4 λa b=>b.trans a) (ac7 _)
def cZ.other{s:Nat}{st:bM}{W:List ae}(h:cZ m p q s st qv rv W){cs:lA}(a:W[i]?=some (.box cs tg))(d:i≠p)(c:i≠q)(b:i≠s)(o:ae):cZ m p q s st qv rv (W.set i o):=
 ⟨h.co.set a d c o,h.ps,(abN b).trans h.box,h.aW⟩
def zr(P:cQ)(c:cz)(pl:lN):cQ:=if c.op=4 then sH P pl c.v pl.length else P
def zs(P:cQ)(c:cz)(pl:lN)(v:Nat):Nat:=if c.op=3 then pA P pl v pl.length else v
def au5{s N:Nat}{H:List ae}{j G:AV}{F st:bM}{nx:bF}{bv pv:AV}{back:List aF}{pl:lN}{e:Env}{W:List ae}(E:cZ m p q s F j G H)(Q:H.length=N)
  (h:CmS m p q s N M H j rv st c nx r bv e W lo) (Y:e 4=pv) (z:Rv pv 1 (pl.map gE)) (A:pl.length<=8/\ ∀k∈pl,k<65536) (I:c.op=3->r.v<18446744073709551616) (L:Rv bv 2 (back.map aA)) (t:back.length<=4096/\ ∀r∈back,r.1<=64/\r.2<=64) (d:py st) (l:bm nx) (O:st.x.Q.length<4294967296) (b:oN):
  wp XC 144 false Tt ⟨e,[]⟩ ⟨W,lo⟩ (dE XC N b [.t 2] (dZ m p q s H b (mY {st with x:=back.foldl cO {st.x with S:=nx,P:=zr st.x.P c pl},c:={st.c with run:=(0,0)}} {r with v:=zs st.x.P c pl r.v}) j (.bool true))):=by
 have h':=h;obtain⟨e1,e3,e6,e7,e8,⟨qv,a,n⟩,w0,w1,w6,w7,fr,sN,NM⟩:=h;have Gf:=a.ps;have K5:=a.co.qp;have hmp:=a.co.mp;have Ve:=E.co.mp;have B: ∀k,k<pl.length->pl.getD k 0<65536:=λk D=>by simp_all
 rw[auY];by_cases X:c.op=4
 ·have w: (c.op:Int)=4:=by omega
  have u:W.set q (.box (cb (sH st.x.P pl c.v 0)) none)=W:=o9 a.co.eB;have g:=λlo=>ajc z A.1 (f:=.func 158) (cs:=[.ptr N 0,.ptr (N+1) 0]) (.ptr s 0) (λk=>W.set q (.box (cb (sH st.x.P pl c.v k)) none)) (λk=>by simp) (λk D=>by
   have R:=a.ar (a.co.Fk (sH st.x.P pl c.v k)) (a.co.fq _);rw[auU R (Tq d.x.P pl c.v k) ((abN (by omega)).trans w0) ((abN (by omega)).trans w1) _ k (B k D) (by omega)];show some (aT.ret _ ⟨_,_⟩)=_;rw[ajO,ai9]) lo
  simp only[u]at g;simp only[go_sem,simprocAttr,nH,jH,mr,sI,sJ,e1,e3,Y,w0,w1,fU,w,g];have U:zr st.x.P c pl=sH st.x.P pl c.v pl.length:=acE X;have C:zs st.x.P c pl r.v=r.v:=acz (by omega);rw[U,C];refine Tx (rv:=rv) (M:=M) (c:=c) (nx:=nx) (r:=r) (bv:=bv) (back:=back) (st:={st with x:={st.x with P:=sH st.x.P pl c.v pl.length}}) E Q ?_ L t ⟨⟨d.x.S,Tq d.x.P pl c.v _,d.x.M,d.x.Q,d.x.Ql⟩,d.c⟩ l O b;exact⟨e1,e3,e6,e7,e8,⟨qv,a.ar (a.co.Fk _) (a.co.fq _),n⟩,(abN (by omega)).trans w0,(abN (by omega)).trans w1,(abN (by omega)).trans w6,(abN (by omega)).trans w7,fr.trans (a.co.fq _).m3,sN,NM⟩
 ·have w: ¬(c.op:Int)=4:=by omega
  have U:zr st.x.P c pl=st.x.P:=acz X;rw[U];by_cases T:c.op=3
  ·have y: (c.op:Int)=3:=by omega
   have u:W.set (M+1) (.box (bD {r with v:=pA st.x.P pl r.v 0}) none)=W:=o9 w7;have g:=λlo=>ajc z A.1 (f:=.func 160) (cs:=[.ptr N 0,.ptr (M+1) 0]) (.ptr s 0) (λk=>W.set (M+1) (.box (bD {r with v:=pA st.x.P pl r.v k}) none)) (λk=>by simp) (λk D=>by
    have R:=a.other w7 (by omega) (by omega) (by omega) (.box (bD {r with v:=pA st.x.P pl r.v k}) none);rw[auV R d.x.P (r:={r with v:=pA st.x.P pl r.v k}) (Tr d.x.P pl r.v (I T) k (by omega)) ((abN (by omega)).trans w0) (cT w7) _ k (B k D) (by omega)];show some (aT.ret _ ⟨_,_⟩)=_;rw[ajO,aja]) lo
   simp only[u]at g;simp only[go_sem,simprocAttr,nH,jH,mr,sI,sJ,e1,e3,Y,e7,w0,w1,fU,y,g];have C:zs st.x.P c pl r.v=pA st.x.P pl r.v pl.length:=acE T;rw[C];have K:Fq m [p,q,s] H (W.set (M+1) (.box (bD {r with v:=pA st.x.P pl r.v pl.length}) none)):=⟨by rw[aen];exact fr.len,λi J Z=>by rw[abN (by omega)];exact fr.low i J Z,λi o J ho V=>by
    have:=dM V;rw[abN (by omega)];exact fr.box i o J ho V⟩
   refine Tx (rv:=rv) (M:=M) (c:=c) (nx:=nx) (bv:=bv) (back:=back) (r:={r with v:=pA st.x.P pl r.v pl.length}) E Q ?_ L t d l O b;exact⟨e1,e3,e6,e7,e8,⟨qv,a.other w7 (by omega) (by omega) (by omega) _,n⟩,(abN (by omega)).trans w0,(abN (by omega)).trans w1,(abN (by omega)).trans w6,cT w7,K,sN,NM⟩
  ·have y: ¬(c.op:Int)=3:=by omega
   have C:zs st.x.P c pl r.v=r.v:=acz T;rw[C];simp only[go_sem,simprocAttr,nH,jH,mr,sI,sJ,e3,w1,fU,w,y];refine Tx (rv:=rv) (M:=M) (c:=c) (nx:=nx) (bv:=bv) (back:=back) (r:=r) E Q ?_ L t d l O b;exact⟨e1,e3,e6,e7,e8,⟨qv,a,n⟩,w0,w1,w6,w7,fr,sN,NM⟩
structure qZ(d:bF×bB×List aF)(c:cz):Prop where
 S:bm d.1
 len:d.2.2.length<=4096
 runs: ∀r∈d.2.2,r.1<=64/\r.2<=64
 v:c.op=3->d.2.1.v<18446744073709551616
 w:d.2.1.w<4294967296
 e:d.2.1.e<4294967296
def K6(st:bM):bM:=
 let d:=db st.x.S st.c.aa st.c.c st.c.run
 if d.2.1.e≠0 then mY st d.2.1
 else mY {st with x:=d.2.2.foldl cO {st.x with S:=d.1,P:=zr st.x.P st.c.c (gz st.x.S st.c.c).1},c:={st.c with run:=(0,0)}} {d.2.1 with v:=zs st.x.P st.c.c (gz st.x.S st.c.c).1 d.2.1.v}
theorem ajh(s:bM):uI s=K6 (eG s):=by rfl
def Tz{s N:Nat}{H:List ae}{h z:AV}{y st:bM}{e:Env}{W:List ae}(Y: ∀op,ke op)(F:cZ m p q s y h z H)(E:H.length=N)
  (I:e 1= .ptr N 0) (G:e 3= .ptr (N+1) 0) (f:cZ m p q s st qv rv W) (k:fx (qv=h) p lo) (x:W[N]?=some (.box [.ptr s 0] none)) (t:W[N+1]?=some (.box (bg st.c.c) none)) (J:Fq m [p,q,s] H W)
  (g:py st) (v:qZ (db st.x.S st.c.aa st.c.c st.c.run) st.c.c) (X:st.x.Q.length<4294967296) (i:oN):
  wp XC 144 false Ts ⟨e,[]⟩ ⟨W,lo⟩ (dE XC N i [.t 2] (dZ m p q s H i (K6 st) h (.bool true))):=by
 have T:=f.ps;have S:=f.co.qp;have U:=f.co.mp;have sN:s<N:=by rw[<-E];exact F.lt
 have R:=g.c.run;obtain⟨pv,u,P⟩:=atT st.x.S g.x.S st.c.c g.c.ie W lo;have u:=cB u;obtain⟨bv,d1,d2⟩:=S9 st.x.S g.x.S st.c.aa g.c.aa st.c.c g.c.ie st.c.run ⟨by omega,by omega⟩ (Y _) (W++[.box mC none,.box [.int .i64 0,.int .u64 0,.int .u32 0] none]) lo;have d1:=cB d1;have C:=ai6 g.x.S st.c.c;unfold K6;dsimp only;generalize V:db st.x.S st.c.aa st.c.c st.c.run=d at*;obtain⟨M,w⟩: ∃M,W.length=M:=⟨_,rfl⟩;have D:N+2<=M:=by have:=dM t;omega
 have B:=λL=>bf (L:=L) x
 have o:=λL=>bf (L:=L) f.box
 have A:=λL=>bf (L:=L) t
 have n:=λL=>bf (L:=L) f.co.box
 have l: (bD d.2.1)[0]?=some (.int .i64 d.2.1.e):=rfl;rw[auX];by_cases he:d.2.1.e=0
 ·have j: ((d.2.1.e:Nat):Int)=0:=by omega
  rw[acz (λq=>q he)];simp only[go_sem,simprocAttr,nH,jH,mr,sI,sJ,I,G,x,t,w,f.box,f.co.box,B,A,o,n,PL,↓PL,KL,↓KL,DZ,u,d1,l,j,nM,qX];refine au5 (rv:=rv) (M:=M) (c:=st.c.c) (nx:=d.1) (r:=d.2.1) (bv:=bv) (pv:=pv) (pl:=(gz st.x.S st.c.c).1) (back:=d.2.2) F E ?_ rfl P C v.v d2 ⟨v.len,v.runs⟩ g v.S X i;exact⟨I,G,rfl,rfl,rfl,⟨qv,f.app _,k⟩,B _,A _,by rw[di w];rfl,by rw[bE w];rfl,J.trans (Fq.app _ (by omega)),sN,D⟩
 ·have j: ¬((d.2.1.e:Nat):Int)=0:=by omega
  rw[acE he];obtain⟨cr,g1,O,K,W2,Q,rfl,g2,g3,Z⟩:=Tp (f.app [.box (bz d.1) none,.box (bD d.2.1) none]) g d.2.1 lo;simp only[go_sem,simprocAttr,nH,jH,mr,sI,sJ,I,G,x,t,w,f.box,f.co.box,B,A,o,n,PL,↓PL,KL,↓KL,DZ,u,d1,l,j,nM,qX,g1];exact dZ.ajd F E g2 (J.trans (g3.pre (by omega))) (k.step Z λa b=>b.trans a) (ac7 _)
theorem TA:aI (bg c)=0:=rfl
def au6{s:Nat}{H:List ae}{st:bM}(t: ∀op,ke op)(a:cZ m p q s st qv rv H)(b:py st)(h:qZ (db (eG st).x.S (eG st).c.aa (eG st).c.c (eG st).c.run) st.c.c)(V:st.x.Q.length<2147483648)(lo:oN):
  ∃C,D XC (.fn (.func 144) [] []) [.ptr s 0] ⟨H,lo⟩=some C/\dZ m p q s H lo (uI st) qv (.bool true) C:=by
 have ho:Old s H (.box (dJ st p rv) none):=⟨a.box⟩;refine cH nH λN d=>?_
 have sN:s<N:=by rw[<-d];exact a.lt
 have R:=a.ps;have P:=a.co.qp;have S:=a.co.mp;rw[ajh,auW];have O:=b.c.run;have G:=λH lo=>cB (Ta st.x.S b.x.S st.c.aa b.c.aa st.c.c b.c.ie (t _) H lo)
 have F: (H++[.box [.ptr s 0] none,.box (bg st.c.c) none])[N]?=some (.box [.ptr s 0] none):=by rw[di d];rfl
 have E: (H++[.box [.ptr s 0] none,.box (bg st.c.c) none])[N+1]?=some (.box (bg st.c.c) none):=by rw[bE d];rfl
 have f:=λL=>bf (L:=L) a.box
 have n:=λL=>bf (L:=L) a.co.box
 by_cases J:0<st.c.run.2
 ·have e: ((st.c.run.2:Nat):Int)>0:=by omega
  by_cases I:eU st.x.S st.c.aa st.c.c=st.c.run.2
  ·have g:decide (((eU st.x.S st.c.aa st.c.c:Nat):Int)=st.c.run.2)=true:=ac5 (by omega);have o:eG st=st:=acz (λq=>q.2 I);rw[o]at h⊢;simp only[go_sem,simprocAttr,nH,jH,mr,sI,sJ,d,f,n,PL,↓PL,KL,↓KL,Fb,KW,TA,Fg,e,G,g];exact Tz t a d rfl rfl (a.app _) (fx.no rfl) F E (Fq.app _ (by omega)) b h (by omega) lo
  ·have g:decide (((eU st.x.S st.c.aa st.c.c:Nat):Int)=st.c.run.2)=false:=acK (by omega);have o:eG st={st with x:=cO st.x st.c.run,c:={st.c with run:=(0,0)}}:=acE ⟨J,I⟩;rw[o]at h⊢;obtain⟨C,g1,K,W,M,rfl,g2,u,U⟩:=Tl (a.co.app [.box [.ptr s 0] none,.box (bg st.c.c) none]) st.c.run ⟨by omega,by omega⟩ (by omega) none;have v:=(a.app [.box [.ptr s 0] none,.box (bg st.c.c) none]).ar g2 u;have B:N∉[p,q]:=by simp;omega
   have A:N+1∉[p,q]:=by simp;omega
   have v0:=u.own B F;have v1:=u.own A E;have j: [AV.int .i64 0,.int .i64 0]=aA (0,0):=rfl;have y: ∀r:aF,(aA r).length=2:=λ_=>rfl
   have w: ∀r:aF,aI (aA r)=0:=λ_=>rfl
   simp only[go_sem,simprocAttr,nH,jH,mr,sI,sJ,d,f,n,PL,↓PL,KL,↓KL,Fb,KW,TA,Fg,e,G,g,g1,v0,v.box,j,y,w,PS];have Q: (cO st.x st.c.run).Q.length=st.x.Q.length+st.c.run.2:=by simp[cO,iO]
   have z:py {st with x:=cO st.x st.c.run,c:={st.c with run:=(0,0)}}:=⟨⟨b.x.S,b.x.P,b.x.M,λk l=>by
    rcases ac8.1 l with l|l
    ·exact b.x.Q k l
    ·obtain⟨i,T,rfl⟩:=ael.1 l;have:=ame.1 T;show st.c.run.1+i<_;omega,by show(cO st.x st.c.run).Q.length<_;omega⟩,⟨b.c.aa,b.c.ie,b.c.aW,⟨by show 0<65536;omega,by show 0<65536;omega⟩,b.c.eW⟩⟩
   refine Tz (st:={st with x:=cO st.x st.c.run,c:={st.c with run:=(0,0)}}) t a d ?_ ?_ (v.set rfl a.aW) U.n ?_ ?_ ?_ z h (by show(cO st.x st.c.run).Q.length<_;omega) lo
   ·exact rfl
   ·exact rfl
   ·exact(abN (by omega)).trans v0
   ·exact(abN (by omega)).trans v1
   ·exact((Fq.app _ (by omega)).trans u.m3).trans (v.fs _)
 ·have e: ¬((st.c.run.2:Nat):Int)>0:=by omega
  have o:eG st=st:=acz (λq=>J q.1);rw[o]at h⊢;simp only[go_sem,simprocAttr,nH,jH,mr,sI,sJ,d,f,PL,↓PL,Fb,TA,Fg,e];exact Tz t a d rfl rfl (a.app _) (fx.no rfl) F E (Fq.app _ (by omega)) b h (by omega) lo
def ed:Nat->bM->bM×Bool
 |0=>j9|1=>mf|2=>mg|3=>mh|_=>λs=>(uI s,true)
def aji:Nat->FuncId
 |0=>140|1=>141|2=>142|3=>143|_=>144
def ajj{s:bM}(h: (j9 s).2=false): (j9 s).1=s:=by
 unfold j9 at*;grind
def ajk{s:bM}(h: (mf s).2=false): (mf s).1=s:=by
 unfold mf at*;grind
def ajl{s:bM}(h: (mg s).2=false): (mg s).1=s:=by
 unfold mg at*;grind
def ajm{s:bM}(h: (mh s).2=false): (mh s).1=s:=by
 unfold mh at*;grind
def au7{s:bM}(h: (ed k s).2=false): (ed k s).1=s:=by
 rcases(show k=0\/k=1\/k=2\/k=3\/4<=k by omega)with q|q|q|q|q
 ·subst q;exact ajj h
 ·subst q;exact ajk h
 ·subst q;exact ajl h
 ·subst q;exact ajm h
 ·obtain⟨j,rfl⟩: ∃j,k=j+4:=⟨k-4,by omega⟩;cases h
def mv(s:bM)(k:Nat):bM:=if(ed k s).2 then(ed k s).1 else match k with
 |0=>if(ed 1 s).2 then(ed 1 s).1 else if(ed 2 s).2 then(ed 2 s).1 else if(ed 3 s).2 then(ed 3 s).1 else(ed 4 s).1
 |1=>if(ed 2 s).2 then(ed 2 s).1 else if(ed 3 s).2 then(ed 3 s).1 else(ed 4 s).1
 |2=>if(ed 3 s).2 then(ed 3 s).1 else(ed 4 s).1
 |_=>(ed 4 s).1
def BT{s:bM}(h: (ed k s).2=true):mv s k=(ed k s).1:=by unfold mv;grind
def Fo{s:bM}(b:k<4)(h: (ed k s).2=false):mv s k=mv s (k+1):=by
 have a: ¬(ed k s).2=true:=by grind
 rcases(show k=0\/k=1\/k=2\/k=3 by omega)with q|q|q|q<;>subst q
 ·exact(acz a: (if(ed 0 s).2=true then(ed 0 s).1 else mv s 1)=mv s 1)
 ·exact(acz a: (if(ed 1 s).2=true then(ed 1 s).1 else mv s 2)=mv s 2)
 ·exact(acz a: (if(ed 2 s).2=true then(ed 2 s).1 else mv s 3)=mv s 3)
 ·exact(acz a: (if(ed 3 s).2=true then(ed 3 s).1 else mv s 4)=mv s 4)
def au8(x:Core)(c:Call):fT x c=mv ⟨x,c,bO,false⟩ 0:=by
 unfold fT;dsimp only;generalize(⟨x,c,bO,false⟩:bM)=s;cases e: (j9 s).2 with
 |true=>rw[acE rfl,BT (k:=0) e];rfl
 |false=>
  rw[acz (by simp),ajj e,Fo (k:=0) (by omega) e];cases d: (mf s).2 with
  |true=>rw[acE rfl,BT (k:=1) d];rfl
  |false=>
   rw[acz (by simp),ajk d,Fo (k:=1) (by omega) d];cases b: (mg s).2 with
   |true=>rw[acE rfl,BT (k:=2) b];rfl
   |false=>
    rw[acz (by simp),ajl b,Fo (k:=2) (by omega) b];cases a: (mh s).2 with
    |true=>rw[acE rfl,BT (k:=3) a];rfl
    |false=>rw[acz (by simp),ajm a,Fo (k:=3) (by omega) a,BT (k:=4) rfl];rfl
def au9{s:Nat}{H:List ae}{st:bM}(c: ∀op,ke op)(b:cZ m p q s st qv rv H)(a:py st)(e:qZ (db (eG st).x.S (eG st).c.aa (eG st).c.c (eG st).c.run) st.c.c)(f:st.x.Q.length<2147483648)(k:Nat)(lo:oN):
  ∃d,D XC (.fn (.func (aji k)) [] []) [.ptr s 0] ⟨H,lo⟩=some d/\dZ m p q s H lo (ed k st).1 qv (.bool (ed k st).2) d:=by
 rcases(show k=0\/k=1\/k=2\/k=3\/4<=k by omega)with h|h|h|h|h
 ·subst h;exact auO c b a lo
 ·subst h;exact auP b a lo
 ·subst h;exact auQ c b a lo
 ·subst h;exact auR b a lo
 ·obtain⟨j,rfl⟩: ∃j,k=j+4:=⟨k-4,by omega⟩;exact au6 c b a e f lo
def ajn{X:Ctx}{f:FuncId}{fs args:lA}{E:AS}{r:aT}(h:D X (.fn (.func f) [] []) (fs++args) E=some r):D X (.fn (.func f) fs []) args E=some r:=by
 obtain⟨n,a⟩:=xL h;cases n with
 |zero=>cases a
 |succ n=>exact MK (n:=n+1) _ _ _ _ a
def K7(m p q:Nat)(H:List ae)(lo:oN)(st:bM)(qv:AV)(b:aT):Prop:=
 ∃a qY H' aj,b= .ret (.av [.agg (br st.c qY),.agg (bD st.r),.bool st.ended]) ⟨H',aj⟩/\dx m p q st.x a H'/\Rv qY 1 (st.c.aW.map hC)/\Fq m [p,q] H H'/\fV (a=qv) p H H' lo aj
def u9:lA:=[.int .i64 0,.int .u8 0,.int .u32 0,.int .u32 0,.int .u32 0,.int .u32 0,.int .u64 0,.bool false,.an,.int .i64 0,.int .i64 0,.int .i64 0]
def nc:lA:=[.int .i64 0,.int .u64 0,.int .u32 0]
def Fq.cut{S T:lN}{H B W:List ae}(h:Fq m S (H++B) W)(d: ∀i∈S,i∈T\/H.length<=i)(e:m<=H.length):Fq m T H W:=⟨by have:=h.len;grind,λi a b=>by rw[h.low i a λq=>(d i q).elim b (by omega),abP (by omega)],λi o a ho c=>by
 exact h.box i o (λq=>by grind) ho (bf c)⟩
def Fq.out{T:lN}{H W:List ae}(h:Fq m T H W)(f:H.length<=i)(d:m<=H.length)(o:ae):Fq m T H (W.set i o):=⟨by rw[aen];exact h.len,λj a c=>by rw[abN (by omega)];exact h.low j a c,λj o a ho b=>by
 have e:=dM b;rw[abN (by omega)];exact h.box j o a ho b⟩
def K7.fin{N:Nat}{H W:List ae}{i:Core}{st:bM}(e:dx m p q i a H)(g:H.length=N)(h:dx m p q st.x qv W)(c:Rv rv 1 (st.c.aW.map hC))(d:Fq m [p,q] H W)(l:fx (qv=a) p b):
  K7 m p q H lo st a (.ret (finish N lo (.av [.agg (br st.c rv),.agg (bD st.r),.bool st.ended]) ⟨W,b⟩).1 (finish N lo (.av [.agg (br st.c rv),.agg (bD st.r),.bool st.ended]) ⟨W,b⟩).2):=by
 have s:=e.lt;have r:=e.mp;have k: (AV.av [.agg (br st.c rv),.agg (bD st.r),.bool st.ended]).refs<=N:=by
  have:=To st.c (cq c (bp (λ_=>rfl) _));have o:= @qX st.r;simp[AV.refs,aI,this,o]
 rcases l with⟨rfl,f⟩| ⟨j,n,rfl⟩
 ·rw[iQ (.inl rfl) k];refine⟨qv,rv,_,lo,rfl,h.nZ (Q:=qv=a) (.inr ⟨rfl,f⟩) id e g,c,d.take g (by omega),.inl ⟨rfl,?_,f⟩⟩;rw[aeD];have:=d.len;omega
 ·rw[uW (by omega)];exact⟨qv,rv,W,cK lo j,rfl,h,c,d,.inr ⟨j,n,rfl⟩⟩
def ava{H:List ae}{c:Call}(hD: ∀op,ke op)(J:dx m p q x qv H)(hx:jG x)(hc:fI c)(Z:Rv rv 1 (c.aW.map hC))
  (F:qZ (db (eG ⟨x,c,bO,false⟩).x.S (eG ⟨x,c,bO,false⟩).c.aa (eG ⟨x,c,bO,false⟩).c.c (eG ⟨x,c,bO,false⟩).c.run) c.c) (hQ:x.Q.length<2147483648) (lo:oN):
  ∃Y,D XC (.fn (.func 123) [] []) [.ptr p 0,.agg (br c rv)] ⟨H,lo⟩=some Y/\K7 m p q H lo (fT x c) qv Y:=by
 refine cH Pc λN l=>?_
 have nY:p<N:=by rw[<-l];exact J.lt
 have K5:=J.qp;have hmp:=J.mp;obtain⟨st,d⟩: ∃st:bM,st=⟨x,c,bO,false⟩:=⟨_,rfl⟩;have G: ∀ (c:Call) rv,List.take 12 (br c rv)=br c rv:=λ_ _=>rfl
 have v: ∀rv,AV.ptr p 0:: (br c rv++[.int .i64 0,.int .u64 0,.int .u32 0,.bool false])=dJ st p rv:=λrv=>by rw[d];rfl
 have hrz:=cq Z (bp (λ_=>rfl) _);obtain⟨B,hB⟩: ∃B:List ae,B=[.box (br c rv) none,.box u9 none,.box nc none,.box (dJ st p rv) none]:=⟨_,rfl⟩;have hB4: (H++B).length=N+4:=by rw[hB];simp[l]
 have w:cZ m p q (N+3) st qv rv (H++B):=by
  rw[d];exact⟨J.app B,by omega,by rw[hB,bE l,d];rfl,Z⟩
 have U:py st:=by rw[d];exact⟨hx,hc⟩
 rw[au8,<-d];rw[<-d]at F;have F:qZ (db (eG st).x.S (eG st).c.aa (eG st).c.c (eG st).c.run) st.c.c:=by rw[d]at F⊢;exact F
 have I: ∀ (c:Call) rv,(br c rv).length=12:=λ_ _=>rfl
 have afK:min 12 12=12:=rfl;have C: ∀k,k<5->pM false 5 1 (.agg [.fn (.func 140) [.ptr (N+3) 0] [],.fn (.func 141) [.ptr (N+3) 0] [],.fn (.func 142) [.ptr (N+3) 0] [],.fn (.func 143) [.ptr (N+3) 0] [],.fn (.func 144) [.ptr (N+3) 0] []]) (.int .i64 (k:Nat))=some (.fn (.func (aji k)) [.ptr (N+3) 0] []):=by
  intro k hk;rcases(show k=0\/k=1\/k=2\/k=3\/k=4 by omega)with h|h|h|h|h<;>subst h<;>rfl
 generalize X:AV.agg [.fn (.func 140) [.ptr (N+3) 0] [],.fn (.func 141) [.ptr (N+3) 0] [],.fn (.func 142) [.ptr (N+3) 0] [],.fn (.func 143) [.ptr (N+3) 0] [],.fn (.func 144) [.ptr (N+3) 0] []]=FS at C;simp only[go_sem,simprocAttr,Pc,l,I,G,v,X];refine iJ 5 (λk e W j=> ∃g s,e 4= .ptr (N+1) 0/\e 5= .ptr (N+2) 0/\e 7= .ptr (N+3) 0/\e 24=FS/\e 25= .int .i64 k/\k<=4/\cZ m p q (N+3) st g s W/\fx (g=qv) p j/\Fq m [p,q,N+3] (H++B) W/\mv st 0=mv st k) 0 (by omega) ?_ ?_
 ·refine⟨qv,rv,?_⟩;simp only[go_sem,simprocAttr];rw[hB]at w⊢;exact⟨w,fx.no trivial,Fq.refl⟩
 rintro k hk e W j ⟨g,s,e4,e5,e7,L,K,hk4,hs,y,hf,A⟩ n hn;have E:=C k (by omega);obtain⟨Y,g1,Q,P,M,Ko,rfl,g2,g3,g4⟩:=au9 hD hs U F (by rw[d];exact hQ) k j;have g1:=ajn (fs:=[.ptr (N+3) 0]) (args:=[]) g1;simp only[cg,go_sem,simprocAttr,adz,e7,L,K];refine⟨λ_=>?_,λhh=>absurd (show((k:Nat):Int)<5 by omega) hh⟩;have f:=hf.trans g3;cases r: (ed k st).2 with
 |true=>
  rw[r]at g1;have v1:M[N+1]?=some (.box u9 none):=f.own (by simp;omega) (by rw[hB,bE l];rfl);have v2:M[N+2]?=some (.box nc none):=f.own (by simp;omega) (by rw[hB,bE l];rfl);have O: ∀o,(M.set (N+1) o)[N+2]?=some (.box nc none):=λo=>(abN (by omega)).trans v2
  have s1:=λo=>cT (o:=o) v1
  have s2:=λo o'=>cT (o:=o') (O o)
  have s3: ∀o o':ae,((M.set (N+1) o).set (N+2) o')[N+1]?=some o:=λo o'=>(abN (by omega)).trans (s1 o)
  have S:u9.length=12:=rfl;have R:nc.length=3:=rfl;have u:List.drop 12 u9=[]:=rfl;have t:List.drop 3 nc=[]:=rfl;have V:=To (ed k st).1.c g2.rz;simp only[go_sem,simprocAttr,E,e4,e5,e7,g1,g2.box,v1,O,s2,s3,PL,↓PL,S,R,u,t,I,G,wX,sF,qX,V,zi];refine⟨by simp,by simp,?_⟩;rw[A,BT r];have hq3:q<N:=by omega
  refine K7.fin J l ((g2.co.set v1 (by omega) (by omega) _).set (O _) (by omega) (by omega) _) g2.aW ?_ (y.step g4 λa b=>b.trans a);exact((f.cut (T:=[p,q]) (by intro i hi;simp at hi⊢;omega) (by omega)).out (by omega) (by omega) _).out (by omega) (by omega) _
 |false=>
  rw[r]at g1;have he:=au7 r;rw[he]at g2;have z:k<4:=by
   rcases(show k<4\/k=4 by omega)with q|q
   ·exact q
   ·subst q;cases r
  simp(disch:=omega) only[go_sem,simprocAttr,E,e4,e5,e7,L,K,g1];exact⟨by omega,Q,P,by omega,g2,y.step g4 (λa b=>b.trans a),f,by rw[A,Fo z r]⟩
def cN(x:dH):lA:=[.int .u8 x.op,.int .u8 x.a,.int .u8 x.b,.int .u8 x.c,.int .u16 x.n]
def bX(t:Task)(cv:AV):lA:=[cv,.int .i64 t.next]++arr 8 λi=>[.int .u64 (t.aW i)]
structure Fp(x:dH):Prop where
 op:x.op<39
 a:x.a<8
 b:x.b<8
 c:x.c<8
 n:x.n<65536
 j:x.op=5\/x.op=6->x.n<=64
structure kY(t:Task):Prop where
 len:t.code.length<=64
 ins: ∀x∈t.code,Fp x
 next:t.next<=64
 aW: ∀i,t.aW i<18446744073709551616
section
variable{t:Task}{cv:AV}
theorem q0: (bX t cv).length=10:=rfl
def Fs(h:cv.refs=0):aI (bX t cv)=0:=by
 unfold bX;rw[ED,Bc (λ_=>rfl)];simp[aI,AV.refs,h]
theorem TB: (bX t cv)[0]?=some cv:=rfl
theorem K8: (bX t cv)[1]?=some (.int .i64 t.next):=rfl
theorem ajo: (bX t cv)[7]?=some (.int .u64 (t.aW 5)):=rfl
theorem ajp: (bX t cv)[8]?=some (.int .u64 (t.aW 6)):=rfl
theorem TC:List.take 10 (bX t cv)=bX t cv:=rfl
def TD(h:i<8): (bX t cv)[2+i]?=some (.int .u64 (t.aW i)):=by
 rcases(show i=0\/i=1\/i=2\/i=3\/i=4\/i=5\/i=6\/i=7 by omega)with q|q|q|q|q|q|q|q<;>subst q<;>rfl
theorem ajq{n:Nat}:aM (bX t cv) 1 [.int .i64 n]=bX {t with next:=n} cv:=rfl
def Ft{v:Nat}(h:i<8):aM (bX t cv) (2+i) [.int .u64 v]=bX {t with aW:=aq t.aW i v} cv:=by
 rcases(show i=0\/i=1\/i=2\/i=3\/i=4\/i=5\/i=6\/i=7 by omega)with q|q|q|q|q|q|q|q<;>subst q<;>rfl
def TK:=gG @TB<|gG @K8<|gG @ajo<|gG @ajp<|gG @TC<|gG @ajq @q0
end
theorem ajr(x:dH): (cN x).length=5:=rfl
theorem ajs(x:dH):aI (cN x)=0:=rfl
theorem ajt(x:dH): (cN x)[0]?=some (.int .u8 x.op):=rfl
theorem aju(x:dH): (cN x)[1]?=some (.int .u8 x.a):=rfl
theorem ajv(x:dH): (cN x)[2]?=some (.int .u8 x.b):=rfl
theorem ajw(x:dH): (cN x)[3]?=some (.int .u8 x.c):=rfl
theorem ajx(x:dH): (cN x)[4]?=some (.int .u16 x.n):=rfl
theorem ajy(x:dH):List.take 5 (cN x)=cN x:=rfl
theorem ajz(x:dH):List.drop 5 (cN x)=[]:=rfl
def IL:type_of% @ajr/\type_of% @ajs/\type_of% @ajt/\type_of% @aju/\type_of% @ajv/\type_of% @ajw/\type_of% @ajx/\type_of% @ajy/\type_of% @ajz:=⟨ajr,ajs,ajt,aju,ajv,ajw,ajx,ajy,ajz⟩
def BU:dH:=⟨0,0,0,0,0⟩
def Fu(t:Task):AV:=.av [.agg (cN ((qO t).getD BU)),.bool (qO t).isSome]
section
variable{t:Task}{cv:AV}(hv:Rv cv 5 (t.code.map cN))(jl:kY t)(H:List ae)(lo:oN)
include hv jl
theorem TE:D X0 (.fn (.func 121) [] []) [.agg (bX t cv)] ⟨H,lo⟩=some (.ret (Fu t) ⟨H,lo⟩):=by
 refine aH Jd λN d=>?_
 have h:=jl.next;have i:=jl.len;have f: ¬((t.next:Nat):Int)<0:=by omega
 have a:=λE=>hv.bK (E:=E)
 have c: [AV.int .u8 0,.int .u8 0,.int .u8 0,.int .u8 0,.int .u16 0]=cN BU:=rfl;unfold Fu qO;by_cases j:t.next<t.code.length
 ·have b: ¬((t.next:Nat):Int)>=t.code.length:=by omega
  have e:t.code[t.next]?=some (t.code.getD t.next default):=by grind
  rw[e];have g: (0:Int)<=t.next/\ (t.next:Int)<t.code.length:=by omega
  simp(disch:=omega) only[F1,go_sem,simprocAttr,Jd,d,TK,f,a,b,hv.cG,hv.cS,g,IL,oB]
 ·have b: ((t.next:Nat):Int)>=t.code.length:=by omega
  have e:t.code[t.next]?=none:=ajP (by omega);rw[e];simp only[F1,go_sem,simprocAttr,Jd,d,TK,f,a,b,c,IL,oB]
omit hv jl in
theorem zt(i:Nat)(a:i<8):D X0 (.fn (.func 122) [] []) [.agg (bX t cv),.int .u8 i] ⟨H,lo⟩=some (.ret (.int .u64 (t.aW i)) ⟨H,lo⟩):=by
 refine aH Pb λN c=>?_
 have hm: ((i:Nat):Int).tmod 8=i:=by rw[Int.tmod_eq_emod_of_nonneg (by omega)];omega
 have b: (0:Int)<=i/\ (i:Int)<8:=by omega
 simp(disch:=omega) only[F1,go_sem,simprocAttr,Pb,c,hm,b,TD a]
omit hv in
theorem Fv{x:dH}(a:qO t=some x):Fp x:=by
 unfold qO at a;exact jl.ins x (ajY a)
theorem TF:D X0 (.fn (.func 94) [] []) [.agg (bX t cv)] ⟨H,lo⟩=some (.ret (.av [.agg (bg (iA t).1),.bool (iA t).2]) ⟨H,lo⟩):=by
 refine aH AY λN f=>?_
 have b:=λH lo=>TE hv jl H lo
 have m: [AV.int .u8 0,.int .u32 0,.int .u32 0,.int .u32 0,.int .u32 0,.int .u64 0]=bg mi:=rfl;have l: [AV.int .u8 20,.int .u32 0,.int .u32 0,.int .u32 0,.int .u32 0,.int .u64 0]=bg {mi with op:=20}:=rfl;have a: [AV.int .u8 0,.int .u8 0,.int .u8 0,.int .u8 0,.int .u16 0]=cN BU:=rfl;have v: ∀c,List.take 6 (bg c)=bg c:=λ_=>rfl
 have w: ∀c,List.drop 6 (bg c)=[]:=λ_=>rfl
 unfold Fu at b;unfold iA;cases h:qO t with
 |none=>
  rw[h]at b;simp only[avR,au4]at b;simp only[F1,go_sem,simprocAttr,AY,f,TK,b,IL,a,oB];rfl
 |some x=>
  rw[h]at b;simp only[ahL,au3]at b;have ho:=Fv jl h;have p:=ho.op;have s:=jl.aW;by_cases j:x.op=0
  ·have d: (x.op:Int)=0:=by omega
   simp only[acE j];simp only[F1,go_sem,simprocAttr,AY,f,TK,b,IL,a,d,oB];rfl
  ·have d:decide ((x.op:Int)=0)=false:=acK (by omega);by_cases k:x.op<=16
   ·have e: (x.op:Int)<=16:=by omega
    simp only[acz j,acE k];simp only[F1,go_sem,simprocAttr,AY,f,TK,b,IL,a,d,e,oB];rfl
   ·have e: ¬(x.op:Int)<=16:=by omega
    have r:x.b % 8=x.b:=amo ho.b;have q:x.c % 8=x.c:=amo ho.c;have o: (x.op:Int)-16=((x.op-16:Nat):Int):=by omega
    have g: ∀n:Nat,IntKind.wrap .u32 (n:Int)=((n % 4294967296:Nat):Int):=λn=>by
     unfold IntKind.wrap IntKind.bits IntKind.signed;simp
    have u:=ho.n;have i:x.n % 4294967296=x.n:=amo (by omega);have rb:=λH lo=>zt (t:=t) (cv:=cv) H lo x.b ho.b
    have rc:=λH lo=>zt (t:=t) (cv:=cv) H lo x.c ho.c
    simp only[acz j,acz k,r,q];simp(disch:=omega) only[F1,go_sem,simprocAttr,AY,f,TK,b,IL,a,d,e,oB,rb,rc,o,g,i];rfl
end
theorem wrap64(n:Nat):IntKind.wrap .u64 (n:Int)=((n % lv:Nat):Int):=by rfl
theorem ajA(n:Nat): ((n:Nat):Int).tmod 8=((n % 8:Nat):Int):=by rfl
section
variable{t:Task}{cv:AV}(hv:Rv cv 5 (t.code.map cN))(jl:kY t)
include hv jl
theorem avc(r:bB)(z:r.w<4294967296/\r.e<4294967296)(H:List ae)(lo:oN):
  D X0 (.fn (.func 145) [] []) [.agg (bX t cv),.agg (bD r)] ⟨H,lo⟩=some (.ret (.agg (bX (su t r) cv)) ⟨H,lo⟩):=by
 refine aH Ed λN i=>?_
 have b:=λH lo=>TE hv jl H lo
 have hw:=λH lo=>TF hv jl H lo
 have e: [AV.int .u8 0,.int .u8 0,.int .u8 0,.int .u8 0,.int .u16 0]=cN BU:=rfl;have d: [AV.int .u8 0,.int .u32 0,.int .u32 0,.int .u32 0,.int .u32 0,.int .u64 0]=bg mi:=rfl;have k: ∀c,(bg c).length=6:=λ_=>rfl
 have l: ∀c,List.drop 6 (bg c)=[]:=λ_=>rfl
 have j: ∀c,aI (bg c)=0:=λ_=>rfl
 have f:=λt:Task=>Fs (t:=t) (cq hv (bp (λ_=>rfl) _))
 have w:=jl.next;have u: (bD r)[0]?=some (.int .i64 r.e):=rfl;have s: (bD r)[1]?=some (.int .u64 r.v):=rfl;have q: (bD r)[2]?=some (.int .u32 r.w):=rfl;unfold Fu at b;unfold su;cases hx:qO t with
 |none=>
  rw[hx]at b;simp only[avR,au4]at b;simp only[F1,go_sem,simprocAttr,Ed,i,TK,b,hw,IL,e,d,k,l,j,f]
 |some x=>
  rw[hx]at b;simp only[ahL,au3]at b;have ho:=Fv jl hx;cases g: (iA t).2 with
  |false=>
   rw[g]at hw;simp only[F1,go_sem,simprocAttr,Ed,i,TK,b,hw,IL,e,d,k,l,j,f]
  |true=>
   rw[g]at hw;have h:x.a % 8<8:=by omega
   have y: (0:Int)<=(x.a % 8:Nat)/\ ((x.a % 8:Nat):Int)<8:=by omega
   have m:=λ (t:Task) (v:Nat)=>Ft (t:=t) (cv:=cv) (v:=v) h
   have p: ∀ (t:Task) (v:Nat),aM (bX t cv) 6 [.int .u64 v]=bX {t with aW:=aq t.aW 4 v} cv:=λ_ _=>rfl
   have o: ∀ (t:Task) (v:Nat),aM (bX t cv) 9 [.int .u64 v]=bX {t with aW:=aq t.aW 7 v} cv:=λ_ _=>rfl
   have s1: ∀ (t:Task) (n:Nat),aM (bX t cv) 1 [.int .i64 ((n:Int)+1)]=bX {t with next:=n+1} cv:=λ_ _=>rfl
   simp only[aeE];simp(disch:=omega) only[F1,go_sem,simprocAttr,Ed,i,TK,b,hw,IL,e,d,k,l,j,f,ajA,y,m,p,o,s1,u,s,q];omega
end
section
variable{t:Task}{cv:AV}{x:dH}{n u5 u7 u8 a:Nat}{H:List ae}(hv:Rv cv 5 (t.code.map cN))(jl:kY t)(hx:Fp x)(ha:a<8)(hn:H[n]?=some (.box (bX t cv) none))(h5:H[u5]?=some (.box (cN x) none))(h7:H[u7]?=some (.box [.ptr n (2+a)] none))(h8:H[u8]?=some (.box [.int .i64 ((t.next:Int)+1)] none))(lo:oN)
abbrev K9(t:Task)(a v:Nat):Task:={t with aW:=aq t.aW a v}
include ha hn h5 h7 hx in
theorem avd:D X0 (.fn (.func 126) [] [.ptr u5 0,.ptr u7 0]) [] ⟨H,lo⟩=some (.ret (.av []) ⟨H.set n (.box (bX (K9 t a x.n) cv) none),lo⟩):=by
 refine fe Pe λN c=>?_
 have b: ∀o,(H.set n o).take N=H.set n o:=λo=>ac4 (by simp[c])
 have e:=hx.n;have f:2+a<=9:=by omega
 have d:=λ (v:Nat)=>Ft (t:=t) (cv:=cv) (v:=v) ha
 simp(disch:=omega) only[F1,go_sem,simprocAttr,Pe,c,hn,h5,h7,IL,d,b,q0,f]
include ha hn h5 h7 hx in
theorem ave:D X0 (.fn (.func 127) [] [.ptr n 0,.ptr u5 0,.ptr u7 0]) [] ⟨H,lo⟩=some (.ret (.av []) ⟨H.set n (.box (bX (K9 t a ((t.aW x.b+t.aW x.c) % lv)) cv) none),lo⟩):=by
 refine fe Pf λN c=>?_
 have b: ∀o,(H.set n o).take N=H.set n o:=λo=>ac4 (by simp[c])
 have e:2+a<=9:=by omega
 have d:=λ (v:Nat)=>Ft (t:=t) (cv:=cv) (v:=v) ha
 have rb:=λH lo=>zt (t:=t) (cv:=cv) H lo x.b hx.b
 have rc:=λH lo=>zt (t:=t) (cv:=cv) H lo x.c hx.c
 have hw:IntKind.wrap .u64 ((t.aW x.b:Int)+t.aW x.c)=(((t.aW x.b+t.aW x.c) % lv:Nat):Int):=wrap64 (t.aW x.b+t.aW x.c);simp(disch:=omega) only[F1,go_sem,simprocAttr,Pf,c,hn,h5,h7,IL,TK,rb,rc,hw,d,b,e]
include jl ha hn h5 h7 hx in
theorem avf:D X0 (.fn (.func 128) [] [.ptr n 0,.ptr u5 0,.ptr u7 0]) [] ⟨H,lo⟩=some (.ret (.av []) ⟨H.set n (.box (bX (K9 t a ((t.aW x.b+lv-t.aW x.c) % lv)) cv) none),lo⟩):=by
 refine fe Pg λN c=>?_
 have b: ∀o,(H.set n o).take N=H.set n o:=λo=>ac4 (by simp[c])
 have e:2+a<=9:=by omega
 have d:=λ (v:Nat)=>Ft (t:=t) (cv:=cv) (v:=v) ha
 have rb:=λH lo=>zt (t:=t) (cv:=cv) H lo x.b hx.b
 have rc:=λH lo=>zt (t:=t) (cv:=cv) H lo x.c hx.c
 have g:=jl.aW x.b;have f:=jl.aW x.c;have hw:IntKind.wrap .u64 ((t.aW x.b:Int)-t.aW x.c)=(((t.aW x.b+lv-t.aW x.c) % lv:Nat):Int):=by
  unfold IntKind.wrap IntKind.bits IntKind.signed lv;simp;omega
 simp(disch:=omega) only[F1,go_sem,simprocAttr,Pg,c,hn,h5,h7,IL,TK,rb,rc,hw,d,b,e]
include ha hn h5 h7 hx in
theorem avg:D X0 (.fn (.func 129) [] [.ptr n 0,.ptr u5 0,.ptr u7 0]) [] ⟨H,lo⟩=some (.ret (.av []) ⟨H.set n (.box (bX (K9 t a (t.aW x.b*2^x.n % lv)) cv) none),lo⟩):=by
 refine fe Ph λN d=>?_
 have b: ∀o,(H.set n o).take N=H.set n o:=λo=>ac4 (by simp[d])
 have f:2+a<=9:=by omega
 have e:=λ (v:Nat)=>Ft (t:=t) (cv:=cv) (v:=v) ha
 have rb:=λH lo=>zt (t:=t) (cv:=cv) H lo x.b hx.b
 have c:kn .shl (.int .u64 (t.aW x.b)) (.int .u16 x.n)=some (.int .u64 ((t.aW x.b*2^x.n % lv:Nat))):=by
  rw[z9,acE (by omega)];have i: ∀k:Nat,((2:Int)^k)=((2^k:Nat):Int):=λk=>by rw[Int.natCast_pow];rfl
  rw[i,<-Int.natCast_mul,wrap64];have l:IntKind.u64.bits=64:=rfl;by_cases h:x.n<=64
  ·rw[show min ((x.n:Nat):Int).toNat IntKind.u64.bits=x.n by omega]
  ·rw[show min ((x.n:Nat):Int).toNat IntKind.u64.bits=64 by omega];have e1:t.aW x.b*2^64 % lv=0:=Nat.mul_mod_left _ _;have j:t.aW x.b*2^x.n % lv=0:=by
    obtain⟨k,g⟩:=Nat.exists_eq_add_of_le (show 64<=x.n by omega);rw[g,Nat.pow_add,<-Nat.mul_assoc,Nat.mul_right_comm];exact Nat.mul_mod_left _ _
   rw[e1,j]
 simp(disch:=omega) only[F1,go_sem,simprocAttr,Ph,d,hn,h5,h7,IL,TK,rb,c,e,b,f]
include h5 h8 hx in
theorem avh:D X0 (.fn (.func 130) [] [.ptr u5 0,.ptr u8 0]) [] ⟨H,lo⟩=some (.ret (.av []) ⟨H.set u8 (.box [.int .i64 x.n] none),lo⟩):=by
 refine fe Pj λN c=>?_
 have b: ∀o,(H.set u8 o).take N=H.set u8 o:=λo=>ac4 (by simp[c])
 have d:=hx.n;simp(disch:=omega) only[F1,go_sem,simprocAttr,Pj,c,h5,h8,IL,b]
include ha hn h5 h7 h8 hx in
theorem avi:D X0 (.fn (.func 131) [] [.ptr u7 0,.ptr u5 0,.ptr u8 0]) [] ⟨H,lo⟩=some (.ret (.av []) ⟨H.set u8 (.box [.int .i64 ((if t.aW a≠0 then x.n else t.next+1:Nat))] none),lo⟩):=by
 refine fe Je λN c=>?_
 have b: ∀o,(H.set u8 o).take N=H.set u8 o:=λo=>ac4 (by simp[c])
 have f:=hx.n;have g:2+a<=9:=by omega
 by_cases h:t.aW a=0
 ·have d: ((t.aW a:Nat):Int)=0:=by omega
  rw[acz (by omega)];have e:H.set u8 (.box [.int .i64 ((t.next+1:Nat):Int)] none)=H:=o9 h8;rw[e];simp(disch:=omega) only[F1,go_sem,simprocAttr,Je,c,hn,h5,h7,h8,IL,TD ha,d,b]
 ·have d: ¬((t.aW a:Nat):Int)=0:=by omega
  rw[acE (by omega)];simp(disch:=omega) only[F1,go_sem,simprocAttr,Je,c,hn,h5,h7,h8,IL,TD ha,d,b]
end
def TG(N:Nat):List (AV×AV):=[(.int .u8 1,.fn (.func 126) [] [.ptr (N+3) 0,.ptr (N+4) 0]),(.int .u8 2,.fn (.func 127) [] [.ptr N 0,.ptr (N+3) 0,.ptr (N+4) 0]),(.int .u8 3,.fn (.func 128) [] [.ptr N 0,.ptr (N+3) 0,.ptr (N+4) 0]),(.int .u8 4,.fn (.func 129) [] [.ptr N 0,.ptr (N+3) 0,.ptr (N+4) 0]),(.int .u8 5,.fn (.func 130) [] [.ptr (N+3) 0,.ptr (N+5) 0]),(.int .u8 6,.fn (.func 131) [] [.ptr (N+4) 0,.ptr (N+3) 0,.ptr (N+5) 0])]
def oc(N k:Nat):List (AV×AV):=(TG N).take k
theorem avj(N:Nat):ae.map []= .map (oc N 0):=rfl
def BV{N:Nat}{H:List ae}(a:H.length=N)(B:List ae)(b:B.length=6){key:Int}(d:v.refs<=N+7)(h:k6 (.int .u8 key) v (oc N k)=some (oc N (k+1)))(lo:oN):
  lJ ⟨H++(B++[.map (oc N k)]),lo⟩ .int (.mp (N+6)) (.int .u8 key) v=some ⟨H++(B++[.map (oc N (k+1))]),lo⟩:=by
 simp only[lJ,kf,aeE];have e: (H++(B++[ae.map (oc N k)]))[N+6]?=some (.map (oc N k)):=by grind
 simp only[e,h];have c: (H++(B++[ae.map (oc N k)])).set (N+6) (.map (oc N (k+1)))=H++(B++[.map (oc N (k+1))]):=by
  rw[aoi _ _ (by omega),aoi _ _ (by omega)];simp[a,b]
 simp only[AS.set,c]
 grind
def od(N a:Nat):Option AV:=match a with
 |1=>some (.fn (.func 126) [] [.ptr (N+3) 0,.ptr (N+4) 0])
 |2=>some (.fn (.func 127) [] [.ptr N 0,.ptr (N+3) 0,.ptr (N+4) 0])
 |3=>some (.fn (.func 128) [] [.ptr N 0,.ptr (N+3) 0,.ptr (N+4) 0])
 |4=>some (.fn (.func 129) [] [.ptr N 0,.ptr (N+3) 0,.ptr (N+4) 0])
 |5=>some (.fn (.func 130) [] [.ptr (N+3) 0,.ptr (N+5) 0])
 |6=>some (.fn (.func 131) [] [.ptr (N+4) 0,.ptr (N+3) 0,.ptr (N+5) 0])
 |_=>none
def avk(N a:Nat):dU (.int .u8 a) (oc N 6)=some (od N a):=by
 by_cases h:a<=6
 ·rcases(show a=0\/a=1\/a=2\/a=3\/a=4\/a=5\/a=6 by omega)with q|q|q|q|q|q|q<;>subst q<;>rfl
 ·have e:od N a=none:=by unfold od;grind
  rw[e];have b: ∀k:Int,k<=6->(((a:Nat):Int)==k)=false:=λk c=>by grind
  show dU (.int .u8 a) (TG N)=some none;unfold TG;simp only[dU,oo,aeE,b 1 (by omega),b 2 (by omega),b 3 (by omega),b 4 (by omega),b 5 (by omega),b 6 (by omega)]
def avl{t:Task}{cv:AV}(X:Rv cv 5 (t.code.map cN))(g:kY t)(H:List ae)(lo:oN):
  D X0 (.fn (.func 96) [] []) [.agg (bX t cv)] ⟨H,lo⟩=some (.ret (.agg (bX (qP t) cv)) ⟨H,lo⟩):=by
 refine aH I7 λN d=>?_
 have L:=λH lo=>TE X g H lo
 have hw:=λH lo=>TF X g H lo
 have U: [AV.int .u8 0,.int .u8 0,.int .u8 0,.int .u8 0,.int .u16 0]=cN BU:=rfl;have G: [AV.int .u8 0,.int .u32 0,.int .u32 0,.int .u32 0,.int .u32 0,.int .u64 0]=bg mi:=rfl;have cl: ∀c,(bg c).length=6:=λ_=>rfl
 have cd: ∀c,List.drop 6 (bg c)=[]:=λ_=>rfl
 have cr: ∀c,aI (bg c)=0:=λ_=>rfl
 have a:=λt:Task=>Fs (t:=t) (cq X (bp (λ_=>rfl) _))
 have hnx:=g.next;unfold qP;cases s: (iA t).2 with
 |true=>
  rw[s]at hw;rw[acE rfl];simp only[F1,go_sem,simprocAttr,I7,d,TK,hw,G,cl,cd,cr,a]
 |false=>
  rw[s]at hw;rw[acz (by simp)];cases V:qO t with
  |none=>
   have: (iA t).2=true:=by unfold iA;rw[V]
   rw[s]at this;cases this
  |some x=>
   unfold Fu at L;rw[V]at L;simp only[ahL,au3]at L;have ho:=Fv g V;have i:x.a % 8<8:=by omega
   have hb: (0:Int)<=(x.a % 8:Nat)/\ ((x.a % 8:Nat):Int)<8:=by omega
   obtain⟨B,hB⟩: ∃B:List ae,B=[.box (bX t cv) none,.box [.an,.int .i64 0,.int .u64 0,.int .u64 0,.int .u64 0,.int .u64 0,.int .u64 0,.int .u64 0,.int .u64 0,.int .u64 0] none,.box (bg (iA t).1) none,.box (cN x) none,.box [.ptr N (2+x.a % 8)] none,.box [.int .i64 ((t.next:Int)+1)] none]:=⟨_,rfl⟩;have hm:=avj N;have l4:N<=N+4:=by omega
   have S:=BV (k:=0) (key:=1) (v:=.fn (.func 126) [] [.ptr (N+3) 0,.ptr (N+4) 0]) d B (by rw[hB];rfl) (by simp[AV.refs,aI]) rfl;have R:=BV (k:=1) (key:=2) (v:=.fn (.func 127) [] [.ptr N 0,.ptr (N+3) 0,.ptr (N+4) 0]) d B (by rw[hB];rfl) (by simp[AV.refs,aI]) rfl;have Q:=BV (k:=2) (key:=3) (v:=.fn (.func 128) [] [.ptr N 0,.ptr (N+3) 0,.ptr (N+4) 0]) d B (by rw[hB];rfl) (by simp[AV.refs,aI]) rfl;have P:=BV (k:=3) (key:=4) (v:=.fn (.func 129) [] [.ptr N 0,.ptr (N+3) 0,.ptr (N+4) 0]) d B (by rw[hB];rfl) (by simp[AV.refs,aI]) rfl;have O:=BV (k:=4) (key:=5) (v:=.fn (.func 130) [] [.ptr (N+3) 0,.ptr (N+5) 0]) d B (by rw[hB];rfl) (by simp[AV.refs,aI]) rfl;have M:=BV (k:=5) (key:=6) (v:=.fn (.func 131) [] [.ptr (N+4) 0,.ptr (N+3) 0,.ptr (N+5) 0]) d B (by rw[hB];rfl) (by simp[AV.refs,aI]) rfl;rw[hB]at S R Q P O M;simp only[af3,afY]at S R Q P O M;simp(disch:=omega) only[go_sem,simprocAttr,I7,d,TK,hw,L,IL,U,G,cl,cd,cr,ajA,hb,hm,l4,S,R,Q,P,O,M];have Y: ∀E:AS,E.heap[N+6]?=some (.map (oc N 6))->iV X0.fG E .int .dg (.mp (N+6)) (.int .u8 x.op) true=some (match od N x.op with|some v=>.av [v,.bool true]|none=>.av [.dg,.bool false]):=by
    intro E h;simp only[iV,kf,aeE,mapOf,h,avk];cases od N x.op<;>rfl
   rw[Y _ (by rw[bE d];rfl)];obtain⟨W,u⟩: ∃W,W=H++[.box (bX t cv) none,.box [.an,.int .i64 0,.int .u64 0,.int .u64 0,.int .u64 0,.int .u64 0,.int .u64 0,.int .u64 0,.int .u64 0,.int .u64 0] none,.box (bg (iA t).1) none,.box (cN x) none,.box [.ptr N (2+x.a % 8)] none,.box [.int .i64 ((t.next:Int)+1)] none,.map (oc N 6)]:=⟨_,rfl⟩;have w0:W[N]?=some (.box (bX t cv) none):=by rw[u,di d];rfl
   have w1:W[N+1]?=some (.box [.an,.int .i64 0,.int .u64 0,.int .u64 0,.int .u64 0,.int .u64 0,.int .u64 0,.int .u64 0,.int .u64 0,.int .u64 0] none):=by rw[u,bE d];rfl
   have y:W[N+3]?=some (.box (cN x) none):=by rw[u,bE d];rfl
   have C:W[N+4]?=some (.box [.ptr N (2+x.a % 8)] none):=by rw[u,bE d];rfl
   have A:W[N+5]?=some (.box [.int .i64 ((t.next:Int)+1)] none):=by rw[u,bE d];rfl
   have wt:W.take N=H:=by rw[u,lh d]
   rw[<-u];have I:=λo=>cT (o:=o) w0
   have f: ∀o,(W.set N o)[N+1]?=_:=λo=>(abN (by omega)).trans w1
   have m: ∀o,(W.set N o)[N+5]?=_:=λo=>(abN (by omega)).trans A
   have g5:=λo=>cT (o:=o) A
   have w: ∀o,(W.set (N+5) o)[N]?=_:=λo=>(abN (by omega)).trans w0
   have Z: ∀o,(W.set (N+5) o)[N+1]?=_:=λo=>(abN (by omega)).trans w1
   have q:=λo o'=>cT (o:=o') (w o)
   have l: ∀o o',((W.set (N+5) o).set N o')[N+1]?=_:=λo o'=>(abN (by omega)).trans (Z o)
   have b:=λo o'=>cT (o:=o') (f o)
   have j:=λo o' J=>cT (o:=J) (l o o')
   have t0: ∀o o',((W.set N o).set (N+1) o').take N=H:=λo o'=>by rw[aop (by omega),aop (by omega),wt]
   have t5: ∀o o' J,(((W.set (N+5) o).set N o').set (N+1) J).take N=H:=λo o' J=>by rw[aop (by omega),aop (by omega),aop (by omega),wt]
   have s1: ∀ (t:Task) (n:Nat),aM (bX t cv) 1 [.int .i64 ((n:Int)+1)]=bX {t with next:=n+1} cv:=λ_ _=>rfl
   have t10: ∀t:Task,List.take 10 (bX t cv)=bX t cv:=λ_=>rfl
   have c1:=λlo=>avd ho i w0 y C lo
   have c2:=λlo=>ave ho i w0 y C lo
   have c3:=λlo=>avf g ho i w0 y C lo
   have c4:=λlo=>avg ho i w0 y C lo
   have c5:=λlo=>avh ho y A lo
   have c6:=λlo=>avi ho i w0 y C A lo
   have eb:x.b % 8=x.b:=amo ho.b;have ec:x.c % 8=x.c:=amo ho.c;rw[eb,ec];by_cases p:x.op=1
   ·rw[acE p,p];simp only[od];simp only[F1,go_sem,simprocAttr,c1,I,f,m,b,t0,ajO,TK,s1,t10,a]
   ·by_cases r:x.op=2
    ·rw[acz p,acE r,r];simp only[od];simp only[F1,go_sem,simprocAttr,c2,I,f,m,b,t0,ajO,TK,s1,t10,a]
    ·by_cases z:x.op=3
     ·rw[acz p,acz r,acE z,z];simp only[od];simp only[F1,go_sem,simprocAttr,c3,I,f,m,b,t0,ajO,TK,s1,t10,a]
     ·by_cases F:x.op=4
      ·rw[acz p,acz r,acz z,acE F,F];simp only[od];simp only[F1,go_sem,simprocAttr,c4,I,f,m,b,t0,ajO,TK,s1,t10,a]
      ·by_cases K:x.op=5
       ·rw[acz p,acz r,acz z,acz F,acE K,K];simp only[od];simp only[F1,go_sem,simprocAttr,c5,g5,w,q,l,j,t5,TK,t10,a]
       ·by_cases T:x.op=6
        ·rw[acz p,acz r,acz z,acz F,acz K,acE T,T];simp only[od];simp only[F1,go_sem,simprocAttr,c6,g5,w,q,l,j,t5,TK,t10,a]
        ·rw[acz p,acz r,acz z,acz F,acz K,acz T];have e:od N x.op=none:=by unfold od;split<;>first|omega|rfl
         rw[e];simp only[F1,go_sem,simprocAttr,w0,A,I,f,b,t0,TK,s1,t10,a]
instance:Inhabited dH:=⟨BU⟩
def avm(v fv:AV)(l:List dH)(H:List ae)(c:Rd ⟨H,none⟩ v 5 (l.map cN))(s:l.length<2147483648)(p:dH->Bool)(lo:oN)
  (q: ∀x∈l,D X0 fv [.agg (cN x)] ⟨H,none⟩=some (.ret (.bool (p x)) ⟨H,none⟩)):D X0 (.fn (.func 163) [] []) [v,fv] ⟨H,lo⟩=some (.ret (.int .i64 (ka p l)) ⟨H,lo⟩):=by
 refine aH Pz λN w=>?_
 simp only[go_sem,simprocAttr,Pz,c.bK];refine ek l.length (λk e H'=>H'=H/\e 0=v/\e 1=fv/\e 7= .int .i64 l.length/\e 8= .int .i64 k/\ ∀j,j<k->p (l.getD j default)=false) 0 (by omega) ?_ ?_
 ·simp only[go_sem,simprocAttr];omega
 ·rintro k t e H' ⟨rfl,o,m,i,g,d⟩ n r;simp(disch:=omega) only[cg,F1,go_sem,simprocAttr,adI,o,m,i,g];refine⟨λh=>?_,λh=>?_⟩
  ·have a:k<l.length:=by omega
   have b: ∀x,Den.part true 5 (cN x) 0=some (.agg (cN x)):=λ_=>rfl
   simp(disch:=omega) only[go_sem,simprocAttr,c.cG,c.cS,↓b,q _ (fE a)];refine⟨by omega,?_⟩;cases f:p (l.getD k default)
   ·simp(disch:=omega) only[go_sem,simprocAttr,o,m,i,g];exact⟨a,nU d f⟩
   ·simp(disch:=omega) only[F1,go_sem,simprocAttr];rw[y8 a d f]
  ·rw[y9 (λj u=>d j (by omega))]
def avn(v fv:AV)(l:List dH)(H:List ae)(a:Rd ⟨H,none⟩ v 5 (l.map cN))(b:l.length<2147483648)(p:dH->Bool)(lo:oN)
  (c: ∀x∈l,D X0 fv [.agg (cN x)] ⟨H,none⟩=some (.ret (.bool (p x)) ⟨H,none⟩)):D X0 (.fn (.func 148) [] []) [v,fv] ⟨H,lo⟩=some (.ret (.bool (l.any p)) ⟨H,lo⟩):=by
 refine aH Pq λN d=>?_
 simp(disch:=omega) only[F1,go_sem,simprocAttr,Pq,avm v fv l H a b p none c,y7]
def avo(x:dH)(n:Nat)(f:x.op<256/\x.a<256/\x.b<256/\x.c<256/\x.n<65536)(k:n<2147483648)(H:List ae)(lo:oN):
  D X0 (.fn (.func 150) [] []) [.agg (cN x),.int .i64 n] ⟨H,lo⟩=some (.ret (.bool (qM x n)) ⟨H,lo⟩):=by
 refine aH Ps λN g=>?_
 obtain⟨q,p,o,m,l⟩:=f;simp only[go_sem,simprocAttr,Ps,g,IL];refine vz 5 (.bool (decide (16<x.op)&&decide (x.op<=38))) [1,2] rfl rfl ?_ λr=>?_
 ·simp(disch:=omega) only[R4,go_sem,simprocAttr,IL]
  (repeat' (first|apply And.intro|intro _))
  all_goals(refine afW AV.bool (amm.2 ?_);simp[];try(intros;omega))
 simp(disch:=omega) only[go_sem,simprocAttr,IL];refine vz 6 (.bool (decide (x.op=5)||decide (x.op=6))) [1,2,5] rfl rfl ?_ λe1=>?_
 ·simp(disch:=omega) only[R4,go_sem,simprocAttr,IL]
  (repeat' (first|apply And.intro|intro _))
  all_goals(refine afW AV.bool (amm.2 ?_);simp[];try(intros;omega))
 have a:ga pL [.int .u8 (x.a:Nat),.int .u8 (x.b:Nat),.int .u8 (x.c:Nat)]=some (.int .u8 ((max (max x.a x.b) x.c:Nat))):=by
  have e:ga pL [.int .u8 (x.a:Nat),.int .u8 (x.b:Nat),.int .u8 (x.c:Nat)]=some (.int .u8 (if(x.c:Int)>(if(x.b:Int)>x.a then(x.b:Int)else x.a)then(x.c:Int)else(if(x.b:Int)>x.a then(x.b:Int)else x.a))):=by simp[ga,pL]
  rw[e];congr 2;split<;>split<;>omega
 have b:decide (((max (max x.a x.b) x.c:Nat):Int)<8)=decide (x.a<8/\x.b<8/\x.c<8):=aev.2 (by omega);have d:decide ((x.op:Int)<=6)=decide (x.op<=6):=aev.2 (by omega);have c:decide ((x.n:Int)<n)=decide (x.n<n):=aev.2 (by omega);unfold qM;generalize decide (x.op<=6)=j at*;generalize decide (x.a<8/\x.b<8/\x.c<8)=i at*;generalize decide (x.n<n)=h at*;generalize(decide (16<x.op)&&decide (x.op<=38))=A at*;generalize(decide (x.op=5)||decide (x.op=6))=J at*;cases j<;>cases A<;>cases i<;>cases J<;>cases h<;>simp(disch:=omega) only[F1,go_sem,simprocAttr,IL,d,a,b,c,Bool.or_false,avQ,aoI,Bool.or_true,arq,aoH]
def avp(v:AV)(l:List dH)(p:l.length<2147483648)(q: ∀x∈l,x.op<256/\x.a<256/\x.b<256/\x.c<256/\x.n<65536)(N:Nat)(H:List ae)(f:Rd ⟨H,none⟩ v 5 (l.map cN))(lo:oN)(r:v.refs<=H.length)(t:v.cm=false/\v.cells=[v]):
  D X0 (.fn (.func 134) [] []) [v] ⟨H,lo⟩=some (.ret (.bool (oZ l)) ⟨H,lo⟩):=by
 refine aH Jf λN m=>?_
 have b: ∀lo,rF ⟨H,lo⟩ v none=some (.ptr N 0,⟨H++[.box [v] none],lo⟩):=λlo=>by
  have s:=f.kind;subst m;cases v<;>simp only[]at s<;>rfl
 have g:=f.bK;have a:Rd ⟨H++[.box [v] none],none⟩ v 5 (l.map cN):=f.ext;have j:=avn v (.fn (.func 149) [] [.ptr N 0]) l (H++[.box [v] none]) a p (λx=>!qM x l.length) none (λx h=>by
  refine fe Pr λM n=>?_
  have k: ∀L,(H++(.box [v] none::L))[N]?=some (.box [v] none):=λL=>by rw[di m];rfl
  have i: ∀L,fb ⟨H++(.box [v] none::L),none⟩ .sl v=some (.int .i64 l.length):=λL=>Rd.bK (f.ext (L:=.box [v] none::L))
  have hm:=λH lo=>avo x l.length (q x h) p H lo
  have c: ∀x,Den.part true 5 (cN x) 0=some (.agg (cN x)):=λ_=>rfl
  obtain rfl:M=N+1:=by rw[<-n];simp[m]
  simp(disch:=omega) only[F1,go_sem,simprocAttr,Pr,n,↓c,k,i,hm];refine de rfl ?_;have e:H++[ae.box [v] none,.box (cN x) none]=(H++[.box [v] none])++[.box (cN x) none]:=by simp
  rw[e,anW n])
 unfold oZ;by_cases d:l.length<=64
 ·have o: ((l.length:Nat):Int)<=64:=by omega
  rw[ac5 d,aha];simp(disch:=omega) only[F1,go_sem,simprocAttr,Jf,b,a.bK,o,j];rw[avP]
 ·have o: ¬((l.length:Nat):Int)<=64:=by omega
  rw[acK d,afH];simp(disch:=omega) only[F1,go_sem,simprocAttr,Jf,b,a.bK,o]
def pC(l:lB):dH:=⟨(l.getD 0 0).toNat,(l.getD 1 0).toNat,(l.getD 2 0).toNat,(l.getD 3 0).toNat,(l.getD 4 0).toNat+256*(l.getD 5 0).toNat⟩
def avq{s:lB}(h:k+6<=s.length):qN (s.drop k)=pC (s.drop k)::qN (s.drop (k+6)):=by
 have e:s.drop (k+6)=(s.drop k).drop 6:=by simp
 rw[e];have g:6<=(s.drop k).length:=by grind
 generalize s.drop k=l at*
 match l,g with
 |a::b::c::d::e::f::r,_=>rfl
def avr(e f:Nat)(a:e<256)(d:f<256):dh .or (.int .u16 e) (.int .u16 ((f*256:Nat)))=some (.int .u16 ((e+256*f:Nat))):=by
 rw[GP];have e1: ∀n:Nat,n<65536->(BitVec.ofInt IntKind.u16.bits (n:Int)).toNat=n:=by
  have:IntKind.u16.bits=16:=rfl
  grind
 have c:e|||f*256=e+256*f:=by
  have:=Nat.shiftLeft_add_eq_or_of_lt (b:=e) (i:=8) a f;rw[Nat.shiftLeft_eq]at this
  grind
 rw[BitVec.toNat_or,e1 e (by omega),e1 (f*256) (by omega),c];have:IntKind.wrap .u16 ((e+256*f:Nat):Int)=((e+256*f:Nat):Int):=by
  unfold IntKind.wrap IntKind.bits IntKind.signed;grind
 rw[this]
def avs(f:Nat)(a:f<256):kn .shl (.int .u16 f) (.int .u64 8)=some (.int .u16 ((f*256:Nat))):=by
 rw[z9,acE (by omega)];have:IntKind.wrap .u16 ((f:Int)*2^(min (8:Int).toNat IntKind.u16.bits))=((f*256:Nat):Int):=by
  have h:min (8:Int).toNat IntKind.u16.bits=8:=rfl;rw[h];unfold IntKind.wrap IntKind.bits IntKind.signed;grind
 rw[this]
def avt{H:List ae}{n:Nat}{s:lB}(k:H[n]?=some (.box [.int .u8 0,.int .u8 0,.int .u8 0,.int .u8 0,.int .u8 0,.int .u8 0] none))(j:6<=s.length):
  ri ⟨H,lo⟩ 1 (.fa n 1 0 6) (S s)=some (.int .i64 6,⟨H.set n (.box [.int .u8 (s.getD 0 0).toNat,.int .u8 (s.getD 1 0).toNat,.int .u8 (s.getD 2 0).toNat,.int .u8 (s.getD 3 0).toNat,.int .u8 (s.getD 4 0).toNat,.int .u8 (s.getD 5 0).toNat] none),lo⟩):=by
 match s,j with
 |a::b::c::d::e::f::r,_=>
  have l:B8 ⟨H,lo⟩ 1 (S (a::b::c::d::e::f::r))=some ((a::b::c::d::e::f::r).map λx=>[.int .u8 x.toNat]):=by
   simp only[B8,S,aeE];rfl
  have i:bT ((a::b::c::d::e::f::r).map λx:UInt8=>[AV.int .u8 x.toNat])=0:=bp (g:=λx:UInt8=>[AV.int .u8 x.toNat]) (λ_=>rfl) _;have h: ((a::b::c::d::e::f::r).map λx:UInt8=>[AV.int .u8 x.toNat]).all (λel=>el.length==1)=true:=by simp
  have m: ((a::b::c::d::e::f::r).map λx:UInt8=>[AV.int .u8 x.toNat]).length.min 6=6:=by
   show min _ 6=6;simp
  simp only[ri,l,k,m,i,AS.set,h];rw[acE ⟨trivial,by decide,trivial⟩,acE (ac7 _)];rfl
def avu(l:lB): (pC l).op<256/\ (pC l).a<256/\ (pC l).b<256/\ (pC l).c<256/\ (pC l).n<65536:=by
 have h: ∀u:UInt8,u.toNat<256:=λu=>u.toNat_lt
 refine⟨h _,h _,h _,h _,?_⟩;have b:=h (l.getD 4 0);have a:=h (l.getD 5 0);show(l.getD 4 0).toNat+256*(l.getD 5 0).toNat<65536;omega
def gn(s:lB)(k:Nat):List dH:=(List.range k).map λi=>pC (s.drop (6*i))
def TH(s:lB)(k:Nat):gn s (k+1)=gn s k++[pC (s.drop (6*k))]:=by unfold gn;rw[an7,aeq];rfl
theorem ajB{s:lB}: ∀m k,6*(k+m)=s.length->gn s k++qN (s.drop (6*k))=gn s (k+m)
 |0,k,h=>by
  have:s.drop (6*k)=[]:=afL (by omega);rw[this];simp[qN]
 |m+1,k,h=>by
  have hle:6*k+6<=s.length:=by omega
  rw[avq hle];have:=ajB (s:=s) m (k+1) (by omega);rw[TH]at this
  grind
def ajC{s:lB}(h:s.length % 6=0):qN s=gn s (s.length/6):=by
 have:=ajB (s:=s) (s.length/6) 0 (by omega);simpa[gn]using this
def ajD(s:lB)(H:List ae)(lo:oN):
  ∃v,D X0 (.fn (.func 99) [] []) [S s] ⟨H,lo⟩=some (.ret (.av [v,.int .i64 (if(decode s).isSome then 0 else 3:Nat)]) ⟨H,lo⟩)/\Rv v 5 (((decode s).getD []).map cN):=by
 suffices B: ∃o,D X0 (.fn (.func 99) [] []) [S s] ⟨H,lo⟩=some o/\ (λo=> ∃v,o=aT.ret (.av [v,.int .i64 (if(decode s).isSome then 0 else 3:Nat)]) ⟨H,lo⟩/\Rv v 5 (((decode s).getD []).map cN)) o by grind
 refine cH D9 λN A=>?_
 have tm: ((s.length:Nat):Int).tmod 6=((s.length % 6:Nat):Int):=by rfl
 by_cases G:s.length % 6=0
 ·have c:decide (((s.length % 6:Nat):Int)=0)=true:=ac5 (by omega);by_cases T:s.length<=384
  ·have g: ¬((s.length:Nat):Int)>384:=by omega
   simp only[go_sem,simprocAttr,D9,tm,c,g];refine ek (s.length/6) (λk e W=>e 0=S (s.drop (6*k))/\H<+:W/\aR N W (e 4) 5 C2 ((gn s k).map cN)) 0 (by omega) ?_ ?_
   ·simp only[go_sem,simprocAttr];exact⟨aoN,aR.an⟩
   rintro k R e W ⟨d,a,h⟩ n C;have K: (s.drop (6*k)).length=s.length-6*k:=alN ..;simp only[cg,go_sem,simprocAttr,adw,d,C];refine⟨λO=>?_,λO=>?_⟩
   ·have f:k<s.length/6:=by omega
    have P:6<=(s.drop (6*k)).length:=by omega
    have z:=λlo=>avt (lo:=lo) (H:=W++[.box [.int .u8 0,.int .u8 0,.int .u8 0,.int .u8 0,.int .u8 0,.int .u8 0] none]) (n:=n) (s:=s.drop (6*k)) (by rw[di C];rfl) P
    have r:sO (S (s.drop (6*k))) (some (.int .i64 6)) none=some (S (s.drop (6*(k+1)))):=by
     rw[GQ,acE ⟨by omega,by omega⟩,an4];rfl
    have E:pC (s.drop (6*k))=pC (s.drop (6*k)):=rfl;have F: ∀j,((s.drop (6*k)).getD j 0).toNat<256:=λj=>UInt8.toNat_lt _
    have Q:=F 4;have I:=F 5;have w:=avr _ _ Q I;have t:=avs _ I;simp(disch:=omega) only[go_sem,simprocAttr,d,air,z,w,t];have l: (gn s k).length=k:=by simp[gn]
    refine oA (N:=N) (H0:=H) (bytes:=6) (ys:=[cN (pC (s.drop (6*k)))]) h.ext (a.trans (anY _ _)) A (by omega) (by intro el y;rw[ada.1 y];rfl) rfl (by rw[aej,l];show(k+1)*6<=room;unfold room;omega) λv' U p u=>?_
    simp only[go_sem,simprocAttr,d,r];refine⟨f,u,?_⟩;rw[TH,aeq];exact p
   ·have f:k=s.length/6:=by omega
    have m:qN s=gn s k:=by rw[f];exact ajC G
    have l: (gn s k).length=k:=by simp[gn]
    have b:=λlo=>avp (e 4) (gn s k) (by omega) (λx B=>by
     obtain⟨i,_,rfl⟩:=ael.1 B;exact avu _) 0 W (lE h none) lo (by
     rcases h.2 with⟨q,_⟩| ⟨id,ai,_,q,J⟩
     ·rw[q];exact ac7 _
     ·rw[q];have:=dM J;simp only[AV.refs];omega) (na (lE h none))
    have d:decode s=if oZ (gn s k)then some (gn s k)else none:=by unfold decode;rw[acz (by omega),m]
    rw[d];cases hm:oZ (gn s k)with
    |true=>
     rw[hm]at b;simp only[go_sem,simprocAttr,b];rw[h.abT (by rw[bp (λ_=>rfl)];omega) (ac7 _)];exact⟨_,de rfl (kS A λi M=>by obtain⟨L,rfl⟩:=a;rw[abP (by omega)]),aR.qd h⟩
    |false=>
     rw[hm]at b;simp only[go_sem,simprocAttr,b];rw[wO rfl];exact⟨.an,de rfl (kS A λi M=>by obtain⟨L,rfl⟩:=a;rw[abP (by omega)]),.an⟩
  ·have g: ((s.length:Nat):Int)>384:=by omega
   have d:decode s=none:=by unfold decode;rw[acE (.inr (by omega))]
   rw[d];simp(disch:=omega) only[F1,go_sem,simprocAttr,D9,tm,c,g];exact⟨.an,rfl,.an⟩
 ·have c:decide (((s.length % 6:Nat):Int)=0)=false:=acK (by omega);have d:decode s=none:=by unfold decode;rw[acE (.inl G)]
  rw[d];simp(disch:=omega) only[F1,go_sem,simprocAttr,D9,tm,c];exact⟨.an,rfl,.an⟩
def avv(b:UInt8)(H:List ae)(lo:oN):D X0 (.fn (.func 103) [] []) [.int .u8 b.toNat] ⟨H,lo⟩=some (.ret (.bool (kR b.toNat)) ⟨H,lo⟩):=by
 refine aH O4 λN h=>?_
 generalize b.toNat=n at*;have e1:decide ((n:Int)<8)=decide (n<8):=aev.2 (by omega);have c:decide ((n:Int)=8)=decide (n=8):=aev.2 (by omega);have e3:decide (16<=(n:Int))=decide (16<=n):=aev.2 (by omega);have a:decide ((n:Int)<24)=decide (n<24):=aev.2 (by omega);unfold kR;generalize decide (n<8)=g at*;generalize decide (n=8)=f at*;generalize decide (16<=n)=e at*;generalize decide (n<24)=d at*;cases g<;>cases f<;>cases e<;>cases d<;>simp(disch:=omega) only[F1,go_sem,simprocAttr,O4,e1,c,e3,a,Bool.or_false,avQ,aoI,Bool.or_true]
def avw(p:lB)(H:List ae)(lo:oN):D X0 (.fn (.func 98) [] []) [S p] ⟨H,lo⟩=some (.ret (.bool (!(decode p).isSome)) ⟨H,lo⟩):=by
 refine aH I8 λN b=>?_
 obtain⟨v,d1,_⟩:=ajD p H none;cases a: (decode p).isSome with
 |true=>
  rw[a]at d1;simp(disch:=omega) only[F1,go_sem,simprocAttr,I8,d1]
 |false=>
  rw[a]at d1;simp(disch:=omega) only[F1,go_sem,simprocAttr,I8,d1]
def avx(b:UInt8)(H:List ae)(lo:oN):D X0 (.fn (.func 102) [] []) [.int .u8 b.toNat] ⟨H,lo⟩=some (.ret (.bool (!kR b.toNat)) ⟨H,lo⟩):=by
 refine aH O3 λN a=>?_
 simp(disch:=omega) only[F1,go_sem,simprocAttr,O3,avv]
structure La(aU:Int)(aC:List lB)(aE:lB)(pv kv:AV):Prop where
 pr:Rv pv 1 (aC.map sC)
 pk:Rv kv 1 (aE.map bC)
 np:aC.length<1099511627776
 nk:aE.length<1099511627776
def avy{a:Int}{aC:List lB}{aE:lB}{pv kv:AV}(h:La a aC aE pv kv)(n: -9223372036854775808<=a/\a<9223372036854775808)(H:List ae)(lo:oN):
  D X0 (.fn (.func 66) [] []) [.agg [.int .i64 a,pv,kv]] ⟨H,lo⟩=some (.ret (.bool (mZ ⟨a,aC,aE.map UInt8.toNat⟩)) ⟨H,lo⟩):=by
 refine aH ON λN r=>?_
 have o:=cq h.pr (bp (λ_=>rfl) _);have q:=cq h.pk (bp (λ_=>rfl) _);have c:=λH lo=>ap1 pv (.fn (.func 98) [] []) aC h.pr h.np (λp=>!(decode p).isSome) H lo (λx _=>avw x H none)
 have d:=λH lo=>apZ kv (.fn (.func 102) [] []) aE h.pk h.nk (λb=>!kR b.toNat) H lo (λx _=>avx x H none)
 have m: (!aC.any λp=>!(decode p).isSome)=aC.all λp=>(decode p).isSome:=avP.symm
 have l: (!aE.any λb=>!kR b.toNat)=aE.all λb=>kR b.toNat:=avP.symm
 have k:mZ ⟨a,aC,aE.map UInt8.toNat⟩=(decide (1<=a/\a<=64/\1<=aC.length/\aC.length<=8/\aE.length<=4000)&&aC.all (λp=>(decode p).isSome)&&aE.all λb=>kR b.toNat):=by
  unfold mZ;simp only[aej,List.all_map];rfl
 have e1:decide (1<=a/\a<=64/\1<=aC.length/\aC.length<=8/\aE.length<=4000)=(!decide (a<1)&& !decide (64<a)&& !decide ((aC.length:Int)<1)&& !decide (8< (aC.length:Int))&& !decide (4000< (aE.length:Int))):=by
  rw[amm];simp;omega
 rw[k,e1,<-m,<-l];generalize j:decide (a<1)=z;generalize i:decide (64<a)=y;generalize g:decide ((aC.length:Int)<1)=w;generalize f:decide (8< (aC.length:Int))=v;generalize e:decide (4000< (aE.length:Int))=u;generalize(aC.any λp=>!(decode p).isSome)=t at*;generalize(aE.any λb=>!kR b.toNat)=s at*;clear m l k e1;cases z<;>cases y<;>cases w<;>cases v<;>cases u<;>simp only[F1,go_sem,simprocAttr,ON,r,h.pr.bK,h.pk.bK,j,i,g,f,e,afH,aoI,arq,aoH,avQ,aha];cases t<;>cases s<;>simp(disch:=omega) only[F1,go_sem,simprocAttr,c,d,aoI,arq,aoH,avQ]
def avz(p:lB)(H:List ae)(lo:oN):
  ∃cv,D X0 (.fn (.func 68) [] []) [S p] ⟨H,lo⟩=some (.ret (.av [.agg (bX {o5 with code:=(decode p).getD []} cv),.int .i64 (if(decode p).isSome then 0 else 3:Nat)]) ⟨H,lo⟩)/\Rv cv 5 (((decode p).getD []).map cN):=by
 obtain⟨N,c⟩: ∃N,H.length=N:=⟨_,rfl⟩;obtain⟨v,d1,d2⟩:=ajD p (H++[.box [.an,.int .i64 0,.int .u64 0,.int .u64 0,.int .u64 0,.int .u64 0,.int .u64 0,.int .u64 0,.int .u64 0,.int .u64 0] none]) none;have a:=cq d2 (bp (λ_=>rfl) _);obtain⟨t1,t2⟩:=na (d2 ⟨[],none⟩);cases b:decode p with
 |some l=>
  rw[b]at d1 d2;refine⟨v,?_,d2⟩;refine aH D6 λM d=>?_
  obtain rfl:M=N:=by omega
  simp only[F1,go_sem,simprocAttr,D6,c,d1,t1,t2,a,oB];rfl
 |none=>
  rw[b]at d1 d2;simp only[au4,aek,ahz]at d1;refine⟨.an,?_,.an⟩;refine aH D6 λM d=>?_
  obtain rfl:M=N:=by omega
  simp only[F1,go_sem,simprocAttr,D6,c,d1,oB];rfl
def w9(r:Runner)(cv rv:AV):lA:=bX r.t cv++(br r.c rv++[.bool r.busy,.int .i64 r.fr])
def gp(e:Event):lA:=[.int .i64 e.aa]++(bg e.c++(aA e.run++(bD e.r++[.int .i64 e.fr,.int .i64 e.to])))
def cE(m:aV)(p:Nat)(aD aJ:Nat->AV)(ev:AV):lA:=[.ptr p 0]++(arr 8 (λi=>w9 (m.ay i) (aD i) (aJ i))++[.int .i64 m.now,ev])
section
variable{m:aV}{p:Nat}{aD aJ:Nat->AV}{ev:AV}{i:Nat}
theorem Lb: (arr 8 (λi=>w9 (m.ay i) (aD i) (aJ i))).length=192:=by rfl
theorem og: (cE m p aD aJ ev).length=195:=by rfl
def Fw{ag:Bool}{o:Nat}(h:i<8)(ho:o+k<=24)(a:0<k):Den.part ag k (cE m p aD aJ ev) (1+i*24+o)=Den.part ag k (w9 (m.ay i) (aD i) (aJ i)) o:=by
 unfold cE;rw[jZ (by grind),show 1+i*24+o- [AV.ptr p 0].length=i*24+o by grind,nI (by rw[Lb];omega) a];exact kI (k:=24) (f:=λi=>w9 (m.ay i) (aD i) (aJ i)) (λ_=>rfl) h ho a
theorem pD: (cE m p aD aJ ev)[0]?=some (.ptr p 0):=rfl
theorem zu: (cE m p aD aJ ev)[193]?=some (.int .i64 m.now):=by rfl
theorem TI: (cE m p aD aJ ev)[194]?=some ev:=by rfl
def xa(h:i<8): (cE m p aD aJ ev)[1+i*24+22]?=some (.bool (m.ay i).busy):=Fw (ag:=false) (k:=1) h (by omega) (by omega)
def avA(h:i<8): (cE m p aD aJ ev)[1+i*24+23]?=some (.int .i64 (m.ay i).fr):=Fw (ag:=false) (k:=1) h (by omega) (by omega)
def Fx(h:i<8):Den.part true 10 (cE m p aD aJ ev) (1+i*24)=some (.agg (bX (m.ay i).t (aD i))):=Fw (o:=0) h (by omega) (by omega)
def BW(h:i<8):Den.part true 12 (cE m p aD aJ ev) (1+i*24+10)=some (.agg (br (m.ay i).c (aJ i))):=Fw h (by omega) (by omega)
def Lc(h:i<8):Den.part true 2 (cE m p aD aJ ev) (1+i*24+19)=some (.agg (aA (m.ay i).c.run)):=Fw h (by omega) (by omega)
theorem ajE{n:Nat}:aM (cE m p aD aJ ev) 193 [.int .i64 n]=cE {m with now:=n} p aD aJ ev:=by rfl
def ajF:aM (cE m p aD aJ ev) 194 [v]=cE m p aD aJ v:=by
 unfold cE;rw[gx (by simp),gx (by rw[Lb];simp),Lb];rfl
def Fy{o:Nat}{vs:lA}{r:Runner}{cv:AV}(h:i<8)(ho:o+vs.length<=24)(a:aM (w9 (m.ay i) (aD i) (aJ i)) o vs=w9 r cv rv):
  aM (cE m p aD aJ ev) (1+i*24+o) vs=cE {m with ay:=aq m.ay i r} p (aq aD i cv) (aq aJ i rv) ev:=by
 unfold cE;rw[gx (by grind),show 1+i*24+o- [AV.ptr p 0].length=i*24+o by grind,qA (by rw[Lb];omega),nK (k:=24) (f:=λi=>w9 (m.ay i) (aD i) (aJ i)) (λ_=>rfl) h ho,a]
 congr 2
 refine EC λj _=>?_
 by_cases e:j=i
 ·subst e;simp only[cu]
 ·simp only[cy e]
def TJ{b:Bool}(h:i<8):aM (cE m p aD aJ ev) (1+i*24+22) [.bool b]=cE {m with ay:=aq m.ay i {m.ay i with busy:=b}} p aD aJ ev:=by
 have:=Fy (m:=m) (p:=p) (aD:=aD) (aJ:=aJ) (ev:=ev) (o:=22) (vs:=[.bool b]) (r:={m.ay i with busy:=b}) (cv:=aD i) (rv:=aJ i) h (by simp) rfl;rwa[l6,l6]at this
def avB{n:Nat}(h:i<8):aM (cE m p aD aJ ev) (1+i*24+23) [.int .i64 n]=cE {m with ay:=aq m.ay i {m.ay i with fr:=n}} p aD aJ ev:=by
 have:=Fy (m:=m) (p:=p) (aD:=aD) (aJ:=aJ) (ev:=ev) (o:=23) (vs:=[.int .i64 n]) (r:={m.ay i with fr:=n}) (cv:=aD i) (rv:=aJ i) h (by simp) rfl;rwa[l6,l6]at this
def ajG{t:Task}(h:i<8):aM (cE m p aD aJ ev) (1+i*24) (bX t (aD i))=cE {m with ay:=aq m.ay i {m.ay i with t:=t}} p aD aJ ev:=by
 have:=Fy (m:=m) (p:=p) (aD:=aD) (aJ:=aJ) (ev:=ev) (o:=0) (vs:=bX t (aD i)) (r:={m.ay i with t:=t}) (cv:=aD i) (rv:=aJ i) h (by rw[q0];omega) rfl;rwa[l6,l6]at this
def zv{c:Call}(h:i<8):aM (cE m p aD aJ ev) (1+i*24+10) (br c rv)=cE {m with ay:=aq m.ay i {m.ay i with c:=c}} p aD (aq aJ i rv) ev:=by
 have:=Fy (m:=m) (p:=p) (aD:=aD) (aJ:=aJ) (ev:=ev) (o:=10) (vs:=br c rv) (r:={m.ay i with c:=c}) (cv:=aD i) (rv:=rv) h (by rw[show(br c rv).length=12 from rfl];omega) rfl;rwa[l6]at this
theorem azL{x:Core}:cE {m with ar:=x} p aD aJ ev=cE m p aD aJ ev:=rfl
end
def Mu2(o:ae):Prop:=Mu o\/ ∃a d,o= .row a 14 mB d
structure Fm(n:Nat)(S:lN)(H H':List ae):Prop where
 len:H.length<=H'.length
 low: ∀i,i<n->i∉S->H'[i]?=H[i]?
 box: ∀i o,i∉S-> ¬Mu2 o->H[i]?=some o->H'[i]?=some o
section
variable{n:Nat}{S T:lN}{A B C H W:List ae}
theorem Fm.refl:Fm n S A A:=⟨aeg _,λ_ _ _=>rfl,λ_ _ _ _ h=>h⟩
theorem Fm.trans(h:Fm n S A B)(g:Fm n S B C):Fm n S A C:=⟨afI h.len g.len,λi a b=>(g.low i a b).trans (h.low i a b),λi o a ho c=>g.box i o a ho (h.box i o a ho c)⟩
def Fq.fm(h:Fq n S A B)(b: ∀i∈S,i∈T):Fm n T A B:=⟨h.len,λi a q=>h.low i a λr=>q (b i r),λi o a ho c=>h.box i o (λq=>a (b i q)) (λq=>ho (.inl q)) c⟩
theorem Fm.set(a:p∈S)(b:n<=A.length)(o:ae):Fm n S A (A.set p o):=(Fq.set a b o).fm λ_ h=>h
theorem Fm.app(L:List ae)(a:n<=A.length):Fm n S A (A++L):=(Fq.app L a).fm λ_ h=>h
theorem Fm.take{N:Nat}(h:Fm n S A B)(e:A.length=N)(d:n<=N):Fm n S A (B.take N):=⟨by rw[aeD];have:=h.len;omega,λi a c=>by rw[aez (by omega)];exact h.low i a c,λi o a ho b=>by
 have:=dM b;rw[aez (by omega)];exact h.box i o a ho b⟩
def Fm.out(h:Fm n T H W)(f:H.length<=i)(d:n<=H.length)(o:ae):Fm n T H (W.set i o):=⟨by rw[aen];exact h.len,λj a c=>by rw[abN (by omega)];exact h.low j a c,λj o a ho b=>by
 have e:=dM b;rw[abN (by omega)];exact h.box j o a ho b⟩
def Fm.pre{L:List ae}(h:Fm n S (H++L) W)(a:n<=H.length):Fm n S H W:=(Fm.app L a).trans h
end
structure bt(n M p q:Nat)(m:aV)(qv ev:AV)(aD aJ:Nat->AV)(H:List ae):Prop where
 Mq:M<q
 co:dx n p q m.ar qv H
 box:H[M]?=some (.box (cE m p aD aJ ev) none)
 pE:cD (max n (M+1)) H ev 14 mB (m.ca.map gp)
 cv: ∀i,Rv (aD i) 5 ((m.ay i).t.code.map cN)
 rv: ∀i,Rv (aJ i) 1 ((m.ay i).c.aW.map hC)
section
variable{n M p q:Nat}{m:aV}{qv ev:AV}{aD aJ:Nat->AV}{H:List ae}
def bt.lt(h:bt n M p q m qv ev aD aJ H):M<H.length:=dM h.box
theorem bt.app(h:bt n M p q m qv ev aD aJ H)(L:List ae):bt n M p q m qv ev aD aJ (H++L):=⟨h.Mq,h.co.app L,bf h.box,h.pE.app L,h.cv,h.rv⟩
def bt.Mn(h:bt n M p q m qv ev aD aJ H):M∉[p,q]:=by have:=h.Mq;have:=h.co.qp;grind
def bt.ar{W:List ae}{c:Core}{b:AV}(h:bt n M p q m qv ev aD aJ H)(g:dx n p q c b W)(e:Fq n [p,q] H W):bt n M p q {m with ar:=c} b ev aD aJ W:=
 ⟨h.Mq,g,e.own h.Mn h.box,h.pE.lg λid ai all f=>e.box id _ (by
   have k:=h.co.box;have j:=h.co.eB
   grind) (λq=>by obtain⟨a,d,q⟩:=q;cases q) f,h.cv,h.rv⟩
theorem bt.set(h:bt n M p q m qv ev aD aJ H){m':aV}{nd a:Nat->AV}(d:m'.ar=m.ar)(e:m'.ca=m.ca)(c: ∀i,Rv (nd i) 5 ((m'.ay i).t.code.map cN))(b: ∀i,Rv (a i) 1 ((m'.ay i).c.aW.map hC)):
  bt n M p q m' qv ev nd a (H.set M (.box (cE m' p nd a ev) none)):=
 ⟨h.Mq,d ▸ h.co.set h.box (by have:=h.Mq;have:=h.co.qp;omega) (by have:=h.Mq;omega) _,cT h.box,e ▸ h.pE.set h.box _,c,b⟩
def bt.fM(h:bt n M p q m qv ev aD aJ H)(o:ae):Fm n [M,p,q] H (H.set M o):=Fm.set (by simp) h.co.mp o
def bt.fc{W:List ae}(h:Fq n [p,q] H W):Fm n [M,p,q] H W:=h.fm λi a=>by grind
def bt.other(h:bt n M p q m qv ev aD aJ H){cs:lA}(a:H[i]?=some (.box cs tg))(d:i≠p)(c:i≠q)(b:i≠M)(o:ae):bt n M p q m qv ev aD aJ (H.set i o):=
 ⟨h.Mq,h.co.set a d c o,(abN b).trans h.box,h.pE.set a _,h.cv,h.rv⟩
theorem bt.nZ{W j:List ae}{N:Nat}{b c:AV}{d a:Nat->AV}{l:aV}(h:bt n M p q m qv ev aD aJ W)(e:j=W\/ (j=W.take N/\Q))(k:Q->qv=b/\ev=c)(g:bt n M p q l b c d a H0)(f:H0.length=N):bt n M p q m qv ev aD aJ j:=
 ⟨h.Mq,h.co.nZ e (λq=>(k q).1) g.co f,K4 e (by rw[<-f];exact g.lt) h.box,cD.nZ h.pE e (λq=>(k q).2) g.pE f,h.cv,h.rv⟩
end
def gH(n M p q:Nat)(H:List ae)(lo:oN)(m':aV)(qv ev:AV)(r:AV)(d:aT):Prop:=
 ∃b c nd a H' aj,d= .ret r ⟨H',aj⟩/\bt n M p q m' b c nd a H'/\Fm n [M,p,q] H H'/\fV (b=qv/\c=ev) p H H' lo aj
def gH.fin{n N:Nat}{o m:aV}{c:AV}{e d:Nat->AV}{H W:List ae}(g:bt n M p q o a c e d H)(l:H.length=N)(h:bt n M p q m qv ev aD aJ W)(f:Fm n [M,p,q] H W)(s:fx (qv=a/\ev=c) p b)(r:v.refs<=N):
  gH n M p q H lo m a c v (.ret (finish N lo v ⟨W,b⟩).1 (finish N lo v ⟨W,b⟩).2):=by
 have w:=g.co.mp;have u:=g.co.lt;rcases s with⟨rfl,k⟩| ⟨j,t,rfl⟩
 ·rw[iQ (.inl rfl) r];refine⟨qv,ev,aD,aJ,_,lo,rfl,h.nZ (.inr ⟨rfl,k⟩) id g l,f.take l (by omega),.inl ⟨rfl,?_,k⟩⟩;rw[aeD];have:=f.len;omega
 ·rw[uW (by omega)];exact⟨qv,ev,aD,aJ,W,cK lo j,rfl,h,f,.inr ⟨j,t,rfl⟩⟩
structure dq(m:aV):Prop where
 ar:jG m.ar
 t: ∀i,kY (m.ay i).t
 c: ∀i,fI (m.ay i).c
 fr: ∀i,(m.ay i).fr<2147483648
 now:m.now<2147483648
 ev:m.ca.length<2147483648
 run: ∀i,(m.ay i).c.run.1<=64/\ (m.ay i).c.run.2<=64
def Ld{n:Nat}{m:aV}{H:List ae}(h:bt n M p q m qv ev aD aJ H)(t:Nat)(lo:oN):D XC (.fn (.func 60) [] []) [.ptr M 0,.int .i64 t] ⟨H,lo⟩=some (.ret (.bool (fL m t)) ⟨H,lo⟩):=by
 refine aH I1 λN e=>?_
 have d: (t:Int)>=0:=by omega
 unfold fL;by_cases c:t<8
 ·have a: (t:Int)<8:=by omega
  have b: (bA m.ar q qv)[936+t]?=some (.bool (m.ar.S.alive t)):=by
   have:Den.part false 1 (bA m.ar q qv) (936+t)=some (.bool (m.ar.S.alive t)):=by
    unfold bA;rw[nI (by rw[dY];omega) (by omega)];exact Rp c
   exact this
  rw[ac5 c,aha];simp(disch:=omega) only[F1,go_sem,simprocAttr,I1,d,a,h.box,h.co.box,pD,b]
 ·have a: ¬(t:Int)<8:=by omega
  rw[acK c,afH];simp(disch:=omega) only[F1,go_sem,simprocAttr,I1,d,a]
def ajH:jE mi:=⟨by decide,by decide,by decide,by decide,by decide,by decide⟩
def BX:fI fu:=⟨by decide,ajH,(λh a=>by cases a),⟨by decide,by decide⟩,by decide⟩
def bt.FA{n:Nat}{m:aV}{H:List ae}(h:bt n M p q m qv ev aD aJ H)(i:Nat)(r:Runner)(cv rv:AV)(b:Rv cv 5 (r.t.code.map cN))(a:Rv rv 1 (r.c.aW.map hC)):
  bt n M p q {m with ay:=aq m.ay i r} qv ev (aq aD i cv) (aq aJ i rv) (H.set M (.box (cE {m with ay:=aq m.ay i r} p (aq aD i cv) (aq aJ i rv) ev) none)):=
 h.set rfl rfl (λj=>by
  show Rv (aq aD i cv j) 5 ((aq m.ay i r j).t.code.map cN);by_cases e:j=i
  ·subst e;rw[cu,cu];exact b
  ·rw[cy e,cy e];exact h.cv j) λj=>by
  show Rv (aq aJ i rv j) 1 ((aq m.ay i r j).c.aW.map hC);by_cases e:j=i
  ·subst e;rw[cu,cu];exact a
  ·rw[cy e,cy e];exact h.rv j
def jG.queue(b:jG x){r:aF}(c:r.1<=64/\r.2<=64)(d:x.Q.length+r.2<8589934592):jG (cO x r):=by
 have f: (cO x r).Q.length=x.Q.length+r.2:=by simp[cO,iO]
 refine⟨b.S,b.P,b.M,λk a=>?_,by omega⟩;rcases ac8.1 a with a|a
 ·exact b.Q k a
 ·obtain⟨i,e,rfl⟩:=ael.1 a
  grind
def jG.cut(a:jG x){c:Call}(b:c.run.1<=64/\c.run.2<=64)(d:x.Q.length+c.run.2<8589934592):jG (wC x c):=by
 have:=a.queue b d;exact⟨this.S,this.P,Tb this.M _,this.Q,this.Ql⟩
def ajI(x:Core)(c:Call): (wC x c).Q.length=x.Q.length+c.run.2:=by simp[wC,cO,iO]
def dq.TL{m:aV}(h:dq m)(i:Nat)(b:m.ar.Q.length<4294967296):dq (jy m i)/\ (jy m i).ar.Q.length<=m.ar.Q.length+64:=by
 unfold jy;split
 ·have a:=h.run i;refine⟨⟨h.ar.cut a (by omega),λj=>?_,λj=>?_,λj=>?_,h.now,h.ev,λj=>?_⟩,?_⟩
  ·show kY (aq m.ay i _ j).t;unfold aq;split
   ·exact h.t i
   ·exact h.t j
  ·show fI (aq m.ay i _ j).c;unfold aq;split
   ·exact BX
   ·exact h.c j
  ·show(aq m.ay i _ j).fr<_;unfold aq;split
   ·exact h.fr i
   ·exact h.fr j
  ·show(aq m.ay i _ j).c.run.1<=64/\ (aq m.ay i _ j).c.run.2<=64;unfold aq;split
   ·exact⟨by show 0<=64;omega,by show 0<=64;omega⟩
   ·exact h.run j
  ·rw[ajI];omega
 grind
def fW(m:aV)(k:Nat):aV:=(List.range k).foldl jy m
def zw(m:aV)(k:Nat):fW m (k+1)=jy (fW m k) k:=by unfold fW;rw[an7,akp];rfl
theorem TM{m:aV}(h:dq m)(a:m.ar.Q.length<1073741824): ∀k,k<=8->dq (fW m k)/\ (fW m k).ar.Q.length<=m.ar.Q.length+64*k
 |0,_=>⟨h,by show m.ar.Q.length<=_;omega⟩
 |k+1,c=>by
  obtain⟨b,f⟩:=TM h a k (by omega);obtain⟨e,d⟩:=b.TL k (by omega);rw[zw]
  grind
def avD{n:Nat}{m:aV}{H:List ae}(u:bt n M p q m qv ev aD aJ H)(Y:dq m)(hQ:m.ar.Q.length<1073741824)(lo:oN):
  ∃P,D XC (.fn (.func 63) [] []) [.ptr M 0] ⟨H,lo⟩=some P/\gH n M p q H lo (jz m) qv ev (.av []) P:=by
 have ho:Old M H (.box (cE m p aD aJ ev) none):=⟨u.box⟩;refine cH OM λN O=>?_
 have FB:M<N:=by rw[<-O];exact u.lt
 have V:p<N:=by rw[<-O];exact u.co.lt
 have X:=u.co.mp;have hMq:=u.Mq;have T:=u.co.qp;simp only[go_sem,simprocAttr,OM];refine iJ 8 (λk e W aj=> ∃i h d g,e 0= .ptr M 0/\e 4= .int .i64 k/\bt n M p q (fW m k) i h d g W/\fx (i=qv/\h=ev) p aj/\Fm n [M,p,q] H W) 0 (by omega) ?_ ?_
 ·refine⟨qv,ev,aD,aJ,?_⟩;simp only[go_sem,simprocAttr];exact⟨u,fx.no trivial,Fm.refl⟩
 rintro k hk e W aj ⟨i,h,d,g,C,B,l,r,A⟩ nn hn;simp only[cg,go_sem,simprocAttr,ads,C,B];refine⟨λZ=>?_,λZ=>?_⟩
 ·have f:k<8:=by omega
  have w: (0:Int)<=k/\ (k:Int)<8:=by omega
  obtain⟨x,U⟩:=TM Y hQ k (by omega);have s:=λlo=>Ld l k lo
  have G:=zw m k;cases y: ((fW m k).ay k).busy with
  |false=>
   have e1:jy (fW m k) k=fW m k:=acz (by rw[y];simp);simp(disch:=omega) only[go_sem,simprocAttr,C,B,w,l.box,xa f,y];exact⟨f,i,h,d,g,by rw[G,e1];exact l,r,A⟩
  |true=>
   cases z:fL (fW m k) k with
   |true=>
    rw[z]at s;have e1:jy (fW m k) k=fW m k:=acz (by rw[z];simp);simp(disch:=omega) only[go_sem,simprocAttr,C,B,w,l.box,xa f,y,s];exact⟨f,i,h,d,g,by rw[G,e1];exact l,r,A⟩
   |false=>
    rw[z]at s;have e1:jy (fW m k) k={fW m k with ar:=wC (fW m k).ar ((fW m k).ay k).c,ay:=aq (fW m k).ay k {(fW m k).ay k with busy:=false,c:=fu}}:=acE ⟨y,z⟩;obtain⟨P,g1,E,W3,R,rfl,g2,Q,g4⟩:=aiJ l.co x.ar _ (x.c k) _ (cq (l.rv k) (bp (λ_=>rfl) _)) aj;have j:=l.ar g2 Q;have S: [AV.int .i64 0,.int .u8 0,.int .u32 0,.int .u32 0,.int .u32 0,.int .u32 0,.int .u64 0,.bool false,.an,.int .i64 0,.int .i64 0,.int .i64 0]=br fu .an:=rfl;have K:aI (br fu .an)=0:=rfl;have L: (br fu .an).length=12:=rfl;have J:1+k*24+22+1<=195:=by omega
    have I:1+k*24+10+12<=195:=by omega
    have F:=λo=>cT (o:=o) j.box
    simp(disch:=omega) only[go_sem,simprocAttr,C,B,w,l.box,xa f,pD,↓BW f,y,s,g1,j.box,og,TJ f,zv f,S,K,L,J,I,F,ajO,r9,cu];have t:=j.FA k {(fW m k).ay k with busy:=false,c:=fu} (d k) .an (j.cv k) .an;rw[l6]at t;refine⟨f,E,h,d,aq g k .an,?_,r.step g4 (λa b=>⟨b.trans a.1,a.2⟩),(A.trans (bt.fc Q)).trans (j.fM _)⟩;rw[G,e1];exact t
 ·obtain rfl:k=8:=by omega
  exact gH.fin (v:=.av []) u O l A r (ac7 _)
def TN(a:aF)(b n:Nat)(j:a.2<4294967296)(m:b<17179869184/\n<17179869184)(H:List ae)(lo:oN):
  D XC (.fn (.func 125) [] []) [.agg (aA a),.int .i64 b,.int .i64 n] ⟨H,lo⟩=some (.ret (.agg (aA (handed a b n))) ⟨H,lo⟩):=by
 refine aH A0 λN f=>?_
 have o: (aA a)[1]?=some (.int .i64 a.2):=rfl;have k: ∀r,List.take 2 (aA r)=aA r:=λ_=>rfl
 have l: ∀r,List.drop 2 (aA r)=[]:=λ_=>rfl
 have h: ∀r:aF,(aA r).length=2:=λ_=>rfl
 have g: ∀r,aI (aA r)=0:=λ_=>rfl
 unfold handed;by_cases i:0<a.2
 ·have d:decide (0< ((a.2:Nat):Int))=true:=ac5 (by omega);by_cases e:a.2<=n-b
  ·have c:decide (((a.2:Nat):Int)<=(n:Int)-b)=true:=ac5 (by omega);rw[acE ⟨e,i⟩];simp(disch:=omega) only[F1,go_sem,simprocAttr,A0,f,d,c,Ah];rfl
  ·have c:decide (((a.2:Nat):Int)<=(n:Int)-b)=false:=acK (by omega);rw[acz (λq=>e q.1)];simp(disch:=omega) only[F1,go_sem,simprocAttr,A0,f,c,h,g,Ah]
 ·have d:decide (0< ((a.2:Nat):Int))=false:=acK (by omega);rw[acz (λq=>i q.2)];by_cases e: ((a.2:Nat):Int)<=(n:Int)-b
  ·have c:decide (((a.2:Nat):Int)<=(n:Int)-b)=true:=ac5 e;simp(disch:=omega) only[F1,go_sem,simprocAttr,A0,f,d,c,h,g,Ah]
  ·have c:decide (((a.2:Nat):Int)<=(n:Int)-b)=false:=acK e;simp(disch:=omega) only[F1,go_sem,simprocAttr,A0,f,c,h,g,Ah]
def bt.ajK{n:Nat}{m:aV}{H W:List ae}(h:bt n M p q m qv ev aD aJ H){e:Event}(j:cD (max n (M+1)) W v 14 mB ((m.ca++[e]).map gp))(b: ∀ (i:Nat) (o:ae),(∀a d,o≠ae.row a 14 mB d)->H[i]?=some o->W[i]?=some o)(k:H.length<=W.length):
  bt n M p q {m with ca:=m.ca++[e]} qv v aD aJ (W.set M (.box (cE {m with ca:=m.ca++[e]} p aD aJ v) none)):=by
 have c: ∀cs tg,∀a d,ae.box cs tg≠ .row a 14 mB d:=λ_ _ _ _ e=>by cases e
 have f:=b M _ (c _ _) h.box;have r:=h.Mq;have l:=h.co.qp;refine⟨h.Mq,⟨by rw[aen];have:=h.co.mp;omega,h.co.qp,(abN (by omega)).trans (b p _ (c _ _) h.co.box),(abN (by omega)).trans (b q _ (c _ _) h.co.eB),?_⟩,cT f,j.set f _,h.cv,h.rv⟩;exact(h.co.ic.lg λid ai all g=>b id _ (λa d e=>by cases e) g).set f _
def ajL{n:Nat}{m:aV}{H W:List ae}(h:bt n M p q m qv ev aD aJ H)(j:H.length<=W.length)(k: ∀i,i<max n (M+1)->W[i]?=H[i]?)(f: ∀ (i:Nat) (o:ae),(∀a d,o≠ae.row a 14 mB d)->H[i]?=some o->W[i]?=some o)(o:ae):Fm n [M,p,q] H (W.set M o):=by
 refine⟨by grind,λi b g=>by grind,λi o' b ho c=>?_⟩;rw[abN (by grind)];exact f i o' (λa d e=>ho (.inr ⟨a,d,e⟩)) c
def avE(t:Task)(r:bB): (su t r).code=t.code:=by
 unfold su;grind
def TO{n:Nat}{m:aV}{H:List ae}(f:bt n M p q m qv ev aD aJ H)(Y:dq m)(t:Nat)(j:t<8)(c:Call)(rv:AV)(hrv:rv.refs=0)(run:aF)(r:bB)(hr:r.w<4294967296/\r.e<4294967296)(lo:oN):
  ∃cr,D XC (.fn (.func 124) [] []) [.ptr M 0,.int .i64 t,.agg (br c rv),.agg (aA run),.agg (bD r)] ⟨H,lo⟩=some cr/\gH n M p q H lo (Kb m t c run r) qv ev (.av []) cr:=by
 refine cH Pd λN s=>?_
 have FB:M<N:=by rw[<-s];exact f.lt
 have nY:p<N:=by rw[<-s];exact f.co.lt
 have hb:=λL=>bf (L:=L) f.box
 have I: (0:Int)<=t/\ (t:Int)<8:=by omega
 have K:Den.part true 6 (br c rv) 1=some (.agg (bg c.c)):=rfl;have hlr: ∀r:aF,List.take 2 (aA r)=aA r:=λ_=>rfl
 have RR: ∀r:aF,(aA r).length=2:=λ_=>rfl
 have hls: ∀r:bB,List.take 3 (bD r)=bD r:=λ_=>rfl
 have T: ∀c:cz,bg c=[.int .u8 c.op,.int .u32 c.r,.int .u32 c.s,.int .u32 c.a,.int .u32 c.b,.int .u64 c.v]:=λ_=>rfl
 have k: ∀r:aF,aA r=[.int .i64 r.1,.int .i64 r.2]:=λ_=>rfl
 have h: ∀r:bB,bD r=[.int .i64 r.e,.int .u64 r.v,.int .u32 r.w]:=λ_=>rfl
 have R: ∀a b:Nat,[AV.int .i64 (t:Int),.int .u8 c.c.op,.int .u32 c.c.r,.int .u32 c.c.s,.int .u32 c.c.a,.int .u32 c.c.b,.int .u64 c.c.v,.int .i64 run.1,.int .i64 run.2,.int .i64 r.e,.int .u64 r.v,.int .u32 r.w,.int .i64 a,.int .i64 b]=gp ⟨t,c.c,run,r,a,b⟩:=λ_ _=>rfl
 obtain⟨B,hB⟩: ∃B:List ae,B=[.box (br c rv) none,.box (aA run) none,.box (bD r) none]:=⟨_,rfl⟩;have i:=f.app B;obtain⟨v',W,g1,g2,Z,g4,x,g6,g7,g8⟩:=cD.append (bytes:=96) (lo:=none) (y:=gp ⟨t,c.c,run,r,(m.ay t).fr,m.now⟩) i.pE (by have:=i.lt;have:=i.co.mp;omega) (by omega) rfl rfl (by rw[aej];have:=Y.ev;unfold room;omega);have eE:m.ca.map gp++[gp ⟨t,c.c,run,r,(m.ay t).fr,m.now⟩]=(m.ca++[(⟨t,c.c,run,r,(m.ay t).fr,m.now⟩:Event)]).map gp:=by rw[aeq];rfl
 rw[eE]at g2;have w:=i.ajK g2 x Z;have U:=ajL i Z g4 x (.box (cE {m with ca:=m.ca++[⟨t,c.c,run,r,(m.ay t).fr,m.now⟩]} p aD aJ v') none);rw[hB]at g1;rw[k,h]at g1;have S: ∀e,(gp e).length=14:=λ_=>rfl
 have het: ∀e,List.take 14 (gp e)=gp e:=λ_=>rfl
 have X: ∀cs tg,∀a d,ae.box cs tg≠ .row a 14 mB d:=λ_ _ _ _ e=>by cases e
 have V:=x M _ (X _ _) i.box;have wr:=x (N+2) _ (X _ _) (show(H++B)[N+2]?=some (.box (bD r) none) by rw[hB,bE s];rfl);rw[h]at wr;have J:=λo=>cT (o:=o) V
 have z: ∀o,(W.set M o)[N+2]?=_:=λo=>(abN (by omega)).trans wr
 have E: ¬v'.refs<=M+1:=by omega
 have G: ∀H lo,D XC (.fn (.func 145) [] []) [.agg (bX (m.ay t).t (aD t)),.agg [.int .i64 r.e,.int .u64 r.v,.int .u32 r.w]] ⟨H,lo⟩=some (.ret (.agg (bX (su (m.ay t).t r) (aD t))) ⟨H,lo⟩):=λH lo=>c0 (avc (f.cv t) (Y.t t) r hr H lo)
 have l:=cq (f.cv t) (bp (λ_=>rfl) _);have F:=λt'=>Fs (t:=t') l
 have hz: [AV.int .i64 0,.int .u8 0,.int .u32 0,.int .u32 0,.int .u32 0,.int .u32 0,.int .u64 0,.bool false,.an,.int .i64 0,.int .i64 0,.int .i64 0]=br fu .an:=rfl;have A:aI (br fu .an)=0:=rfl;have C: (br fu .an).length=12:=rfl;have Q:1+t*24+10<=195:=by omega
 have P:1+t*24+22+1<=195:=by omega
 have O:1+t*24+10+12<=195:=by omega
 simp only[go_sem,simprocAttr,Pd,s,I,hb,zu,TI,avA j,↓K,T,k,h,R,S,het,g1,g6,g7,E,V,z,J,ajF,og,↓Fx j,G,F,ajG j,TJ j,zv j,hz,A,C,Q,P,O,ajO,r9,cu,q0];have g:=w.FA t {m.ay t with t:=su (m.ay t).t r,busy:=false,c:=fu} (aD t) .an (by rw[avE];exact f.cv t) .an;rw[l6,ajO]at g;have u:=(Fm.app B (by have:=f.co.mp;omega)).trans (U.trans (w.fM (.box (cE {m with ca:=m.ca++[⟨t,c.c,run,r,(m.ay t).fr,m.now⟩],ay:=aq m.ay t {m.ay t with t:=su (m.ay t).t r,busy:=false,c:=fu}} p aD (aq aJ t .an) v') none)));rw[ajO]at u;exact gH.fin (v:=.av []) f s g u (.inr ⟨M,by have:=f.Mq;have:=f.co.qp;omega,rfl⟩) (ac7 _)
def xb(m:aV)(t:Nat):aV:={m with ar:=(fT m.ar (m.ay t).c).x,ay:=aq m.ay t {m.ay t with c:=(fT m.ar (m.ay t).c).c}}
def TP(m:aV)(t:Nat):aF:=if(fT m.ar (m.ay t).c).r.e≠0\/ (fT m.ar (m.ay t).c).c.c.op≠2 then(0,0)else(m.ay t).c.run
theorem ajM(m:aV)(t:Nat):o6 m t=if(fT m.ar (m.ay t).c).ended then Kb (xb m t) t (fT m.ar (m.ay t).c).c (handed (TP m t) m.ar.Q.length (fT m.ar (m.ay t).c).x.Q.length) (fT m.ar (m.ay t).c).r else xb m t:=rfl
def ajN{n:Nat}{m:aV}{H:List ae}(hD: ∀op,ke op)(g:bt n M p q m qv ev aD aJ H)(hm:dq m)(t:Nat)(j:t<8)(hQ:m.ar.Q.length<2147483648)
  (hd:qZ (db (eG ⟨m.ar,(m.ay t).c,bO,false⟩).x.S (eG ⟨m.ar,(m.ay t).c,bO,false⟩).c.aa (eG ⟨m.ar,(m.ay t).c,bO,false⟩).c.c (eG ⟨m.ar,(m.ay t).c,bO,false⟩).c.run) (m.ay t).c.c)
  (B:dq (xb m t)) (hr: (fT m.ar (m.ay t).c).r.w<4294967296/\ (fT m.ar (m.ay t).c).r.e<4294967296) (oy: (fT m.ar (m.ay t).c).c.c.op<256) (lo:oN):
  ∃cr,D XC (.fn (.func 95) [] []) [.ptr M 0,.int .i64 t] ⟨H,lo⟩=some cr/\gH n M p q H lo (o6 m t) qv ev (.av []) cr:=by
 refine cH AZ λN z=>?_
 have FB:M<N:=by rw[<-z];exact g.lt
 have nY:p<N:=by rw[<-z];exact g.co.lt
 have hMq:=g.Mq;have K5:=g.co.qp;have TQ:=g.co.mp;have P: (0:Int)<=t/\ (t:Int)<8:=by omega
 have hb:=λL=>bf (L:=L) g.box
 have hcb:=λL=>bf (L:=L) g.co.box
 have My:=λL lo=>((g.app L).co.ic.rd (lo:=lo)).bK
 have hrz:=cq (g.rv t) (bp (λ_=>rfl) _);obtain⟨cr,g1,Le,h,W,G,rfl,g2,g3,g4,g5⟩:=ava hD (g.co.app [.box (aA (m.ay t).c.run) none,.box u9 none,.box nc none]) hm.ar (hm.c t) (g.rv t) hd hQ none;rw[ajM];have R: ∀r:aF,(aA r).length=2:=λ_=>rfl
 have hrt: ∀r:aF,List.take 2 (aA r)=aA r:=λ_=>rfl
 have rA: ∀r:aF,List.drop 2 (aA r)=[]:=λ_=>rfl
 have Q: ∀r:aF,aI (aA r)=0:=λ_=>rfl
 have O: [AV.int .i64 0,.int .u8 0,.int .u32 0,.int .u32 0,.int .u32 0,.int .u32 0,.int .u64 0,.bool false,.an,.int .i64 0,.int .i64 0,.int .i64 0]=u9:=rfl;have I: [AV.int .i64 0,.int .u64 0,.int .u32 0]=nc:=rfl;generalize hs:fT m.ar (m.ay t).c=s at*;have e:=λlo=>(g.co.ic.rd (lo:=lo)).bK
 have nM1:N∉[p,q]:=by simp;omega
 have nM2:N+1∉[p,q]:=by simp;omega
 have nM3:N+2∉[p,q]:=by simp;omega
 have v0:=g4.own nM1 (by rw[di z];rfl);have v1:=g4.own nM2 (by rw[bE z];rfl);have v2:=g4.own nM3 (by rw[bE z];rfl);have hA:=(g.app [.box (aA (m.ay t).c.run) none,.box u9 none,.box nc none]).ar g2 g4;have J:u9.length=12:=rfl;have l:nc.length=3:=rfl;have K:List.drop 12 u9=[]:=rfl;have u:List.drop 3 nc=[]:=rfl;have Z: ∀c rv,(br c rv).length=12:=λ_ _=>rfl
 have X: ∀c rv,List.take 12 (br c rv)=br c rv:=λ_ _=>rfl
 have w:=cq g3 (bp (λ_=>rfl) _);have Y:=To s.c w;have s1:=λo=>cT (o:=o) v1
 have y: ∀o,(W.set (N+1) o)[N+2]?=_:=λo=>(abN (by omega)).trans v2
 have vM: ∀o o',((W.set (N+1) o).set (N+2) o')[M]?=_:=λo o'=>(abN (by omega)).trans ((abN (by omega)).trans hA.box)
 have A: ∀o o':ae,((W.set (N+1) o).set (N+2) o')[N+1]?=some o:=λo o'=>(abN (by omega)).trans (s1 o)
 have T:1+t*24+10+12<=195:=by omega
 have Lf:=((hA.other v1 (by omega) (by omega) (by omega) (.box (br s.c h) none)).other (y _) (by omega) (by omega) (by omega) (.box (bD s.r) none));have k:=Lf.FA t {m.ay t with c:=s.c} (aD t) h (g.cv t) g3;rw[l6]at k;have F:Fm n [M,p,q] H (((W.set (N+1) (.box (br s.c h) none)).set (N+2) (.box (bD s.r) none)).set M (.box (cE {m with ar:=s.x,ay:=aq m.ay t {m.ay t with c:=s.c}} p aD (aq aJ t h) ev) none)):=by
  have h1:=((bt.fc (M:=M) g4).pre (by omega)).out (i:=N+1) (by omega) (by omega) (.box (br s.c h) none);exact(h1.out (i:=N+2) (by omega) (by omega) (.box (bD s.r) none)).trans (Lf.fM _)
 have S:fx (Le=qv/\ev=ev) p G:=(fV.n g5).imp (λq=>⟨q.1,q.2,rfl⟩) id;obtain⟨W3,C⟩: ∃W3,W3=((W.set (N+1) (.box (br s.c h) none)).set (N+2) (.box (bD s.r) none)).set M (.box (cE {m with ar:=s.x,ay:=aq m.ay t {m.ay t with c:=s.c}} p aD (aq aJ t h) ev) none):=⟨_,rfl⟩;have x:=C.symm;have BY:N+1+1=N+2:=rfl;have w0:W3[N]?=some (.box (aA (m.ay t).c.run) none):=by rw[C,abN (by omega),abN (by omega),abN (by omega)];exact v0
 have w1:W3[N+1]?=some (.box (br s.c h) none):=by rw[C,abN (by omega)];exact A _ _
 have w2:W3[N+2]?=some (.box (bD s.r) none):=by rw[C,abN (by omega)];exact cT (y _)
 rw[<-C]at k F;have BZ: (bD s.r)[0]?=some (.int .i64 s.r.e):=rfl;have hc1: (br s.c h)[1]?=some (.int .u8 s.c.c.op):=rfl;have eM:xb m t={m with ar:=s.x,ay:=aq m.ay t {m.ay t with c:=s.c}}:=by unfold xb;rw[hs]
 have eR:TP m t=if s.r.e≠0\/s.c.c.op≠2 then(0,0)else(m.ay t).c.run:=by unfold TP;rw[hs]
 rw[eM]at B⊢;rw[eR];have hqb:s.x.Q.length<8589934592:=B.ar.Ql;have zT:=hm.run t;cases U:s.ended with
 |false=>
  simp only[go_sem,simprocAttr,AZ,z,P,g.box,g.co.box,hb,pD,KL,↓KL,e,↓Lc j,R,Q,↓BW j,O,I,g1,v1,y,vM,A,J,l,K,u,Z,X,Y,sF,qX,og,zv j,T,U,BY,x];exact gH.fin (v:=.av []) g z k F S (ac7 _)
 |true=>
  by_cases he:s.r.e=0
  ·have V:decide (((s.r.e:Nat):Int)=0)=true:=ac5 (by omega);by_cases ho:s.c.c.op=2
   ·have TR:decide (((s.c.c.op:Nat):Int)=2)=true:=ac5 (by omega);rw[acE rfl,acz (by omega)];have f:=k;have E:=F;have d:=λlo=>(f.co.ic.rd (lo:=lo)).bK
    have hh:=λH lo=>TN (m.ay t).c.run m.ar.Q.length s.x.Q.length (by skip;omega) (by omega) H lo
    obtain⟨cr,g6,qv6,ev6,ajS,ajT,W6,lo6,rfl,g7,g8,g9⟩:=TO f B t j s.c h w (handed (m.ay t).c.run m.ar.Q.length s.x.Q.length) s.r hr G;simp only[go_sem,simprocAttr,AZ,z,P,g.box,g.co.box,hb,pD,KL,↓KL,e,↓Lc j,R,Q,↓BW j,O,I,g1,v1,y,vM,A,J,l,K,u,Z,X,Y,sF,wX,qX,og,zv j,T,U,BY,x,w0,w1,w2,BZ,hc1,V,TR,k.box,f.co.box,d,hh,g6];exact gH.fin (v:=.av []) g z g7 (E.trans g8) (S.step g9 λa b=>⟨b.1.trans a.1,b.2.trans a.2⟩) (ac7 _)
   ·have TR:decide (((s.c.c.op:Nat):Int)=2)=false:=acK (by omega);rw[acE rfl,acE (.inr ho)];have f:=k.other w0 (by omega) (by omega) (by omega) (.box [.int .i64 0,.int .i64 0] none);have E:=F.out (i:=N) (by omega) (by omega) (.box [.int .i64 0,.int .i64 0] none);have u0:=λo=>cT (o:=o) w0
    have u1: ∀o,(W3.set N o)[N+1]?=_:=λo=>(abN (by omega)).trans w1
    have u2: ∀o,(W3.set N o)[N+2]?=_:=λo=>(abN (by omega)).trans w2
    have d:=λlo=>(f.co.ic.rd (lo:=lo)).bK
    have hh: ∀H lo,D XC (.fn (.func 125) [] []) [.agg [.int .i64 0,.int .i64 0],.int .i64 m.ar.Q.length,.int .i64 s.x.Q.length] ⟨H,lo⟩=some (.ret (.agg (aA (handed (0,0) m.ar.Q.length s.x.Q.length))) ⟨H,lo⟩):=λH lo=>TN (0,0) m.ar.Q.length s.x.Q.length (by show 0<4294967296;omega) (by omega) H lo
    obtain⟨cr,g6,qv6,ev6,ajS,ajT,W6,lo6,rfl,g7,g8,g9⟩:=TO f B t j s.c h w (handed (0,0) m.ar.Q.length s.x.Q.length) s.r hr G;simp only[go_sem,simprocAttr,AZ,z,P,g.box,g.co.box,hb,pD,KL,↓KL,e,↓Lc j,R,rA,Q,↓BW j,O,I,g1,v1,y,vM,A,J,l,K,u,Z,X,Y,sF,wX,qX,og,zv j,T,U,BY,x,w0,w1,w2,BZ,hc1,V,TR,u0,u1,u2,f.box,f.co.box,d,hh,g6];exact gH.fin (v:=.av []) g z g7 (E.trans g8) (S.step g9 λa b=>⟨b.1.trans a.1,b.2.trans a.2⟩) (ac7 _)
  ·have V:decide (((s.r.e:Nat):Int)=0)=false:=acK (by omega);rw[acE rfl,acE (.inl he)];have f:=k.other w0 (by omega) (by omega) (by omega) (.box [.int .i64 0,.int .i64 0] none);have E:=F.out (i:=N) (by omega) (by omega) (.box [.int .i64 0,.int .i64 0] none);have u0:=λo=>cT (o:=o) w0
   have u1: ∀o,(W3.set N o)[N+1]?=_:=λo=>(abN (by omega)).trans w1
   have u2: ∀o,(W3.set N o)[N+2]?=_:=λo=>(abN (by omega)).trans w2
   have d:=λlo=>(f.co.ic.rd (lo:=lo)).bK
   have hh: ∀H lo,D XC (.fn (.func 125) [] []) [.agg [.int .i64 0,.int .i64 0],.int .i64 m.ar.Q.length,.int .i64 s.x.Q.length] ⟨H,lo⟩=some (.ret (.agg (aA (handed (0,0) m.ar.Q.length s.x.Q.length))) ⟨H,lo⟩):=λH lo=>TN (0,0) m.ar.Q.length s.x.Q.length (by show 0<4294967296;omega) (by omega) H lo
   obtain⟨cr,g6,qv6,ev6,ajS,ajT,W6,lo6,rfl,g7,g8,g9⟩:=TO f B t j s.c h w (handed (0,0) m.ar.Q.length s.x.Q.length) s.r hr G;simp only[go_sem,simprocAttr,AZ,z,P,g.box,g.co.box,hb,pD,KL,↓KL,e,↓Lc j,R,rA,Q,↓BW j,O,I,g1,v1,y,vM,A,J,l,K,u,Z,X,Y,sF,wX,qX,og,zv j,T,U,BY,x,w0,w2,BZ,V,u0,u1,u2,f.box,f.co.box,d,hh,g6];exact gH.fin (v:=.av []) g z g7 (E.trans g8) (S.step g9 λa b=>⟨b.1.trans a.1,b.2.trans a.2⟩) (ac7 _)
structure ajV(m:aV)(t:Nat):Prop where
 d:qZ (db (eG ⟨m.ar,(m.ay t).c,bO,false⟩).x.S (eG ⟨m.ar,(m.ay t).c,bO,false⟩).c.aa (eG ⟨m.ar,(m.ay t).c,bO,false⟩).c.c (eG ⟨m.ar,(m.ay t).c,bO,false⟩).c.run) (m.ay t).c.c
 m':dq (xb m t)
 r: (fT m.ar (m.ay t).c).r.w<4294967296/\ (fT m.ar (m.ay t).c).r.e<4294967296
 op: (fT m.ar (m.ay t).c).c.c.op<256
def avJ{t:Task}(h:kY t):jE (iA t).1:=by
 unfold iA;split
 ·exact⟨by decide,by decide,by decide,by decide,by decide,by decide⟩
 ·rename_i x a;have ho:=Fv h a;split
  ·exact⟨by decide,by decide,by decide,by decide,by decide,by decide⟩
  ·split
   ·exact ajH
   ·have c:=ho.op;have b:=ho.n;exact⟨by grind,amw _ (by omega),amw _ (by omega),amw _ (by omega),by grind,h.aW 5⟩
def avK(t:Task): (qP t).code=t.code:=by
 unfold qP
 grind
def Lg(m:aV)(t:Nat):aV:={m with ay:=aq m.ay t {m.ay t with c:={fu with aa:=t,c:=(iA (m.ay t).t).1},busy:=true,fr:=m.now}}
def dq.wanted{m:aV}(h:dq m){t:Nat}(a:t<8):dq (Lg m t):=by
 refine⟨h.ar,λj=>?_,λj=>?_,λj=>?_,h.now,h.ev,λj=>?_⟩
 ·show kY (aq m.ay t _ j).t;unfold aq;split
  ·exact h.t t
  ·exact h.t j
 ·show fI (aq m.ay t _ j).c;unfold aq;split
  ·exact⟨by grind,avJ (h.t t),BX.aW,BX.run,BX.eW⟩
  ·exact h.c j
 ·show(aq m.ay t _ j).fr<_;unfold aq;split
  ·exact h.now
  ·exact h.fr j
 ·show(aq m.ay t _ j).c.run.1<=64/\ (aq m.ay t _ j).c.run.2<=64;unfold aq;split
  ·exact⟨by show 0<=64;omega,by show 0<=64;omega⟩
  ·exact h.run j
def avL{n:Nat}{m:aV}{H:List ae}(hD: ∀op,ke op)(b:bt n M p q m qv ev aD aJ H)(y:dq m)(t:Nat)(d:t<8)(F:m.ar.Q.length<2147483648)
  (A: ∀m,dq m->m.ar.Q.length<2147483648->ajV m t) (lo:oN):
  ∃s,D XC (.fn (.func 62) [] []) [.ptr M 0,.int .i64 t] ⟨H,lo⟩=some s/\gH n M p q H lo (qQ m t) qv ev (.av []) s:=by
 refine cH D5 λN i=>?_
 have FB:M<N:=by rw[<-i];exact b.lt
 have nY:p<N:=by rw[<-i];exact b.co.lt
 have TQ:=b.co.mp;have k: (0:Int)<=t/\ (t:Int)<8:=by omega
 have E:=λL=>bf (L:=L) b.box
 have hw:=λH lo=>c0 (TF (b.cv t) (y.t t) H lo)
 have j: [AV.int .u8 0,.int .u32 0,.int .u32 0,.int .u32 0,.int .u32 0,.int .u64 0]=bg mi:=rfl;have Y: ∀c,(bg c).length=6:=λ_=>rfl
 have Z: ∀c,List.drop 6 (bg c)=[]:=λ_=>rfl
 have ct: ∀c,List.take 6 (bg c)=bg c:=λ_=>rfl
 have s: ∀c,aI (bg c)=0:=λ_=>rfl
 have z:=cq (b.cv t) (bp (λ_=>rfl) _);have B:=b.app [.box (bg (iA (m.ay t).t).1) none];unfold qQ;dsimp only;cases h: (m.ay t).busy with
 |true=>
  have g:=A m y F;obtain⟨X,g1,G,W,C,u,W6,I,rfl,V,U,T⟩:=ajN hD B y t d F g.d g.m' g.r g.op none;simp only[go_sem,simprocAttr,D5,i,k,b.box,E,↓Fx d,xa d,h,hw,j,Y,Z,s,g1];exact gH.fin (v:=.av []) b i V (U.pre (by omega)) (fV.n T) (ac7 _)
 |false=>
  cases w: (iA (m.ay t).t).2 with
  |true=>
   rw[w]at hw;have x:=y.wanted d;have g:=A (Lg m t) x F;have a:=B.FA t {m.ay t with c:={fu with aa:=t,c:=(iA (m.ay t).t).1},busy:=true,fr:=m.now} (aD t) .an (b.cv t) .an;rw[l6]at a;obtain⟨X,g1,G,W,C,u,W6,I,rfl,V,U,T⟩:=ajN hD a x t d F g.d g.m' g.r g.op none;have P:1+t*24+10+12<=195:=by omega
   have Q:1+t*24+22+1<=195:=by omega
   have l:1+t*24+23+1<=195:=by omega
   have O:=λL o=>cT (o:=o) (E L)
   have r:AV.int .i64 (t:Int):: (bg (iA (m.ay t).t).1++[.bool false,.an,.int .i64 0,.int .i64 0,.int .i64 0])=br {fu with aa:=t,c:=(iA (m.ay t).t).1} .an:=rfl;have R: ∀c,aI (br c .an)=0:=λ_=>rfl
   have S: ∀c,(br c .an).length=12:=λ_=>rfl
   have f:AV.bool (m.ay t).busy= .bool false:=by rw[h]
   simp only[go_sem,simprocAttr,D5,i,k,b.box,E,zu,↓Fx d,xa d,f,hw,j,Y,Z,ct,s,O,ajO,r,R,S,zv d,TJ d,avB d,r9,cu,og,l,Q,P,g1];have hf:Fm n [M,p,q] H ((H++[ae.box (bg (iA (m.ay t).t).1) none]).set M (ae.box (cE (Lg m t) p aD (aq aJ t .an) ev) none)):=(Fm.app _ (by omega)).trans (B.fM _);exact gH.fin (v:=.av []) b i V (hf.trans U) (fV.n T) (ac7 _)
  |false=>
   rw[w]at hw;have K:=λH lo=>c0 (avl (b.cv t) (y.t t) H lo)
   have a:=B.FA t {m.ay t with t:=qP (m.ay t).t} (aD t) (aJ t) (by rw[avK];exact b.cv t) (b.rv t);rw[l6,l6]at a;have J:=λt'=>Fs (t:=t') z
   have l:1+t*24+10<=195:=by omega
   have f:AV.bool (m.ay t).busy= .bool false:=by rw[h]
   simp only[go_sem,simprocAttr,D5,i,k,b.box,E,↓Fx d,xa d,f,hw,j,Y,Z,s,K,J,ajG d,og,l,q0];have e: (⟨qP (m.ay t).t,(m.ay t).c,false,(m.ay t).fr⟩:Runner)={m.ay t with t:=qP (m.ay t).t}:=by rw[<-h]
   rw[e];exact gH.fin (v:=.av []) b i a ((Fm.app _ (by omega)).trans (B.fM _)) (fx.no ⟨rfl,rfl⟩) (ac7 _)
def dx.avM{n:Nat}{H W:List ae}(h:dx n p q x qv H)(r:cD (max n (p+1)) W v 1 kr ((x.Q++[k]).map gE))(t:H.length<=W.length)(u: ∀i,i<max n (p+1)->W[i]?=H[i]?)(b: ∀ (i:Nat) (o:ae),(∀a d,o≠ae.row a 1 kr d)->H[i]?=some o->W[i]?=some o):
  dx n p q {x with Q:=x.Q++[k]} v (W.set p (.box (bA x q v) none))/\Fq n [p,q] H (W.set p (.box (bA x q v) none)):=by
 have c: ∀cs tg,∀a d,ae.box cs tg≠ .row a 1 kr d:=λ_ _ _ _ e=>by cases e
 have f:=b p _ (c _ _) h.box;have g:=h.qp;have j:=h.mp;refine⟨⟨by grind,h.qp,cT f,(abN (by omega)).trans (b q _ (c _ _) h.eB),r.set f _⟩,⟨by grind,λi l s=>?_,λi o l ho m=>?_⟩⟩
 ·grind
 ·rw[abN (by grind)];exact b i o (λa d e=>ho ⟨a,d,e⟩) m
theorem ajW: ∀ (l:List aF) (x:Core) (s:bF),l.foldl cO {x with S:=s}={l.foldl cO x with S:=s}
 | [],_,_=>rfl
 |r::l,x,s=>ajW l (cO x r) s
def fy:cz:={mi with op:=20}
def jI(m:aV)(d:bF×bB×List aF)(k:Nat):Core:=(d.2.2.take k).foldl cO {m.ar with S:=d.1}
def avN{n:Nat}{m:aV}{H:List ae}(hD: ∀op,ke op)(x:bt n M p q m qv ev aD aJ H)(hm:dq m)(t:Nat)(ht:t<8)(hQ:m.ar.Q.length<2147483648)
  (hd:qZ (db m.ar.S t fy (0,0)) fy) (lo:oN):
  ∃cr,D XC (.fn (.func 61) [] []) [.ptr M 0,.int .i64 t] ⟨H,lo⟩=some cr/\gH n M p q H lo (yZ m t) qv ev (.av []) cr:=by
 refine cH OK λN hN=>?_
 have FB:M<N:=by rw[<-hN];exact x.lt
 have nY:p<N:=by rw[<-hN];exact x.co.lt
 have TQ:=x.co.mp;have hMq:=x.Mq;have K5:=x.co.qp;have hb:=λL=>bf (L:=L) x.box
 have hcb:=λL=>bf (L:=L) x.co.box
 have hcx:jE fy:=⟨by decide,by decide,by decide,by decide,by decide,by decide⟩;obtain⟨bv,d1,d2⟩:=S9 m.ar.S hm.ar.S t (by omega) fy hcx (0,0) ⟨show 0<4294967296 by omega,show 0<4294967296 by omega⟩ (hD _) (H++[.box (bg fy) none,.box mC none,.box nc none]) none;have d1:=cB d1;have eS:yZ m t={m with ar:=jI m (db m.ar.S t fy (0,0)) (db m.ar.S t fy (0,0)).2.2.length,ca:=m.ca++[⟨t,fy,(0,0),(db m.ar.S t fy (0,0)).2.1,m.now,m.now⟩]}:=by
  unfold jI;rw[aeo,ajW];rfl
 rw[eS];generalize db m.ar.S t fy (0,0)=d at*;have hz: [AV.int .u8 20,.int .u32 0,.int .u32 0,.int .u32 0,.int .u32 0,.int .u64 0]=bg fy:=rfl;have BZ:aA (0,0)=[.int .i64 0,.int .i64 0]:=rfl;rw[BZ]at d1;have hzr: [AV.int .i64 0,.int .u64 0,.int .u32 0]=nc:=rfl;have cl: ∀c,(bg c).length=6:=λ_=>rfl
 have cd: ∀c,List.drop 6 (bg c)=[]:=λ_=>rfl
 have ct: ∀c,List.take 6 (bg c)=bg c:=λ_=>rfl
 have cr: ∀c,aI (bg c)=0:=λ_=>rfl
 have U:nc.length=3:=rfl;have V:List.drop 3 nc=[]:=rfl;have hA:=(x.app [.box (bg fy) none,.box (bz d.1) none,.box (bD d.2.1) none]);have I:=hA.ar (hA.co.aiG d.1) (hA.co.fp _);have G:=bt.fc (M:=M) (hA.co.fp (.box (bA {m.ar with S:=d.1} q qv) none));have BY:N+1+1=N+2:=rfl;simp only[go_sem,simprocAttr,OK,hN,BY,hb,hcb,pD,KL,↓KL,KS,hz,hzr,cl,ct,cr,d1,DZ,nM,qX,U,V,d2.bK];refine iJ d.2.2.length (λk e W aj=> ∃s,e 0= .ptr M 0/\e 1= .int .i64 t/\e 4= .ptr N 0/\e 6= .ptr (N+2) 0/\e 34=bv/\e 35= .int .i64 d.2.2.length/\e 36= .int .i64 k/\bt n M p q {m with ar:=jI m d k} s ev aD aJ W/\fx (s=qv/\ev=ev) p aj/\W[N]?=some (.box (bg fy) none)/\W[N+2]?=some (.box (bD d.2.1) none)/\Fm n [M,p,q] H W) 0 (by omega) ?_ ?_
 ·refine⟨qv,?_⟩;simp(disch:=omega) only[go_sem,simprocAttr];exact⟨I,fx.no trivial,(Fm.app _ (by omega)).trans G⟩
 rintro k hk e W aj ⟨s,C,e1,R,e6,l,i,h,o,g,J,K,P⟩ nn hn;simp only[cg,go_sem,simprocAttr,adr,C,l,i,h];refine⟨λhh=>?_,λhh=>?_⟩
 ·have w:k<d.2.2.length:=by omega
  generalize F:d.2.2.getD k default=f at*;have zT:=hd.runs f (by rw[<-F];exact fE w);have xS: ∀r:aF,(aA r).length=2:=λ_=>rfl
  have Ag: ∀r,aI (aA r)=0:=λ_=>rfl
  have hrt: ∀r,List.take 2 (aA r)=aA r:=λ_=>rfl
  have rA: ∀r,List.drop 2 (aA r)=[]:=λ_=>rfl
  have CY: (aA f)[1]?=some (.int .i64 f.2):=rfl;have azP: (aA f)[0]?=some (.int .i64 f.1):=rfl;simp(disch:=omega) only[go_sem,simprocAttr,d2.cG,d2.cS,F,hn,xS,Ag];have X:=BS (d.2.2.take k) {m.ar with S:=d.1} (λz hz=>(hd.runs z (afZ hz)).2);have X: (jI m d k).Q.length<=m.ar.Q.length+64*(d.2.2.take k).length:=X;have S5: (d.2.2.take k).length<=k:=by simp;omega
  have hdl:=hd.len;refine⟨by omega,?_⟩;refine iJ f.2 (λj e T E=> ∃u,e 0= .ptr M 0/\e 1= .int .i64 t/\e 4= .ptr N 0/\e 6= .ptr (N+2) 0/\e 34=bv/\e 35= .int .i64 d.2.2.length/\e 36= .int .i64 k/\e 9= .ptr nn 0/\e 41= .int .i64 f.2/\e 42= .int .i64 j/\bt n M p q {m with ar:=iU (jI m d k) f j} u ev aD aJ T/\fx (u=qv/\ev=ev) p E/\T[nn]?=some (.box (aA f) none)/\T[N]?=some (.box (bg fy) none)/\T[N+2]?=some (.box (bD d.2.1) none)/\Fm n [M,p,q] H T) 0 (by omega) ?_ ?_
  ·refine⟨s,?_⟩;simp(disch:=omega) only[go_sem,simprocAttr,C,e1,R,e6,l,i,h];refine⟨?_,by simpa using g,bf J,bf K,P.trans (Fm.app _ (by have:=o.co.mp;omega))⟩;have e1:iU (jI m d k) f 0=jI m d k:=by unfold iU;simp
   rw[e1];exact o.app _
  have hK0:=o.co.box;have azS:p<nn:=by rw[<-hn];exact o.co.lt
  clear g J K C e1 R e6 l i h o P hn;rintro j hj e T E ⟨u,C,e1,R,e6,l,i,h,e9,e41,e42,A,g,wn,J,K,P⟩ n2 hn2;simp(disch:=omega) only[cg,go_sem,simprocAttr,adq,C,e1,R,e6,l,i,h,e41,e42];refine⟨λhh=>?_,λhh=>?_⟩
  ·have Y:j<f.2:=by omega
   have hwl:=A.co.lt;have hwm:=A.co.mp;have My: (iU (jI m d k) f j).Q.length<=m.ar.Q.length+64*k+f.2:=by
    have: (iU (jI m d k) f j).Q.length=(jI m d k).Q.length+((iO f).take j).length:=by simp[iU]
    have h2: ((iO f).take j).length<=f.2:=by simp[iO];omega
    omega
   obtain⟨v',W3,g1,g2,g3,g4,B,g6,g7,g8⟩:=cD.append (bytes:=8) (lo:=E) (y:=[.int .i64 ((f.1:Int)+j)]) A.co.ic (by omega) (by omega) rfl rfl (by rw[aej];unfold room;show((iU (jI m d k) f j).Q.length+1)*8<=_;omega);have eQ: (iU (jI m d k) f j).Q.map gE++[[.int .i64 ((f.1:Int)+j)]]=((iU (jI m d k) f j).Q++[f.1+j]).map gE:=by rw[aeq];rfl
   rw[eQ]at g2;obtain⟨c1,c2⟩:=A.co.avM g2 g3 g4 B;have Z:=A.ar c1 c2;have eT: {iU (jI m d k) f j with Q:=(iU (jI m d k) f j).Q++[f.1+j]}=iU (jI m d k) f (j+1):=by
    unfold iU;rw[aiI Y,<-acF]
   rw[eT]at Z;have O: ∀cs tg,∀a d,ae.box cs tg≠ .row a 1 kr d:=λ_ _ _ _ e=>by cases e
   have wp':=B p _ (O _ _) A.co.box;have g8': ¬v'.refs<=p+1:=by omega
   simp(disch:=omega) only[go_sem,simprocAttr,C,e1,R,e6,l,i,h,e9,e41,e42,A.box,A.co.box,pD,KL,↓KL,wn,g1,wp',KS,g6,g7,g8'];refine⟨Y,v',Z,?_,B nn _ (O _ _) wn,B N _ (O _ _) J,B (N+2) _ (O _ _) K,P.trans (bt.fc c2)⟩;rcases g with⟨rfl,_⟩| ⟨j2,hj2,rfl⟩
   ·exact .inr ⟨p,aeg _,rfl⟩
   ·exact .inr ⟨min p j2,by omega,rfl⟩
  ·obtain rfl:j=f.2:=by omega
   have C:jI m d (k+1)=iU (jI m d k) f f.2:=by
    rw[aiH];unfold jI;rw[<-F,aex,acJ w,akp,aer,acJ w];rfl
   exact⟨w,u,by rw[C];exact A,g.imp (λq=>⟨q.1,q.2.1⟩) id,J,K,P⟩
 ·obtain rfl:k=d.2.2.length:=by omega
  have g:fx (s=qv/\ev=ev) p aj:=g;obtain⟨v',W3,g1,g2,g3,g4,B,g6,g7,g8⟩:=cD.append (bytes:=96) (lo:=aj) (y:=gp ⟨t,fy,(0,0),d.2.1,m.now,m.now⟩) o.pE (by have:=o.lt;have:=o.co.mp;omega) (by omega) rfl rfl (by rw[aej];unfold room;have:=hm.ev;show(m.ca.length+1)*96<=_;omega);have eE:m.ca.map gp++[gp ⟨t,fy,(0,0),d.2.1,m.now,m.now⟩]=(m.ca++[(⟨t,fy,(0,0),d.2.1,m.now,m.now⟩:Event)]).map gp:=by rw[aeq];rfl
  have g2:cD (max n (M+1)) W3 v' 14 mB ((m.ca++[(⟨t,fy,(0,0),d.2.1,m.now,m.now⟩:Event)]).map gp):=eE ▸ g2;have I:=o.ajK g2 B g3;have G:=ajL o g3 g4 B (.box (cE {m with ca:=m.ca++[⟨t,fy,(0,0),d.2.1,m.now,m.now⟩]} p aD aJ v') none);have O: ∀cs tg,∀a d,ae.box cs tg≠ .row a 14 mB d:=λ_ _ _ _ e=>by cases e
  have wM:=B M _ (O _ _) o.box;have hv': ¬v'.refs<=M+1:=by omega
  have Sq: ∀c:cz,bg c=[.int .u8 c.op,.int .u32 c.r,.int .u32 c.s,.int .u32 c.a,.int .u32 c.b,.int .u64 c.v]:=λ_=>rfl
  have hse: ∀r:bB,bD r=[.int .i64 r.e,.int .u64 r.v,.int .u32 r.w]:=λ_=>rfl
  have hev: ∀a b:Nat,[AV.int .i64 (t:Int),.int .u8 fy.op,.int .u32 fy.r,.int .u32 fy.s,.int .u32 fy.a,.int .u32 fy.b,.int .u64 fy.v,.int .i64 0,.int .i64 0,.int .i64 d.2.1.e,.int .u64 d.2.1.v,.int .u32 d.2.1.w,.int .i64 a,.int .i64 b]=gp ⟨t,fy,(0,0),d.2.1,a,b⟩:=λ_ _=>rfl
  have pT: ∀e,(gp e).length=14:=λ_=>rfl
  have het: ∀e,List.take 14 (gp e)=gp e:=λ_=>rfl
  simp only[go_sem,simprocAttr,o.box,C,e1,R,e6,zu,TI,J,K,Sq,hse,hev,pT,het,g1,g6,g7,hv',wM,ajF,og];refine gH.fin (v:=.av []) x hN I (P.trans G) ?_ (ac7 _);rcases g with⟨rfl,_⟩| ⟨j2,hj2,rfl⟩
  ·exact .inr ⟨M,by omega,rfl⟩
  ·exact .inr ⟨min M j2,by omega,rfl⟩
end Go.Proofs.YteplichagkpciaaGreatDoor
