/- What functions do; conditions as stated. -/
import Derived.Test.YteplichagkpciaaGreatDoorM2
set_option linter.all false
set_option maxRecDepth 10000
set_option maxHeartbeats 1000000
namespace Go.Proofs.YteplichagkpciaaGreatDoor
open Go Go.Den
variable{aa k i sz p q m M:Nat}{c:ck}{a v qv rv ev:AV}{b lo:oN}{af:List lA}{l:List aC}{tg:Option TypeId}{H0:List ae}{Q:Prop}{x:Core}{r:bE}{aH aT:Nat->AV}
def apN:=@List.take_set_of_le
def azM:=@List.all_eq_not_any_not
def aAB:=@List.not_mem_nil
def Lo(m:Marks)(a aa:Nat):Marks:=if jD a aa then ai m a (BL (m a) aa)else m
def auX(m:Marks)(r: ∀i,iU (m i))(a aa:Nat)(s:aa<4294967296)(H:List ae)(lo:oN):
  D X0 (.fn (.func 146) [] []) [.agg (dc m),.int .i64 a,.int .i64 aa] ⟨H,lo⟩=some (.ret (.agg (dc (Lo m a aa))) ⟨H,lo⟩):=by
 refine aK EB λN l=>?_
 have g:o7.length=320:=by rfl
 have d:List.drop 320 o7=[]:=ahz (by omega);have q: ∀m:Marks,List.take 320 (dc m)=dc m:=λm=>adz (by rw[eD];omega)
 have b:=λH lo=>Tv a aa H lo
 unfold Lo;cases c:jD a aa with
 |false=>
  rw[c]at b;simp only[F1,go_sem,simprocAttr,EB,l,b,↓rJ,eD,kj,g,d]
  try rfl
 |true=>
  rw[c]at b;obtain⟨j,t⟩:a<32/\aa<8:=by unfold jD at c;simpa using c
  have f: (0:Int)<=a/\ (a:Int)<32:=by omega
  have k:a*10<=319:=by omega
  have n:=(r a).has;simp only[ae4];unfold BL;by_cases p: (m a).has=aa+1
  ·have e: (((m a).has:Nat):Int)=(aa:Int)+1:=by omega
   have h:aN (dc m) (a*10) [.int .u8 0]=dc (ai m a {m a with has:=0}):=Cb (o:=0) j (by simp) rfl;rw[ac6 p];simp only[F1,go_sem,simprocAttr,EB,l,b,f,↓vS j,e,h,k,↓rJ,eD,kj,g,d]
  ·have e: ¬(((m a).has:Nat):Int)=(aa:Int)+1:=by omega
   rw[ac0 p,mM];simp(disch:=omega) only[F1,go_sem,simprocAttr,EB,l,b,f,↓vS j,e,↓rJ,eD,kj,g,d]
def qe(m:Marks)(aa k:Nat):Marks:=λi=>if i<k then ry m aa i else m i
def auY(m:Marks)(a:aa<8)(b:k<32):qe m aa (k+1)=ai (qe m aa k) k (xf (BL (m k) aa) aa):=by
 funext i
 unfold qe ai;by_cases e:i=k
 ·subst e;rw[ac6 (by omega),ac6 rfl];unfold ry;rw[ac6 (by unfold jD;grind)]
 grind
def auZ(m:Marks)(aa:Nat):qe m aa 32=ry m aa:=by
 funext i
 unfold qe;by_cases h:i<32
 ·grind
 ·rw[ac0 h];unfold ry;rw[ac0 (by unfold jD;grind)]
def au0(m:Marks)(k:Nat)(a: ¬aa<8):qe m aa k=m:=by
 funext i
 unfold qe ry;split
 ·rw[ac0 (by unfold jD;grind)]
 ·rfl
def aiD{l:fH}(h:iU l)(aa:Nat):iU (BL l aa):=by
 unfold BL;split
 ·exact⟨by simp,h.n,h.lt,h.inj⟩
 omega
def au1{l:fH}(h:iU l)(n:i<l.n):iU (Sa l i):=by
 have m:=h.n;have f:=h.lt;unfold Sa;refine⟨h.has,by grind,λj=>?_,λa b k g c=>?_⟩
 ·show(if j=l.n-1 then 0 else if i<=j/\j<7 then l.wait (j+1)else l.wait j)<8
  grind
 ·have e:a<l.n-1:=k;have d:b<l.n-1:=g;simp only[ai,ac0 (show a≠l.n-1 by omega),ac0 (show b≠l.n-1 by omega)]at c;have key: ∀j,j<l.n-1->(if i<=j/\j<7 then l.wait (j+1)else l.wait j)=l.wait (if i<=j then j+1 else j):=by grind
  rw[key a e,key b d]at c;have:=h.inj _ _ (by grind) (by grind) c
  grind
def aiE{l:fH}(h:iU l)(aa:Nat):iU (xf l aa):=by
 unfold xf;split
 ·exact h
 ·rename_i i a;exact au1 h (aix a).1
def Tw{m:Marks}(a: ∀i,iU (m i))(aa:Nat): ∀i,iU (ry m aa i):=by
 intro i;unfold ry;split
 ·exact aiE (aiD (a i) aa) aa
 grind
def au2{m:Marks}(a: ∀i,iU (m i))(aa k:Nat): ∀i,iU (qe m aa k i):=by
 intro i;unfold qe;split
 ·exact Tw a aa i
 grind
def au3{m:Marks}(g: ∀i,iU (m i))(c:Nat): ∀i,iU ((jm m c aa).1 i):=by
 unfold jm;split
 ·omega
 rename_i h;obtain⟨v,p⟩:c<32/\aa<8:=by unfold jD at h;grind
 split
 ·omega
 split
 ·intro i;show iU (ai _ _ _ _);unfold ai;split
  ·have:=aiE (g c) aa;exact⟨by show aa+1<=8;omega,this.n,this.lt,this.inj⟩
  grind
 split
 ·rename_i f;intro i;show iU (ai _ _ _ _);unfold ai;split
  ·have w:=aiC (g c) p f;have k:=g c;have e: ∀j,j< (m c).n->(m c).wait j≠aa:=by
    intro j q he;unfold ru at f;rw[awO]at f;have:=f j (anc.2 q);simp at this;omega
   refine⟨k.has,by show(m c).n+1<=8;omega,λj=>?_,λa b u s l=>?_⟩
   ·show(if j=(m c).n then aa else(m c).wait j)<8;split
    ·exact p
    ·exact k.lt j
   ·have t:a< (m c).n+1:=u;have r:b< (m c).n+1:=s;have d: (if a=(m c).n then aa else(m c).wait a)=(if b=(m c).n then aa else(m c).wait b):=l;by_cases o:a=(m c).n<;>by_cases n:b=(m c).n
    ·omega
    ·rw[ac6 o,ac0 n]at d;exact absurd d.symm (e b (by omega))
    ·rw[ac0 o,ac6 n]at d;exact absurd d (e a (by omega))
    ·rw[ac0 o,ac0 n]at d;exact k.inj a b (by omega) (by omega) d
  ·exact g i
 omega
def au4(m:Marks)(z: ∀i,iU (m i))(aa:Nat)(y:aa<4294967296)(H:List ae)(lo:oN):
  D X0 (.fn (.func 133) [] []) [.agg (dc m),.int .i64 aa] ⟨H,lo⟩=some (.ret (.agg (dc (ry m aa))) ⟨H,lo⟩):=by
 refine aK PU λN E=>?_
 have x:o7.length=320:=by rfl
 have j:List.drop 320 o7=[]:=ahz (by rw[x];omega);have f: ∀m:Marks,List.take 320 (dc m)=dc m:=λm=>adz (by rw[eD];omega)
 have g: ∀m:Marks,List.drop 320 (dc m)=[]:=λm=>ahz (by rw[eD];omega)
 simp only[go_sem,simprocAttr,PU,E];refine fE 32 (λk e H'=>H'=H++[.box (dc (qe m aa k)) none,.box o7 none]/\e 1= .int .i64 aa/\e 2= .ptr N 0/\e 4= .ptr (N+1) 0/\e 6= .int .i64 k) 0 (by omega) ?_ ?_
 ·simp only[go_sem,simprocAttr];rfl
 rintro k G e H' ⟨rfl,w,v,u,t⟩ n F;simp(disch:=omega) only[cm,go_sem,simprocAttr,ad1,w,v,u,t];refine⟨λC=>?_,λC=>?_⟩
 ·have d:k<32:=by omega
  have h: (0:Int)<=k/\ (k:Int)<32:=by omega
  have r:k*10+10<=320:=by omega
  have a:=λH lo=>auX _ (au2 z aa k) k aa y H lo
  have b:=λH lo=>Tv k aa H lo
  have s:qe m aa k k=m k:=by unfold qe;rw[ac0 (by omega)]
  by_cases A:aa<8
  ·have c:jD k aa=true:=by unfold jD;simp;omega
   have B:=auY m A d;unfold Lo at a;rw[c,s,ac6 rfl]at a;rw[c]at b;have p:=λH lo=>aiB _ (aiD (z k) aa) aa y H lo
   have q: ∀ (m:Marks) (l:fH),aN (dc m) (k*10) (fJ l)=dc (ai m k l):=λm l=>Cb (o:=0) d (by rw[zM];omega) rfl
   simp(disch:=omega) only[go_sem,simprocAttr,w,v,u,t,b,a,h,r,↓xE d,p,q,bI,rh,eD,kj,zM,FE,f,g,agc];rw[B];exact⟨d,rfl⟩
  ·have c:jD k aa=false:=by unfold jD;simp;omega
   unfold Lo at a;rw[c,ac0 (by simp)]at a;rw[c]at b;simp only[au0 m _ A]at a⊢;simp(disch:=omega) only[go_sem,simprocAttr,w,v,u,t,b,a,h,eD,kj,f,g,agc];exact d
 ·obtain rfl:k=32:=by omega
  rw[auZ];simp(disch:=omega) only[F1,go_sem,simprocAttr,eD,kj,x,j,f]
noncomputable def FG:lA->AS->Option aU:=oi XB (D XB) Lw 166 JC
def Cc(args:lA)(E:AS):Option aU:=match args with
 | [.au,.int .i64 n]=>if n=0 then some (.ret .au E)else if 0<n/\n<=1024 then some (.ret (.ref E.heap.length 0 2 0 0 false) (E.push (.row 0 2 fF [])))else none
 |_=>none
noncomputable def XC:Ctx:={XB with cg:=λf=>if f=166 then some FG else if f=192 then some Cc else XB.cg f}
theorem Tx:Ext XB XC where
 dS:=rfl
 gu:=rfl
 code:=rfl
 cg:=λf=>by
  by_cases b:f=166
  ·subst b;exact .inr ⟨rfl,rfl⟩
  ·by_cases a:f=192
   ·subst a;exact .inr ⟨rfl,rfl⟩
   ·left;show(if f=166 then some FG else if f=192 then some Cc else XB.cg f)=XB.cg f
    grind
section
variable{v:AV}{args:lA}{E:AS}{r:aU}
def cB(h:D XB v args E=some r):D XC v args E=some r:=vG Tx h
def cX(h:D X v args E=some r):D XC v args E=some r:=vG Tx (lX h)
def c0(h:D X0 v args E=some r):D XC v args E=some r:=vG Tx (lz h)
end
def au5{X:Ctx}{f:FuncId}{p:lA->AS->Option aU}{args a:lA}{E:AS}{b:aU}(c:X.cg f=some p)(h:p (args++a) E=some b):D X (.fn (.func f) [] a) args E=some b:=by
 refine G7 ?_;simp only[Go.Den.step,c,agt];exact h
def Ty{s:aZ}(f:aV s)(l:gB c){a b:Nat}{H:List ae}(n:H[a]?=some (.box (bn s) none))(m:H[b]?=some (.box (bq c) none))(N:Nat)(o:H.length=N)(lo:oN):
  ∃v J aj,D XC (.fn (.func 166) [] [.ptr a 0,.ptr b 0]) [] ⟨H,lo⟩=some (.ret v ⟨H++J,aj⟩)/\aP N (H++J) v 1 cz ((under s.T c.r).map hC)/\ (aj=lo\/ ∃j,N<=j/\aj=cO lo j):=by
 suffices i: ∃d,FG [.ptr a 0,.ptr b 0] ⟨H,lo⟩=some d/\ (λd=> ∃v J aj,d=aU.ret v ⟨H++J,aj⟩/\aP N (H++J) v 1 cz ((under s.T c.r).map hC)/\ (aj=lo\/ ∃j,N<=j/\aj=cO lo j)) d by
  obtain⟨d,t,v,J,aj,rfl,q⟩:=i;exact⟨v,J,aj,au5 (p:=FG) rfl t,q⟩
 refine wv (X:=XB) JC rfl λM u=>?_
 obtain⟨v,J,aj,e,h,g⟩:=KI s.T f.T f.tr c.r l.r N H o none;have e:=lX e;simp only[go_sem,simprocAttr,JC,n,m,↓SL,gQ,e,si];refine⟨_,_,_,rfl,h,?_⟩;rcases g with rfl| ⟨j,k,rfl⟩
 ·exact .inl rfl
 ·exact .inr ⟨j,k,rfl⟩
def au6(n:Nat)(c:n<=1024)(H:List ae)(lo:oN):
  D XC (.fn (.func 192) [] []) [.au,.int .i64 n] ⟨H,lo⟩=some (.ret (if n=0 then .au else .ref H.length 0 2 0 0 false) ⟨H++(if n=0 then[]else[.row 0 2 fF []]),lo⟩):=by
 refine Df (p:=Cc) rfl ?_;unfold Cc;by_cases h:n=0
 ·grind
 ·have b: ¬((n:Nat):Int)=0:=by omega
  have a: (0:Int)<n/\ (n:Int)<=1024:=by omega
  simp only[ac0 h,ac0 b,ac6 a];rfl
abbrev VR:=AV×List aC
def fZ(l:List VR):List aC:=l.flatMap (·.2)
def zO(x:VR):lA:=[x.1]
def Lp{l:List VR}(h:k<l.length):fZ (l.take (k+1))=fZ (l.take k)++(l.getD k default).2:=by
 unfold fZ;rw[agn,aoV,aeN,ac7 h];simp
def au7{N:Nat}{H:List ae}{bytes:Nat}{ty:TypeId}(h:aP N H v sz ty af)(a:0<sz)(d:af.length*bytes<=room):dO ⟨H,lo⟩ ty sz bytes v []=some (v,⟨H,lo⟩):=by
 unfold dO;rw[ac6 ⟨a,rfl⟩];rcases h.2 with⟨rfl,_⟩| ⟨id,ak,c,rfl,b⟩
 ·rfl
 grind
def au8(l:List VR)(hl:l.length<=3)(Q: ∀x∈l,x.2.length<=64)(H:List ae)(S: ∀x∈l,Rd ⟨H,none⟩ x.1 2 (x.2.map aD))(lo:oN):
  D XC (.fn (.func 186) [] []) [.sl (l.map zO) true] ⟨H,lo⟩=some (.ret (eL (fZ l)) ⟨H,lo⟩):=by
 refine aK Qm λN Y=>?_
 have s:Rv (.sl (l.map zO) true) 1 (l.map zO):=.sl (by intro el d;obtain⟨x,_,rfl⟩:=aeO.1 d;rfl);have y: ∀k,(fZ (l.take k)).length<=64*k:=by
  intro k
  induction k with
  |zero=>simp[fZ]
  |succ k ih=>
   by_cases h:k<l.length
   ·rw[Lp h,aeG];have:=Q _ (fX h);omega
   ·rw[adz (by omega)];rw[adz (by omega)]at ih;omega
 generalize(AV.sl (l.map zO) true)=V at*;simp only[go_sem,simprocAttr,Qm,s.bZ];refine fE l.length (λk e H'=>H'=H/\e 0=V/\e 3= .int .i64 (fZ (l.take k)).length/\e 9=V/\e 10= .int .i64 l.length/\e 11= .int .i64 k) 0 (by omega) ?_ ?_
 ·simp only[go_sem,simprocAttr];rfl
 rintro k hk e H' ⟨rfl,h0,P,Z,B,A⟩ n hn;simp only[cm,go_sem,simprocAttr,aec,P,Z,B,A];refine⟨λM=>?_,λM=>?_⟩
 ·have a:k<l.length:=by omega
  have j:=(S _ (fX a)).bZ;have w:=y (k+1);have X:=y k;rw[Lp a,aeG]at w;have u: ((fZ (l.take k)).length:Int)+(l.getD k default).2.length=((fZ (l.take (k+1))).length:Nat):=by rw[Lp a,aeG];omega
  have J: ¬(((fZ (l.take (k+1))).length:Nat):Int)<0:=by omega
  have g: (zO (l.getD k default))[0]?=some (l.getD k default).1:=rfl;have U:=y (k+1);simp(disch:=omega) only[go_sem,simprocAttr,h0,P,Z,B,A,s.cn,s.cE,g,j,u,J];exact⟨by omega,a⟩
 ·obtain rfl:k=l.length:=by omega
  have c:fZ (l.take l.length)=fZ l:=by rw[aeQ]
  rw[c]at P;have O:=au6 (fZ l).length (by have:=y l.length;rw[c]at this;omega);simp only[go_sem,simprocAttr,c,h0,O,s.bZ];obtain⟨v0,t⟩: ∃v0,v0=(if(fZ l).length=0 then .au else AV.ref H'.length 0 2 0 0 false):=⟨_,rfl⟩;obtain⟨E,z⟩: ∃E,E=H'++(if(fZ l).length=0 then[]else[ae.row 0 2 fF []]):=⟨_,rfl⟩;rw[<-t,<-z];have G:aP N E v0 2 fF ([].map aD)/\ ((fZ l).length=0->v0= .au)/\H'<+:E:=by
   rw[t,z];by_cases h: (fZ l).length=0
   ·rw[ac6 h,ac6 h];exact⟨aP.au,λ_=>rfl,by simp⟩
   ·rw[ac0 h,ac0 h];exact⟨⟨by simp,.inr ⟨H'.length,0,by omega,rfl,by simp⟩⟩,λq=>absurd q h,aj8 _ _⟩
  refine fE l.length (λk e W=>(∃v,e 6=v/\aP N W v 2 fF ((fZ (l.take k)).map aD)/\ ((fZ l).length=0->v= .au))/\H'<+:W/\e 25=V/\e 26= .int .i64 l.length/\e 27= .int .i64 k) 0 (by omega) ?_ ?_
  ·simp only[go_sem,simprocAttr];exact⟨⟨_,rfl,G.1,G.2.1⟩,G.2.2⟩
  rintro k hk e W ⟨⟨v,h6,r,f⟩,b,p,o,m⟩ n hn;simp only[cm,F1,go_sem,simprocAttr,aeb,h6,p,o,m];refine⟨λM=>?_,λM=>?_⟩
  ·have a:k<l.length:=by omega
   have j:=Rd.mono (aj:=none) (S _ (fX a)) b;have g: (zO (l.getD k default))[0]?=some (l.getD k default).1:=rfl;have d:=j.eq;have w:=y k;have hzk:=Q _ (fX a);have C:=Lp a;simp(disch:=omega) only[go_sem,simprocAttr,h6,s.cn,s.cE,g,d];generalize AI: (l.getD k default).2=rr at*;by_cases R:rr=[]
   ·subst R;rw[agc]at C;rw[atZ,au7 r (by omega) (by rw[aeK];unfold room;omega)];simp(disch:=omega) only[go_sem,simprocAttr,p,o,m];rw[C];exact⟨by omega,a,⟨v,rfl,r,f⟩,b⟩
   ·have K: ¬(fZ l).length=0:=by
      intro q;have q2:fZ l=[]:=ajx.1 q;have:fZ l=fZ (l.take (k+1))++fZ (l.drop (k+1)):=by
       unfold fZ;rw[<-aoV,aoX]
      rw[C]at this;rw[q2]at this;simp[R]at this
    refine⟨by omega,?_⟩;refine qL (bytes:=16) (ys:=rr.map aD) r b Y (by omega) (by intro el d;obtain⟨x,_,rfl⟩:=aeO.1 d;rfl) (bL (λ_=>rfl) _) (by rw[aeK,aeK];unfold room;omega) λv' W2 F I=>?_
    simp(disch:=omega) only[go_sem,simprocAttr,p,o,m];rw[C,aeP];exact⟨a,⟨v',rfl,F,λq=>absurd q K⟩,I⟩
  ·obtain rfl:k=l.length:=by omega
   rw[c]at r;have T:=r.AJ (lo:=lo) (by rw[bL (λ_=>rfl)];omega);rw[uG]at T;rw[T];refine dp ?_ (lH Y λi hi=>?_)
   ·unfold eL;by_cases h: (fZ l).length=0
    ·rw[f h,ajx.1 h];rfl
    ·have h1: (fZ l).isEmpty=false:=by
       cases hq:fZ l with
       |nil=>rw[hq]at h;exact absurd rfl h
       |cons=>rfl
     rw[h1];rcases r.2 with⟨_,q⟩| ⟨id,ak,_,rfl,_⟩
     ·rw[apR]at q;rw[q]at h;exact absurd rfl h
     ·rfl
   ·obtain⟨L,rfl⟩:=b;rw[acj (by omega)]
def au9(x y:aC)(c:x.1+x.2<4294967296)(b:y.1+y.2<4294967296)(p:Nat)(H:List ae)(lo:oN)(d:H[p]?=some (.box (aD x) none)):
  D X0 (.fn (.func 185) [] [.ptr p 0]) [.agg (aD y)] ⟨H,lo⟩=some (.ret (.bool (holds y x)) ⟨H,lo⟩):=by
 refine fi Qk λN e=>?_
 have a: ∀L,(H++L)[p]?=some (.box (aD x) none):=λL=>bm d
 simp only[F1,go_sem,simprocAttr,Qk,e,a,af2 y x b c]
def ava(b:Rv v 2 (l.map aD))(d:l≠[]): ∃c,v= .sl (l.map aD) c:=by
 obtain⟨e,a,f⟩:=b ⟨[],none⟩;cases v<;>simp only[]at e
 ·simp only[Den.elems]at a;simp_all
 ·simp only[Den.elems]at a
  grind
 ·trivial
def avb(b: ∀el∈af,el.length=sz){c:Bool}(f:i<=af.length): ∃w,gE sz (.sl af c) none (some (.int .i64 i)) none=some w/\Rv w sz (af.take i):=by
 refine⟨.sl (af.take i) (c&&i==af.length),?_,.sl λel a=>b el (ahW a)⟩;have d:gT af.length none (some (.int .i64 i))=some (0,i):=by
  have e: (i:Int)<=af.length:=by omega
  simp[gT,lO,e]
 simp only[gE,d,lP]
 grind
def aiF(b: ∀el∈af,el.length=sz){c:Bool}(g:i<=af.length): ∃w,gE sz (.sl af c) (some (.int .i64 i)) none none=some w/\Rv w sz (af.drop i):=by
 refine⟨.sl (af.drop i) (c&&af.length==af.length),?_,.sl λel a=>b el (ao1 a)⟩;have d:gT af.length (some (.int .i64 i)) none=some (i,af.length):=by
  have f: (i:Int)<=af.length:=by omega
  simp[gT,lO,f]
 have e:af.all (λel=>el.length==sz)=true:=by grind
 simp only[gE,d,lP];rw[ac6 e,adz (by simp)]
def aiG(l:List aC): ∀el∈l.map aD,el.length=2:=by intro el a;obtain⟨x,_,rfl⟩:=aeO.1 a;rfl
def Tz(v:AV)(l:List aC)(x:aC):AV:=match mT l x with
 |some a=>.aA [.agg [eL a],.bool true]
 |none=>.aA [.agg [v],.bool false]
def rK{E:AS}(h:Rd E v sz af):v.cx=false/\v.cells=[v]:=by
 have a:=h.kind;cases v<;>simp only[]at a<;>exact⟨rfl,rfl⟩
def avc(v:AV)(l:List aC)(E:Rv v 2 (l.map aD))(G:BP l)(x:aC)(Sk:x.1<4294967296)(Sl:x.2<4294967296)(H:List ae)(lo:oN):
  D XC (.fn (.func 174) [] []) [.agg [v],.int .i64 (x.1:Nat),.int .i64 (x.2:Nat)] ⟨H,lo⟩=some (.ret (Tz v l x) ⟨H,lo⟩):=by
 refine aK EE λN p=>?_
 have hm:=λH lo=>c0 (Sf x Sk Sl H lo)
 have hr:aD x=[.int .i64 (x.1:Nat),.int .i64 (x.2:Nat)]:=rfl;rw[hr]at hm;have F:v.refs=0:=dy E (bL (λ_=>rfl) l);unfold Tz;cases f:ke x with
 |false=>
  have e0:mT l x=none:=by unfold mT;rw[ac6 f]
  rw[e0];rw[f]at hm;simp only[F1,go_sem,simprocAttr,EE,p,hm,F]
 |true=>
  rw[f]at hm;have hx:1<=x.2/\x.1+x.2<=64:=by simpa[ke]using f
  have d:=λH lo h=>c0 (afX v (.fn (.func 185) [] [.ptr (N+2) 0]) l E (by have:=G.1;omega) (λy=>holds y x) H lo h)
  have d:=d (H++[.box [v] none,.box [.au] none,.box (aD x) none]) none (λy Z=>au9 x y (by omega) (by have:=G.2 y Z;omega) (N+2) _ none (by rw[bM p];rfl));rw[hr]at d;have e1:mT l x=match l.findIdx? λy=>holds y x with
   |none=>none
   |some i=>some (l.take i++((if(l.getD i (0,0)).1<x.1 then[((l.getD i (0,0)).1,x.1- (l.getD i (0,0)).1)]else[])++(if x.1+x.2< (l.getD i (0,0)).1+(l.getD i (0,0)).2 then[(x.1+x.2,(l.getD i (0,0)).1+(l.getD i (0,0)).2- (x.1+x.2))]else[]))++l.drop (i+1)):=by
   unfold mT;rw[ac0 (by rw[f];simp)];rfl
  rw[e1];unfold kO at d;cases hi:l.findIdx? (λy=>holds y x)with
  |none=>
   rw[hi]at d;simp only at d;simp only[F1,go_sem,simprocAttr,EE,p,hm,d,F]
  |some i=>
   rw[hi]at d;simp only at d⊢;have I:i<l.length:=by
    obtain⟨h,_⟩:=apD.1 hi;exact h
   have hi0: ¬((i:Nat):Int)<0:=by omega
   have HH:=G.1;have Lq:=λl=>dy (nh l) (bL (g:=aD) (λ_=>rfl) l)
   have jd:l.getD i (0,0)=l.getD i default:=rfl;rw[jd];have hyb:=G.2 _ (fX I);have aBN:=E.cn (k:=.i64) (a:=i);obtain⟨c,hvc⟩:=ava E (by rintro rfl;simp at I);obtain⟨w1,s1,U⟩:=avb (c:=c) (aiG l) (i:=i) (by rw[aeK];omega);obtain⟨R,s2,T⟩:=aiF (c:=c) (aiG l) (i:=i+1) (by rw[aeK];omega);rw[<-hvc]at s1 s2;rw[<-List.map_take]at U;rw[<-List.map_drop]at T;generalize Z:l.getD i default=y at*;obtain⟨B,hB⟩: ∃B:List ae,B=[.box [v] none,.box [.au] none,.box (aD x) none,.box (aD y) none]:=⟨_,rfl⟩;have O: (H++B).length=N+4:=by rw[hB];simp[p]
   have iJ: ∀W,(H++B)<+:W->W[N]?=some (.box [v] none)/\W[N+1]?=some (.box [.au] none)/\W[N+2]?=some (.box (aD x) none)/\W[N+3]?=some (.box (aD y) none):=by
    rintro W ⟨L,rfl⟩;rw[hB,ac8];refine⟨by rw[dB p];rfl,by rw[bM p];rfl,by rw[bM p];rfl,by rw[bM p];rfl⟩
   have C4: (aD x)[0]?=some (.int .i64 x.1):=rfl;have C6: (aD y)[0]?=some (.int .i64 y.1):=rfl;have hex:=λH lo=>c0 (BO x (by omega) H lo)
   have J:=λH lo=>c0 (BO y (by omega) H lo)
   have tx:List.take 2 (aD x)=aD x:=rfl;have ty:List.take 2 (aD y)=aD y:=rfl;have dz: ∀r:aC,List.drop 2 (aD r)=[]:=λ_=>rfl
   have lx: ∀r:aC,(aD r).length=2:=λ_=>rfl
   have bl: ∀a b:Nat,[AV.int .i64 (a:Int),AV.int .i64 (b:Int)]=aD (a,b):=λ_ _=>rfl
   simp(disch:=omega) only[go_sem,simprocAttr,EE,p,hm,d,hi0,E.cn,E.cE,Z,lx];refine⟨by omega,?_⟩;refine ZW (λe W aj=>aj=none/\ (H++B)<+:W/\aP (N+4) W (e 12) 2 fF ((if y.1<x.1 then[(y.1,x.1-y.1)]else[]).map aD)/\e 3= .ptr N 0/\e 6= .ptr (N+1) 0/\e 8= .ptr (N+2) 0/\e 10= .int .i64 i/\e 11= .ptr (N+3) 0) ?_ ?_
   ·simp(disch:=omega) only[cm,go_sem,simprocAttr];refine⟨λa=>?_,λa=>?_⟩
    ·have V: (x.1:Int)-y.1=((x.1-y.1:Nat):Int):=by omega
     simp only[go_sem,simprocAttr,V];refine qL (N:=N+4) (H0:=H++B) (af:=[]) (bytes:=16) (ys:=[aD (y.1,x.1-y.1)]) aP.au (by rw[hB];exact arK) O (by omega) (by intro el t;rw[aeH.1 t];rfl) rfl (by simp[room]) λv' W2 Y X=>?_
     simp only[go_sem,simprocAttr,Hl];rw[ac6 (by omega)];exact⟨X,Y⟩
    ·simp only[go_sem,simprocAttr,Hl];rw[ac0 (by omega)];exact⟨by rw[hB];exact arK,aP.au⟩
   ·rintro e W aj ⟨rfl,s,q,e3,e6,e8,n,m⟩;obtain⟨C,M⟩: ∃C,C=(if y.1<x.1 then[(y.1,x.1-y.1)]else[]):=⟨_,rfl⟩;have aBO:C.length<=1:=by rw[M];split<;>simp
    rw[<-M]at q⊢;obtain⟨g0,g1,g2,Q⟩:=iJ W s;simp only[go_sem,simprocAttr,g2,Q,e8,m,hex,J];refine ZW (λe W aj=>aj=none/\ (H++B)<+:W/\aP (N+4) W (e 12) 2 fF ((C++(if x.1+x.2<y.1+y.2 then[(x.1+x.2,y.1+y.2- (x.1+x.2))]else[])).map aD)/\e 3= .ptr N 0/\e 6= .ptr (N+1) 0/\e 8= .ptr (N+2) 0/\e 10= .int .i64 i/\e 11= .ptr (N+3) 0) ?_ ?_
    ·simp only[cm,go_sem,simprocAttr];refine⟨λa=>?_,λa=>?_⟩
     ·have V: (y.1:Int)+y.2- ((x.1:Int)+x.2)=((y.1+y.2- (x.1+x.2):Nat):Int):=by omega
      have q2: (x.1:Int)+x.2=((x.1+x.2:Nat):Int):=by omega
      simp(disch:=omega) only[go_sem,simprocAttr,g2,Q,e8,m,hex,J,V];rw[q2];refine qL (H0:=H++B) (bytes:=16) (ys:=[aD (x.1+x.2,y.1+y.2- (x.1+x.2))]) q s O (by omega) (by intro el t;rw[aeH.1 t];rfl) rfl (by rw[aeK];simp[room];omega) λv' W2 Y X=>?_
      simp only[go_sem,simprocAttr,Hl,e3,e6,e8,n,m];rw[ac6 (by omega),aeP];exact⟨X,Y⟩
     ·simp only[go_sem,simprocAttr,Hl,e3,e6,e8,n,m];rw[ac0 (by omega),agc];exact⟨s,q⟩
    ·clear g0 g1 g2 Q s q e3 e6 e8 n m e W;rintro e W aj ⟨rfl,s,q,e3,e6,e8,n,m⟩;obtain⟨P,A⟩: ∃P,P=C++(if x.1+x.2<y.1+y.2 then[(x.1+x.2,y.1+y.2- (x.1+x.2))]else[]):=⟨_,rfl⟩;have aBP:P.length<=2:=by rw[A];split<;>simp<;>omega
     rw[<-A]at q;generalize hw:e 12=w at*;obtain⟨g0,g1,g2,Q⟩:=iJ W s;have u:=λlo=>au8 [(w1,l.take i),(w,P),(R,l.drop (i+1))] (by simp) (by have:=G.1;simp;omega) W (by
      intro z hz;simp only[aeZ,aAB,or_false]at hz;rcases hz with rfl|rfl|rfl
      ·exact U _
      ·exact q.rd
      ·exact T _) lo
     have K:fZ [(w1,l.take i),(w,P),(R,l.drop (i+1))]=l.take i++(C++((if x.1+x.2<y.1+y.2 then[(x.1+x.2,y.1+y.2- (x.1+x.2))]else[])++l.drop (i+1))):=by simp[fZ,A]
     rw[K]at u;generalize(l.take i++(C++((if x.1+x.2<y.1+y.2 then[(x.1+x.2,y.1+y.2- (x.1+x.2))]else[])++l.drop (i+1))))=LL at*;obtain⟨t7,t8⟩:=rK (nh LL ⟨[],none⟩);have oA:W.take N=H:=lH p λj hj=>by
      obtain⟨L,rfl⟩:=s;rw[ac8,acj (by omega)]
     have uE: ∀o,(W.set (N+1) o).take N=H:=λo=>by rw[apN (by omega),oA]
     simp only[aj9,atZ,zO]at u;obtain⟨t1,t2⟩:=rK (U ⟨[],none⟩);obtain⟨t3,t4⟩:=rK (T ⟨[],none⟩);obtain⟨t5,t6⟩:=rK (q.rd (lo:=none));have S:gE 2 v (some (.int .i64 ((i:Int)+1))) none none=some R:=s2;simp(disch:=omega) only[F1,go_sem,simprocAttr,g0,g1,e3,e6,n,hw,s1,S,t1,t2,t3,t4,t5,t6,t7,t8,cZ g1,uE,u,Lq]
abbrev ub(a b:aC):Prop:=a.1+a.2<b.1
structure dN(l:List aC):Prop where
 pw:l.Pairwise ub
 bd: ∀x∈l,1<=x.2/\x.1+x.2<=64
def dN.ok(h:dN l):BP l:=by
 refine⟨?_,λx c=>(h.bd x c).2⟩;have f: (l.map (·.1)).Nodup:=by
  rw[awK,aBn];refine h.pw.imp λ {a b} d he=>?_
  omega
 have:=K8 64 _ f (by
  intro a e;obtain⟨x,c,rfl⟩:=aeO.1 e;have:=h.bd x c;omega)
 grind
def dN.nil:dN []:=⟨.nil,by simp⟩
def dN.app{a b:List aC}(e:dN a)(d:dN b)(c: ∀x∈a,∀y∈b,ub x y):dN (a++b):=
 ⟨aoS.2 ⟨e.pw,d.pw,c⟩,λx f=>(adB.1 f).elim (e.bd x) (d.bd x)⟩
def dN.one{x:aC}(c:1<=x.2)(b:x.1+x.2<=64):dN [x]:=⟨List.pairwise_singleton _ _,λy a=>by grind⟩
def avf: ∀ (l:List aC) (x:aC) (put:Bool) (out k:List aC),1<=x.2->x.1+x.2<=64->dN l->dN out->(∀a∈out,∀b∈l,ub a b)->(put=false-> ∀a∈out,ub a x)->(put=true-> ∀b∈l,ub x b)->
  gJ x put out l=some k->dN k:=by
 intro l
 induction l with
 |nil=>
  intro x put out k s r _ ho _ p _ h;unfold gJ at h;cases h;cases put with
  |true=>grind
  |false=>exact ho.app (dN.one s r) λa d b e=>by rw[aeH.1 e];exact p rfl a d
 |cons y ys t=>
  intro x put out k s r A ho j p w h;have i:=amI.1 A.pw;have g:dN ys:=⟨i.2,λz B=>A.bd z (aeR _ B)⟩;have u:=A.bd y (aeX ..);have m: ∀a∈out,ub a y:=λa d=>j a d y (aeX ..)
  unfold gJ at h;split at h
  ·rename_i c;refine t x put (out++[y]) k s r g (ho.app (dN.one u.1 u.2) λa d b e=>by rw[aeH.1 e];exact m a d) ?_ ?_ (λq b e=>w q b (aeR _ e)) h
   ·intro a d b e;rcases adB.1 d with d|d
    ·exact j a d b (aeR _ e)
    ·rw[aeH.1 d];exact i.1 b e
   ·intro q a d;rcases adB.1 d with d|d
    ·exact p q a d
    ·rw[aeH.1 d];exact c
  ·split at h
   ·rename_i c;have v:dN (out++(if put then[]else[x])):=by
     cases put with
     |true=>simpa using ho
     |false=>
      refine ho.app (dN.one s r) λa d b e=>?_
      have:b=x:=by simpa using e
      rw[this];exact p rfl a d
    have o: ∀a∈out++(if put then[]else[x]),ub a y:=by
     intro a d;rcases adB.1 d with d|d
     ·exact m a d
     ·cases put with
      |true=>simp at d
      |false=>
       have:a=x:=by simpa using d
       rw[this];exact c
    refine t x true (out++(if put then[]else[x])++[y]) k s r g (v.app (dN.one u.1 u.2) λa d b e=>by rw[aeH.1 e];exact o a d) ?_ (λq=>by cases q) ?_ h
    ·intro a d b e;have n:ub y b:=i.1 b e;rcases adB.1 d with d|d
     ·have:=o a d;have D:y.1+y.2<b.1:=n;have C:a.1+a.2<y.1:=this;show a.1+a.2<b.1;omega
     ·rw[aeH.1 d];exact n
    ·intro _ b e;have D:y.1+y.2<b.1:=i.1 b e;have C:x.1+x.2<y.1:=c;show x.1+x.2<b.1;omega
   ·split at h
    ·rename_i G F E;have f:put=false:=by
      cases put with
      |false=>rfl
      |true=>
       have:x.1+x.2<y.1:=w rfl y (aeX ..);omega
     refine t (y.1,y.2+x.2) put out k (by show 1<=y.2+x.2;omega) (by show y.1+(y.2+x.2)<=64;omega) g ho (λa d b e=>j a d b (aeR _ e)) (λ_ a d=>m a d) (λq=>by rw[f]at q;cases q) h
    ·split at h
     ·rename_i G F E H;have f:put=false:=by
       cases put with
       |false=>rfl
       |true=>
        have:x.1+x.2<y.1:=w rfl y (aeX ..);omega
      refine t (x.1,x.2+y.2) put out k (by show 1<=x.2+y.2;omega) (by show x.1+(x.2+y.2)<=64;omega) g ho (λa d b e=>j a d b (aeR _ e)) (λq a d=>p q a d) (λq=>by rw[f]at q;cases q) h
     ·cases h
theorem dN.gL{a:List aC}{x:aC}(h:dN l)(b:gL l x=some a):dN a:=by
 unfold Go.Proofs.YteplichagkpciaaGreatDoor.gL at b;split at b
 ·rename_i hm;have c:1<=x.2/\x.1+x.2<=64:=by simpa[ke]using hm
  exact avf l x false [] a c.1 c.2 h dN.nil (by simp) (λ_=>by simp) (λq=>by cases q) b
 grind
theorem dN.take{s:List aC}{x:aC}(h:dN l)(j:mT l x=some s):dN s:=by
 unfold mT at j;split at j
 ·cases j
 rename_i hm;have J:1<=x.2/\x.1+x.2<=64:=by simpa[ke]using hm
 split at j
 ·cases j
 rename_i i E;cases j;obtain⟨m,g,_⟩:=apD.1 E;have p:l.getD i (0,0)=l[i]:=by simp[aeN,ac7 m]
 rw[p];have d:l=l.take i++(l[i]::l.drop (i+1)):=by rw[<-anh m,aoX]
 generalize I:l[i]=y at*;generalize l.take i=A at*;generalize l.drop (i+1)=B at*;have k:=h.pw;have e:=h.bd;rw[d]at k e;obtain⟨w,v,r⟩:=aoS.1 k;obtain⟨u,t⟩:=amI.1 v;have C:=e y (by simp);have F:x=y\/ (y.1<=x.1/\x.1+x.2<=y.1+y.2):=by simpa using g
 have D:y.1<=x.1/\x.1+x.2<=y.1+y.2:=by
  rcases F with rfl|q
  ·exact⟨adA _,adA _⟩
  ·exact q
 have H:dN A:=⟨w,λz o=>e z (by simp[o])⟩;have hB:dN B:=⟨t,λz o=>e z (by simp[o])⟩;have G:dN ((if y.1<x.1 then[(y.1,x.1-y.1)]else[])++(if x.1+x.2<y.1+y.2 then[(x.1+x.2,y.1+y.2- (x.1+x.2))]else[])):=by
  refine dN.app ?_ ?_ ?_
  ·split
   ·exact dN.one (by show 1<=x.1-y.1;omega) (by show y.1+(x.1-y.1)<=64;omega)
   ·exact dN.nil
  ·split
   ·exact dN.one (by show 1<=y.1+y.2- (x.1+x.2);omega) (by show x.1+x.2+(y.1+y.2- (x.1+x.2))<=64;omega)
   ·exact dN.nil
  ·intro a c b f;split at c<;>split at f<;>simp at c f;rw[c,f];show y.1+(x.1-y.1)<x.1+x.2;omega
 have n: ∀a∈((if y.1<x.1 then[(y.1,x.1-y.1)]else[])++(if x.1+x.2<y.1+y.2 then[(x.1+x.2,y.1+y.2- (x.1+x.2))]else[])),y.1<=a.1/\a.1+a.2<=y.1+y.2:=by
  intro a c;rcases adB.1 c with c|c
  ·split at c
   ·rw[aeH.1 c];exact⟨adA _,by show y.1+(x.1-y.1)<=_;omega⟩
   ·cases c
  ·split at c
   ·rw[aeH.1 c];exact⟨by show y.1<=x.1+x.2;omega,by show x.1+x.2+(y.1+y.2- (x.1+x.2))<=_;omega⟩
   ·cases c
 refine(H.app G λa c b f=>?_).app hB λa c b f=>?_
 ·have L:a.1+a.2<y.1:=r a c y (by simp);have:=n b f;show a.1+a.2<b.1;omega
 ·have K:y.1+y.2<b.1:=u b f;rcases adB.1 c with c|c
  ·exact r a c b (by simp[f])
  ·have:=n a c;show a.1+a.2<b.1;omega
def qf(f:Nat->Nat):lA:=arr 32 λj=>[.int .u8 (f j)]
theorem TA(f:Nat->Nat): (qf f).length=32:=by rfl
def oF(p:cJ):AV:=if p.free.isEmpty then .au else .sl (p.free.map aD) p.cK
def Cd(p:cJ):Rv (oF p) 2 (p.free.map aD):=by
 unfold oF;split
 ·rename_i h;rw[aBx.1 h];exact .au
 ·exact .sl (by intro el h;obtain⟨x,_,rfl⟩:=aeO.1 h;rfl)
def cw(p:cJ):lA:=[.int .i64 p.n,oF p]++arr 64 λi=>qf (p.bytes i)
def xF(p:cJ): (cw p).length=2050:=by
 unfold cw;rw[aeG,BE (k:=32) (λi=>TA (p.bytes i))];rfl
structure fK(p:cJ):Prop where
 n:p.n<=64
 free:dN p.free
 bytes: ∀i j,p.bytes i j<256
theorem TB{p:cJ}:Den.part false 1 (cw p) 0=some (.int .i64 p.n):=rfl
def zP{p:cJ}:Den.part true 1 (cw p) 1=some (.agg [oF p]):=by
 unfold cw;rw[ri (by simp) (by omega)];rfl
def avg{p:cJ}{j:Nat}(b:i<64)(a:j<32):Den.part false 1 (cw p) (2+i*32+j)=some (.int .u8 (p.bytes i j)):=by
 unfold cw;rw[jh (by grind),show 2+i*32+j- [AV.int .i64 p.n,oF p].length=i*32+j by grind,lq (k:=32) (f:=λi=>qf (p.bytes i)) (λi=>TA _) b (by omega) (by omega)];have:=lq (ag:=false) (m:=1) (n:=32) (k:=1) (i:=j) (o:=0) (f:=λj=>[AV.int .u8 (p.bytes i j)]) (λ_=>rfl) a (by omega) (by omega);rw[Nat.mul_one,aeS]at this;exact this
theorem aiH{p:cJ}{l:List aC}:aN (cw p) 1 [eL l]=cw {p with free:=l,cK:=false}:=by rfl
theorem aiI{p:cJ}:aN (cw p) 1 [oF p]=cw p:=by rfl
def aiJ{p:cJ}{o:Nat}{vs:lA}{f:Nat->Nat}(a:i<64)(ho:o+vs.length<=32)(b:aN (qf (p.bytes i)) o vs=qf f):aN (cw p) (2+i*32+o) vs=cw {p with bytes:=ai p.bytes i f}:=by
 unfold cw;rw[ij (by grind),show 2+i*32+o- [AV.int .i64 p.n,oF p].length=i*32+o by grind,ov (k:=32) (f:=λi=>qf (p.bytes i)) (λi=>TA _) a ho,b,pC qf];rfl
def avh{p:cJ}{j v:Nat}(b:i<64)(a:j<32):aN (cw p) (2+i*32+j) [.int .u8 v]=cw {p with bytes:=ai p.bytes i (ai (p.bytes i) j v)}:=by
 refine aiJ b (by grind) ?_;unfold qf;have:=ov (n:=32) (k:=1) (i:=j) (o:=0) (vs:=[AV.int .u8 v]) (f:=λj=>[AV.int .u8 (p.bytes i j)]) (λ_=>rfl) a (by simp);rw[Nat.mul_one,aeS]at this;rw[this];have e:aN [AV.int .u8 (p.bytes i j)] 0 [AV.int .u8 v]=[AV.int .u8 v]:=rfl;rw[e,pC (λx:Nat=>[AV.int .u8 x])]
def avi{p:cJ}{H:List ae}(a:i<64)(h:H[q]?=some (.box (cw p) none)):
  rT ⟨H,lo⟩ [.int .u8 0] (.fC q 1 (2+i*32) 32)=some ⟨H.set q (.box (cw {p with bytes:=ai p.bytes i λ_=>0}) none),lo⟩:=by
 have e:aN (cw p) (2+i*32) (List.replicate 32 [AV.int .u8 0]).flatten=cw {p with bytes:=ai p.bytes i λ_=>0}:=by
  have:=aiJ (p:=p) (i:=i) (o:=0) (vs:=(List.replicate 32 [AV.int .u8 0]).flatten) (f:=λ_=>0) a (by decide) (by rfl);omega
 simp only[rT,h,AS.set];rw[ac6 ⟨rfl,by rw[xF];omega,rfl⟩,e];simp
def aiK{X:Ctx}{n id off:Nat}:qs X n sz (.ptr id off) none none=some (.fC id sz off n):=by
 simp[qs,gT,lO]
def avj{p:cJ}{H:List ae}(c:i<64)(h:H[q]?=some (.box (cw p) none))(lo:oN):
  D X0 (.fn (.func 175) [] []) [.ptr q (2+i*32)] ⟨H,lo⟩=some (.ret (.aA []) ⟨H.set q (.box (cw {p with bytes:=ai p.bytes i λ_=>0}) none),lo⟩):=by
 refine aK Qd λN d=>?_
 have b:=λlo=>avi (lo:=lo) c h
 have a: ∀o,(H.set q o).take N=H.set q o:=λo=>adz (by grind)
 simp only[F1,go_sem,simprocAttr,Qd,aiK,b,a]
theorem vT{o:Nat}:eI .ptr (.ptr q o) .fN=some false:=rfl
def TC{p:cJ}(k:fK p){H:List ae}(m:i<2147483648)(h:H[q]?=some (.box (cw p) none)){fv:AV}{H':List ae}(r:H'.length=H.length)
  (n:gx p i=0->i<64->D X0 fv [.ptr q (2+i*32)] ⟨H,none⟩=some (.ret (.aA []) ⟨H',none⟩)) (lo:oN):
  D X0 (.fn (.func 118) [] []) [.ptr q 0,.int .i64 i,fv] ⟨H,lo⟩=some (.ret (.int .i64 (gx p i)) ⟨if gx p i=0 then H' else H,lo⟩):=by
 have ho:Old q H (.box (cw p) none):=⟨h⟩;refine aK Ey λN s=>?_
 have o:=k.n;have c: ¬((i:Nat):Int)<0:=by omega
 have a:=aq1 (oF p) p.free (Cd _) k.free.ok i m;have f:KA p.free i=Fb p.free i:=rfl;rw[f]at a;by_cases l:p.n<=i
 ·have b: (i:Int)>=p.n:=by omega
  have d:gx p i=2:=by unfold gx;grind
  rw[d];simp(disch:=omega) only[F1,go_sem,simprocAttr,Ey,vT,c,h,↓TB,b]
 ·have b: ¬(i:Int)>=p.n:=by omega
  cases g:Fb p.free i with
  |true=>
   rw[g]at a;have d:gx p i=12:=by unfold gx;rw[ac0 l,ac6 g]
   rw[d];simp(disch:=omega) only[F1,go_sem,simprocAttr,Ey,vT,c,h,↓TB,↓zP,b,a]
  |false=>
   rw[g]at a;have d:gx p i=0:=by unfold gx;rw[ac0 l,g];rfl
   rw[d];have j:=n d (by omega);have e: (0:Int)<=i/\ (i:Int)<64:=by omega
   simp(disch:=omega) only[F1,go_sem,simprocAttr,Ey,vT,c,h,↓TB,↓zP,b,a,e,j]
theorem FH{E:AS}{o:Nat}:sd E (.ptr i o) tg=some (.ptr E.heap.length 0,E.push (.box [.ptr i o] tg)):=rfl
theorem aiL{E:AS}{f:Fn}{bs cs:lA}:sd E (.fn f bs cs) tg=some (.ptr E.heap.length 0,E.push (.box [.fn f bs cs] tg)):=rfl
theorem aiM(n:Nat): ((n:Nat):Int).tdiv 32=((n/32:Nat):Int):=by rfl
theorem avk(n:Nat): ((n:Nat):Int).tmod 32=((n % 32:Nat):Int):=by rfl
section
variable{p:cJ}(hp:fK p){i q:Nat}{H:List ae}(h:H[q]?=some (.box (cw p) none))(lo:oN)
include hp h
theorem avl(e:i<2147483648):D X0 (.fn (.func 155) [] []) [.ptr q 0,.int .i64 i] ⟨H,lo⟩=some (.ret (.int .i64 (gx p i)) ⟨H.set q (.box (cw (ny p i)) none),lo⟩):=by
 have ho:Old q H (.box (cw p) none):=⟨h⟩;refine aK Jy λN g=>?_
 have a:=λlo=>TC hp e h (fv:=.fn (.func 175) [] []) (H':=H.set q (.box (cw (ny p i)) none)) (by simp) (λd c=>by
  rw[avj c h];unfold ny;grind) lo
 have b: ∀o,(H.set q o).take N=H.set q o:=λo=>adz (by grind)
 by_cases d:gx p i=0
 ·rw[d]at a;simp only[F1,go_sem,simprocAttr,Jy,a,b]
  grind
 ·simp only[ac0 d]at a;have f:ny p i=p:=by unfold ny;grind
  rw[f,pY h];simp(disch:=omega) only[F1,go_sem,simprocAttr,Jy,a]
theorem avm(t:i<64){a b:Nat}(r:H[a]?=some (.box [.ptr q 0] none))(n:H[b]?=some (.box [.int .i64 i] none))(v:AV):
  D X0 (.fn (.func 119) [] [.ptr a 0,.ptr b 0]) [v] ⟨H,lo⟩=some (.ret (.aA []) ⟨H.set q (.box (cw (BM p i)) none),lo⟩):=by
 refine fi Jq λN s=>?_
 have f: ∀H lo,D X0 (.fn (.func 120) [] []) [.agg [oF p],.int .i64 i,.int .i64 1] ⟨H,lo⟩=some (.ret (pV (oF p) p.free (i,1)) ⟨H,lo⟩):=λH lo=>af7 (oF p) p.free (Cd _) hp.free.ok (i,1) (by omega) (by simp) H lo
 have c: ∀o,(H.set q o).take N=H.set q o:=λo=>adz (by grind)
 unfold pV at f;have j:= @aiH p;have d:= @aiI p;have k:=λl=>dy (nh l) (bL (g:=aD) (λ_=>rfl) l)
 have m:=dy (Cd p) (bL (g:=aD) (λ_=>rfl) _);unfold BM;cases e:gL p.free (i,1)with
 |some l=>
  simp only[e]at f⊢;simp only[F1,go_sem,simprocAttr,Jq,s,r,n,h,↓zP,f,j,c,xF,k]
 |none=>
  simp only[e]at f⊢;simp only[F1,go_sem,simprocAttr,Jq,s,r,n,h,↓zP,f,d,c,xF,m]
theorem avn(g:i<2147483648):D X0 (.fn (.func 93) [] []) [.ptr q 0,.int .i64 i] ⟨H,lo⟩=some (.ret (.int .i64 (gx p i)) ⟨H.set q (.box (cw (mc p i)) none),lo⟩):=by
 have ho:Old q H (.box (cw p) none):=⟨h⟩;refine aK Jm λN e=>?_
 have f:q<N:=by grind
 obtain⟨B,hB⟩: ∃B:List ae,B=[.box [.ptr q 0] none,.box [.int .i64 i] none]:=⟨_,rfl⟩;have a:=λlo=>TC hp g (bm (L:=B) h) (fv:=.fn (.func 119) [] [.ptr N 0,.ptr (N+1) 0]) (H':=(H++B).set q (.box (cw (mc p i)) none)) (by simp) (λc d=>by
  rw[avm hp (bm (L:=B) h) none d (by grind) (by grind)];unfold mc;grind) lo
 have b: ∀o,((H++B).set q o).take N=H.set q o:=λo=>by grind
 rw[hB]at a b;by_cases c:gx p i=0
 ·rw[c]at a;simp only[ae4]at a;simp only[F1,go_sem,simprocAttr,Jm,FH,e,a,b];rw[c];rfl
 ·simp only[ac0 c]at a;have j:mc p i=p:=by unfold mc;rw[ac0 c]
  rw[j,pY h];simp only[F1,go_sem,simprocAttr,Jm,FH,e,a]
theorem aiN{at':Nat}(r:at'<68719476736){f:Fn}{cs:lA}{H':List ae}(o:H'.length=H.length)
  (m: ∀L,gx p (at'/32)=0->at'/32<64->D X0 (.fn f [] cs) [.ptr q (2+at'/32*32+at' % 32)] ⟨H++L,none⟩=some (.ret (.aA []) ⟨H'++L,none⟩)):
  D X0 (.fn (.func 178) [] []) [.ptr q 0,.int .i64 at',.fn f [] cs] ⟨H,lo⟩=some (.ret (.int .i64 (gx p (at'/32))) ⟨if gx p (at'/32)=0 then H' else H,lo⟩):=by
 have ho:Old q H (.box (cw p) none):=⟨h⟩;refine aK JI λN g=>?_
 have l:q<N:=by rw[<-g];exact ho.lt
 have n:H'.length=N:=by omega
 have e:gx p (at'/32)=0->at'/32<64->D X0 (.fn (.func 187) [] [.ptr (N+1) 0,.ptr N 0]) [.ptr q (2+at'/32*32)] ⟨H++[.box [.int .i64 at'] none,.box [.fn f [] cs] none],none⟩=some (.ret (.aA []) ⟨H'++[.box [.int .i64 at'] none,.box [.fn f [] cs] none],none⟩):=by
  intro b j;refine fi Qn λM k=>?_
  have d:=m [.box [.int .i64 at'] none,.box [.fn f [] cs] none] b j;simp(disch:=omega) only[F1,go_sem,simprocAttr,Qn,avk,k,d];exact⟨by omega,dp rfl (adz (by simp at k⊢;omega))⟩
 have a:=λlo=>TC hp (i:=at'/32) (by omega) (bm (L:=[.box [.int .i64 at'] none,.box [.fn f [] cs] none]) h) (H':=H'++[.box [.int .i64 at'] none,.box [.fn f [] cs] none]) (by simp;omega) e lo
 have c: ¬((at':Nat):Int)<0:=by omega
 by_cases b:gx p (at'/32)=0
 ·rw[b]at a;simp only[ae4]at a;simp(disch:=omega) only[F1,go_sem,simprocAttr,JI,aiL,vT,aiM,g,c,a];rw[b,ac6 rfl];rfl
 ·simp only[ac0 b]at a;simp(disch:=omega) only[F1,go_sem,simprocAttr,JI,aiL,vT,aiM,g,c,a];rw[ac0 b]
theorem avo{at':Nat}(k:at'<68719476736):D X0 (.fn (.func 161) [] []) [.ptr q 0,.int .i64 at'] ⟨H,lo⟩=some (.ret (.aA [.int .u8 (rA p at'),.int .i64 (gx p (at'/32))]) ⟨H,lo⟩):=by
 have ho:Old q H (.box (cw p) none):=⟨h⟩;refine aK JA λN d=>?_
 have g:q<N:=by grind
 have a:=λlo=>aiN hp (bm (L:=[.box [.int .u8 0] none]) h) lo k (f:=.func 180) (cs:=[.ptr N 0]) (H':=H++[.box [.int .u8 (p.bytes (at'/32) (at' % 32))] none]) (by simp) (λL c b=>by
  refine fi Qg λM l=>?_
  have j: ∀L,(H++L)[q]?=some (.box (cw p) none):=λL=>bm h
  have e:=avg (p:=p) b (show at' % 32<32 by omega);simp(disch:=omega) only[F1,go_sem,simprocAttr,Qg,j,↓e];exact dp rfl (adz (by simp at l⊢;omega)))
 unfold rA;by_cases c:gx p (at'/32)=0
 ·rw[c]at a⊢;simp only[ae4]at a⊢;simp only[F1,go_sem,simprocAttr,JA,d,a,oY]
 ·simp only[ac0 c]at a⊢;simp only[F1,go_sem,simprocAttr,JA,d,a,oY]
theorem avp{at' b:Nat}(m:at'<68719476736):D X0 (.fn (.func 159) [] []) [.ptr q 0,.int .i64 at',.int .u8 b] ⟨H,lo⟩=some (.ret (.int .i64 (gx p (at'/32))) ⟨H.set q (.box (cw (lE p at' b)) none),lo⟩):=by
 have ho:Old q H (.box (cw p) none):=⟨h⟩;refine aK Jz λN d=>?_
 have k:q<N:=by grind
 have a:=λlo=>aiN hp (bm (L:=[.box [.int .u8 b] none]) h) lo m (f:=.func 179) (cs:=[.ptr N 0]) (H':=(H++[ae.box [.int .u8 b] none]).set q (.box (cw {p with bytes:=ai p.bytes (at'/32) (ai (p.bytes (at'/32)) (at' % 32) b)}) none)) (by simp) (λL g e=>by
  refine fi Qf λM n=>?_
  have l: ∀L,(H++L)[q]?=some (.box (cw p) none):=λL=>bm h
  have j:=avh (p:=p) (v:=b) e (show at' % 32<32 by omega);simp(disch:=omega) only[F1,go_sem,simprocAttr,Qf,l,j,xF]
  grind)
 unfold lE;have c: ∀L o,((H++L).set q o).take N=H.set q o:=λL o=>by
  rw[asq _ _ (by omega),mC (by simp[d])]
 by_cases g:gx p (at'/32)=0
 ·rw[g]at a⊢;simp only[ae4]at a⊢;simp only[F1,go_sem,simprocAttr,Jz,d,a,c]
 ·simp only[ac0 g]at a⊢;rw[pY h];simp only[F1,go_sem,simprocAttr,Jz,d,a]
theorem avq{n:Nat}(w:n<=1024):D XC (.fn (.func 154) [] []) [.ptr q 0,.int .i64 n] ⟨H,lo⟩=some (.ret (.aA [.int .i64 (fI p n).2.1,.int .i64 (fI p n).2.2]) ⟨H.set q (.box (cw (fI p n).1) none),lo⟩):=by
 have ho:Old q H (.box (cw p) none):=⟨h⟩;refine aK Bw λN y=>?_
 have u:q<N:=by grind
 have k:=λl=>dy (nh l) (bL (g:=aD) (λ_=>rfl) l)
 have j:= @aiH p;have e:= @aiI p;have m:=dy (Cd p) (bL (g:=aD) (λ_=>rfl) _);have c: ∀o,(H.set q o).take N=H.set q o:=λo=>adz (by grind)
 by_cases s:n<1
 ·have a: ((n:Nat):Int)<1:=by omega
  have v:fI p n=(p,0,2):=by unfold fI;rw[ac6 s]
  rw[v,pY h];simp(disch:=omega) only[F1,go_sem,simprocAttr,Bw,vT,a]
 ·have a: ¬((n:Nat):Int)<1:=by omega
  have b:=λH lo=>c0 (aq4 (oF p) p.free (Cd _) hp.free.ok n H lo)
  unfold KB at b;have e1:fI p n=match p.free.find? (fits n)with
   |none=>(p,0,6)
   |some x=>(match mT p.free (x.1,n)with|some l=>{p with free:=l,cK:=false}|none=>p,x.1,0):=by unfold fI;rw[ac0 s];rfl
  rw[e1];cases f:p.free.find? (fits n)with
  |none=>
   simp only[f]at b⊢;rw[pY h];simp(disch:=omega) only[F1,go_sem,simprocAttr,Bw,vT,a,h,↓zP,b]
  |some x=>
   simp only[f]at b⊢;have t:=hp.free.bd x (apH f);have d:=λH lo=>avc (oF p) p.free (Cd _) hp.free.ok (x.1,n) (by simp;omega) (by simp;omega) H lo
   unfold Tz at d;cases r:mT p.free (x.1,n)with
   |none=>
    simp only[r]at d⊢;simp only[F1,go_sem,simprocAttr,Bw,vT,a,h,↓zP,b,d,e,c,xF,m]
   |some l=>
    simp only[r]at d⊢;simp only[F1,go_sem,simprocAttr,Bw,vT,a,h,↓zP,b,d,j,c,xF,k]
end
def oG(a:Nat):Prop:= ∀E,jK XA.gu E .int .dD (.lM uM) (.int .u8 a) true=some (match rI a with|some f=>.aA [.fn (.func f) [] [],.bool true]|none=>.aA [.dD,.bool false])
theorem qg{r:bE}:aL (bB r)=0:=rfl
def aiO(s:aZ)(g:aV s)(aa:Nat)(f:aa<4294967296)(c:ck)(i:gB c)(k:oG c.op)(H:List ae)(lo:oN):
  D XC (.fn (.func 110) [] []) [.agg (bn s),.int .i64 aa,.agg (bq c)] ⟨H,lo⟩=some (.ret (.int .i64 (lD s aa c)) ⟨H,lo⟩):=by
 refine aK Jp λN j=>?_
 have h:=λH lo=>cB (Ln s g aa f c i k H lo)
 unfold lD;by_cases l:0<bR s aa c
 ·have a: ((bR s aa c:Nat):Int)>0:=by omega
  rw[ac6 l];simp only[F1,go_sem,simprocAttr,Jp,j,DZ,h,a]
 ·have a: ¬((bR s aa c:Nat):Int)>0:=by omega
  rw[ac0 l];obtain⟨v,d1,d2⟩:=Lm s g aa f c i (0,0) ⟨show 0<4294967296 by omega,show 0<4294967296 by omega⟩ k (H++[.box (bn s) none,.box (bq c) none]) none;have d1:=cB d1;have b:aD (0,0)=[.int .i64 0,.int .i64 0]:=rfl;rw[b]at d1;generalize bN s aa c (0,0)=d at*;have e: (bB d.2.1)[0]?=some (.int .i64 d.2.1.e):=rfl;simp only[F1,go_sem,simprocAttr,Jp,j,DZ,h,a,d1,e,kH,qg]
def avr(s:aZ)(f:aV s)(aa:Nat)(e:aa<4294967296)(c:ck)(h:gB c)(i:oG c.op)(H:List ae)(lo:oN):
  D XC (.fn (.func 76) [] []) [.agg (bn s),.int .i64 aa,.agg (bq c)] ⟨H,lo⟩=some (.ret (.bool (Kw s aa c)) ⟨H,lo⟩):=by
 refine aK Ji λN b=>?_
 have g:=aiO s f aa e c h i;unfold Kw;by_cases d:c.op=15
 ·have a: (c.op:Int)=15:=by omega
  have j:decide (lD s aa c=10)=decide (((lD s aa c:Nat):Int)=10):=ae0.2 (by omega);rw[ady d,amH,j];simp only[F1,go_sem,simprocAttr,Ji,b,DZ,gQ,a,g]
 ·have a: ¬(c.op:Int)=15:=by omega
  rw[adb d,agq];simp only[F1,go_sem,simprocAttr,Ji,b,gQ,a]
def FI(s:aZ)(h:Nat):AV:=if s.T.aq h then .sl [hC h] true else .au
def aiP(s:aZ)(g:aV s)(h:Nat)(f:h<4294967296)(H:List ae)(lo:oN):
  D XC (.fn (.func 165) [] []) [.agg (bn s),.int .u32 h] ⟨H,lo⟩=some (.ret (FI s h) ⟨H,lo⟩):=by
 refine aK JB λN d=>?_
 have b:=λH lo=>c0 (eC s.T.b h f H lo)
 have c:aq s.T.b h=s.T.aq h:=rfl;rw[c]at b;unfold FI;have a:Den.part true 96 (bn s) 0=some (.agg (b0 s.T.b)):=by rfl
 cases e:s.T.aq h with
 |true=>
  rw[e]at b;simp only[F1,go_sem,simprocAttr,JB,d,↓a,b];rfl
 |false=>
  rw[e]at b;simp only[F1,go_sem,simprocAttr,JB,d,↓a,b]
def zQ(s:aZ)(h:Nat):Rv (FI s h) 1 ((rq s h).map hC):=by
 unfold FI rq;split
 ·exact .sl (by intro el a;rw[aeH.1 a];rfl)
 ·exact .au
def avs(l:lN)(p:l.length<2147483648)(v:AV)(H:List ae)(b:Rd ⟨H,none⟩ v 1 (l.map hC))(x:Nat)(lo:oN):
  D X0 (.fn (.func 184) [] []) [v,.int .u32 x] ⟨H,lo⟩=some (.ret (.int .i64 (kO (λy=>decide (y=x)) l)) ⟨H,lo⟩):=by
 refine aK Qj λN t=>?_
 simp only[go_sem,simprocAttr,Qj,b.bZ];refine fE l.length (λk e H'=>H'=H/\ (∀j,j<k->decide (l.getD j default=x)=false)/\e 0=v/\e 1= .int .u32 x/\e 7= .int .i64 l.length/\e 8= .int .i64 k) 0 (by omega) ?_ ?_
 ·simp only[go_sem,simprocAttr];omega
 rintro k r e H' ⟨rfl,f,n,i,h,g⟩ m hm;simp(disch:=omega) only[cm,F1,go_sem,simprocAttr,aea,n,i,h,g];refine⟨λo=>?_,λo=>?_⟩
 ·have c:k<l.length:=by omega
  have d: ∀y,(hC y)[0]?=some (.int .u32 y):=λ_=>rfl
  by_cases e1:l.getD k default=x
  ·have a: ((x:Nat):Int)=(l.getD k default:Nat):=by omega
   simp(disch:=omega) only[F1,go_sem,simprocAttr,b.cn,b.cE,d,a];rw[zs c f (ady e1)];exact⟨by omega,rfl⟩
  ·have a: ¬((x:Nat):Int)=(l.getD k default:Nat):=by omega
   simp(disch:=omega) only[go_sem,simprocAttr,n,i,h,g,b.cn,b.cE,d,a];refine⟨by omega,c,λj s=>?_⟩;rcases(show j<k\/j=k by omega)with q|rfl
   ·exact f j q
   ·exact adb e1
 ·obtain rfl:k=l.length:=by omega
  rw[zt f]
def avt(l:lN)(b:l.length<2147483648)(v:AV)(H:List ae)(a:Rd ⟨H,none⟩ v 1 (l.map hC))(x:Nat)(lo:oN):
  D X0 (.fn (.func 169) [] []) [v,.int .u32 x] ⟨H,lo⟩=some (.ret (.bool (l.contains x)) ⟨H,lo⟩):=by
 refine aK Qb λN c=>?_
 simp(disch:=omega) only[F1,go_sem,simprocAttr,Qb,avs l b v H a x none,zr]
 grind
section
variable{s:aZ}(hs:aV s){c:ck}(hc:gB c){a b:Nat}{H:List ae}(ha:H[a]?=some (.box (bn s) none))(hb:H[b]?=some (.box (bq c) none))(lo:oN)
include hs hc ha hb
theorem aiQ:D XC (.fn (.func 164) [] [.ptr a 0,.ptr b 0]) [] ⟨H,lo⟩=some (.ret (FI s c.r) ⟨H,lo⟩):=by
 refine fi Qa λN e=>?_
 have d:=dy (zQ s c.r) (bL (λ_=>rfl) _);simp(disch:=omega) only[F1,go_sem,simprocAttr,Qa,ha,hb,↓SL,gQ,aiP s hs c.r hc.r,d]
theorem avu{u:Nat}(p:H[u]?=some (.box [.fn (.func 166) [] [.ptr a 0,.ptr b 0]] none)):
  ∃v,D XC (.fn (.func 168) [] [.ptr u 0,.ptr a 0,.ptr b 0]) [] ⟨H,lo⟩=some (.ret v ⟨H,lo⟩)/\Rv v 1 ((if under s.T c.r=[]\/s.T.aq c.s=false then[]else if(under s.T c.r).contains c.s then under s.T c.r else under s.T c.r++[c.s]).map hC):=by
 suffices E: ∃o,D XC (.fn (.func 168) [] [.ptr u 0,.ptr a 0,.ptr b 0]) [] ⟨H,lo⟩=some o/\ (λo=> ∃v,o=aU.ret v ⟨H,lo⟩/\Rv v 1 ((if under s.T c.r=[]\/s.T.aq c.s=false then[]else if(under s.T c.r).contains c.s then under s.T c.r else under s.T c.r++[c.s]).map hC)) o by
  obtain⟨o,M,v,rfl,K⟩:=E;exact⟨v,M,K⟩
 refine xh Bx rfl rfl rfl λN q=>?_
 obtain⟨v,J,aj,g1,g2,O⟩:=Ty hs hc ha hb N q none;have e:=λH lo=>c0 (eC s.T.b c.s hc.s H lo)
 have z:aq s.T.b c.s=s.T.aq c.s:=rfl;rw[z]at e;have k:Den.part true 96 (bn s) 0=some (.agg (b0 s.T.b)):=by rw[<-vL (x:=⟨s,0,gP,(0,0),0,false,[]⟩) (bk:=.au) (by omega) (by omega)];exact S3
 have F:=KK hs.tr c.r;have G:=mj g2 aj;have d:=G.bZ;have w:=λL=>bm (L:=L) ha
 have t:=λL=>bm (L:=L) hb
 have h:=λlo=>c0 (avt (under s.T c.r) (by omega) v (H++J) (mj g2 none) c.s lo)
 have f:eB N aj:=eB.of O;have j: (H++J).take N=H:=by rw[<-q];simp
 have y:=bL (g:=hC) (λ_=>rfl) (under s.T c.r);by_cases r:under s.T c.r=[]
 ·have n: ((under s.T c.r).length:Int)=0:=by rw[r];rfl
  rw[ac6 (.inl r)];simp only[go_sem,simprocAttr,Bx,p,g1,d,n];rw[jE f (adC _),j];exact⟨_,rfl,.au⟩
 ·have n: ¬((under s.T c.r).length:Int)=0:=by
    have:=aBc.2 r;omega
  cases B:s.T.aq c.s with
  |false=>
   rw[B]at e;rw[ac6 (.inr rfl)];simp only[go_sem,simprocAttr,Bx,p,g1,d,n,w,t,↓k,gQ,e];rw[jE f (adC _),j];exact⟨_,rfl,.au⟩
  |true=>
   rw[B]at e;rw[ac0 (by simp[r])];cases m: (under s.T c.r).contains c.s with
   |true=>
    rw[m]at h;rw[ac6 rfl];simp only[go_sem,simprocAttr,Bx,p,g1,d,n,w,t,↓k,gQ,e,h];rw[Fk f g2 (by rw[y];omega),j];exact⟨_,rfl,aP.qM g2⟩
   |false=>
    rw[m]at h;rw[ac0 (by simp)];simp only[go_sem,simprocAttr,Bx,p,g1,d,n,w,t,↓k,gQ,e,h];refine qL (H0:=H) (ys:=[[.int .u32 c.s]]) g2 (aj8 _ _) q (by omega) (by intro el A;rw[aeH.1 A];rfl) rfl (by unfold room;simp;omega) λv' W C I=>?_
    simp only[go_sem,simprocAttr];have l:aP N W v' 1 cz ((under s.T c.r++[c.s]).map hC):=by rw[aeP];exact C
    rw[Fk f l (by rw[bL (λ_=>rfl)];omega)];refine⟨_,dp rfl (lH q λi P=>?_),aP.qM l⟩;obtain⟨L,rfl⟩:=I;rw[acj (by omega)]
theorem avv: ∃v,D XC (.fn (.func 170) [] [.ptr a 0,.ptr b 0]) [] ⟨H,lo⟩=some (.ret v ⟨H,lo⟩)/\Rv v 1 ((if(cq s.K c.s).2=0 then rq s (cq s.K c.s).1.aJ else[]).map hC):=by
 suffices n: ∃g,D XC (.fn (.func 170) [] [.ptr a 0,.ptr b 0]) [] ⟨H,lo⟩=some g/\ (λg=> ∃v,g=aU.ret v ⟨H,lo⟩/\Rv v 1 ((if(cq s.K c.s).2=0 then rq s (cq s.K c.s).1.aJ else[]).map hC)) g by grind
 refine xh JD rfl rfl rfl λN k=>?_
 have j:=λH lo=>c0 (BX s.K hs.K c.s hc.s H lo)
 have m:=λL=>bm (L:=L) ha
 have f: ∀t:Tok,(gk t).length=5:=λ_=>rfl
 have e: ∀t:Tok,aL (gk t)=0:=λ_=>rfl
 have h: ∀t:Tok,(gk t)[0]?=some (.int .u32 t.aJ):=λ_=>rfl
 by_cases l: (cq s.K c.s).2=0
 ·have d: (((cq s.K c.s).2:Nat):Int)=0:=by omega
  have ho:=aiP s hs (cq s.K c.s).1.aJ (hs.K.get c.s).aJ;have i:=dy (zQ s (cq s.K c.s).1.aJ) (bL (λ_=>rfl) _);rw[ac6 l];simp only[F1,go_sem,simprocAttr,JD,k,ha,hb,↓SL,gQ,m,f,e,h,j,d,ho,i];exact⟨_,rfl,zQ s _⟩
 ·have d: ¬(((cq s.K c.s).2:Nat):Int)=0:=by omega
  rw[ac0 l];simp only[F1,go_sem,simprocAttr,JD,k,ha,hb,↓SL,gQ,f,e,j,d];exact⟨_,rfl,.au⟩
theorem avw{u:Nat}(l:H[u]?=some (.box [.fn (.func 166) [] [.ptr a 0,.ptr b 0]] none))(h:H[i]?=some (.box [.fn (.func 164) [] [.ptr a 0,.ptr b 0]] none)):
  ∃v,D XC (.fn (.func 172) [] [.ptr b 0,.ptr i 0,.ptr u 0]) [] ⟨H,lo⟩=some (.ret v ⟨H,lo⟩)/\Rv v 1 ((if c.b=1 then rq s c.r else under s.T c.r).map hC):=by
 suffices n: ∃e,D XC (.fn (.func 172) [] [.ptr b 0,.ptr i 0,.ptr u 0]) [] ⟨H,lo⟩=some e/\ (λe=> ∃v,e=aU.ret v ⟨H,lo⟩/\Rv v 1 ((if c.b=1 then rq s c.r else under s.T c.r).map hC)) e by grind
 refine xh JF rfl rfl rfl λN j=>?_
 by_cases k:c.b=1
 ·have d: (c.b:Int)=1:=by omega
  have g:=dy (zQ s c.r) (bL (λ_=>rfl) _);rw[ac6 k];simp(disch:=omega) only[F1,go_sem,simprocAttr,JF,hb,h,gQ,d,aiQ hs hc ha hb,g];exact⟨_,rfl,zQ s _⟩
 ·have d: ¬(c.b:Int)=1:=by omega
  obtain⟨v,J,aj,g1,g2,m⟩:=Ty hs hc ha hb N j none;have f: (H++J).take N=H:=by rw[<-j];simp
  rw[ac0 k];simp only[go_sem,simprocAttr,JF,hb,l,gQ,d,g1];rw[Fk (eB.of m) g2 (by rw[bL (λ_=>rfl)];omega),f];exact⟨_,rfl,aP.qM g2⟩
end
abbrev fz(N:Nat):AV:=.fn (.func 164) [] [.ptr N 0,.ptr (N+1) 0]
abbrev lK(N:Nat):AV:=.fn (.func 166) [] [.ptr N 0,.ptr (N+1) 0]
abbrev Lr(N:Nat):AV:=.fn (.func 168) [] [.ptr (N+3) 0,.ptr N 0,.ptr (N+1) 0]
abbrev Ls(N:Nat):AV:=.fn (.func 170) [] [.ptr N 0,.ptr (N+1) 0]
abbrev Lt(N:Nat):AV:=.fn (.func 172) [] [.ptr (N+1) 0,.ptr (N+2) 0,.ptr (N+3) 0]
def avx(N:Nat):List (AV×AV):=[(.int .u8 1,fz N),(.int .u8 2,fz N),(.int .u8 3,fz N),(.int .u8 4,fz N),(.int .u8 5,fz N),(.int .u8 10,fz N),(.int .u8 12,fz N),(.int .u8 18,fz N),(.int .u8 19,fz N),(.int .u8 6,lK N),(.int .u8 7,lK N),(.int .u8 9,lK N),(.int .u8 11,lK N),(.int .u8 8,Lr N),(.int .u8 13,Ls N),(.int .u8 14,Lt N)]
def nL(N k:Nat):List (AV×AV):=(avx N).take k
theorem avy(N:Nat):ae.map []= .map (nL N 0):=rfl
def ml{N:Nat}{H:List ae}(d:H.length=N)(B:List ae)(f:B.length=4){key:Int}(i:v.refs<=N+5)(h:lQ (.int .u8 key) v (nL N k)=some (nL N (k+1)))(lo:oN):
  mv ⟨H++(B++[.map (nL N k)]),lo⟩ .int (.mp (N+4)) (.int .u8 key) v=some ⟨H++(B++[.map (nL N (k+1))]),lo⟩:=by
 simp only[mv,kT,ae4];have e: (H++(B++[ae.map (nL N k)]))[N+4]?=some (.map (nL N k)):=by grind
 simp only[e,h];have g: (H++(B++[ae.map (nL N k)])).set (N+4) (.map (nL N (k+1)))=H++(B++[.map (nL N (k+1))]):=by
  rw[apC _ _ (by omega),apC _ _ (by omega)];simp[d,f]
 simp only[AS.set,g]
 grind
def FJ(N d:Nat):Option AV:=
 if[1,2,3,4,5,10,12,18,19].contains d then some (fz N)
 else if[6,7,9,11].contains d then some (lK N)
 else if d=8 then some (Lr N)else if d=13 then some (Ls N)else if d=14 then some (Lt N)else none
def avz(N d:Nat):ew (.int .u8 d) (nL N 16)=some (FJ N d):=by
 have key: ∀ (es:List (Nat×AV)),ew (.int .u8 d) (es.map λx=>(.int .u8 (x.1:Nat),x.2))=some ((es.find? λx=>decide (x.1=d)).map (·.2)):=by
  intro es
  induction es with
  |nil=>rfl
  |cons x xs j=>
   simp only[aj9,ew,oP,ae4,List.find?_cons]
   grind
 have e:nL N 16=[(1,fz N),(2,fz N),(3,fz N),(4,fz N),(5,fz N),(10,fz N),(12,fz N),(18,fz N),(19,fz N),(6,lK N),(7,lK N),(9,lK N),(11,lK N),(8,Lr N),(13,Ls N),(14,Lt N)].map λx:Nat×AV=>(.int .u8 (x.1:Nat),x.2):=rfl
 rw[e,key];by_cases h:d<=19
 ·rcases(show d=0\/d=1\/d=2\/d=3\/d=4\/d=5\/d=6\/d=7\/d=8\/d=9\/d=10\/d=11\/d=12\/d=13\/d=14\/d=15\/d=16\/d=17\/d=18\/d=19 by omega)with q|q|q|q|q|q|q|q|q|q|q|q|q|q|q|q|q|q|q|q<;>subst q<;>rfl
 ·have hc: ∀l:lN,l.all (λk=>decide (k<=19))=true->l.contains d=false:=by
    intro l g;rw[Bool.eq_false_iff];intro hm;have:=aeT.1 g d (by simpa using hm);simp at this;omega
  have f: ∀l:List (Nat×AV),(l.map (·.1)).all (λk=>decide (k<=19))=true->l.find? (λx=>decide (x.1=d))=none:=by
   intro l g;rw[awO];intro x i;have:=aeT.1 g x.1 (List.mem_map_of_mem i);simp at this⊢;omega
  rw[f _ rfl];unfold FJ;rw[hc _ rfl,hc _ rfl,ac0 (by simp),ac0 (by simp),ac0 (by omega),ac0 (by omega),ac0 (by omega)];rfl
def avA{s:aZ}(hs:aV s)(hc:gB c)(H:List ae)(lo:oN):
  ∃v,D XC (.fn (.func 152) [] []) [.agg (bn s),.agg (bq c)] ⟨H,lo⟩=some (.ret v ⟨H,lo⟩)/\Rv v 1 ((xd s c).map hC):=by
 suffices X: ∃r,D XC (.fn (.func 152) [] []) [.agg (bn s),.agg (bq c)] ⟨H,lo⟩=some r/\ (λr=> ∃v,r=aU.ret v ⟨H,lo⟩/\Rv v 1 ((xd s c).map hC)) r by
  obtain⟨r,h1,v,rfl,Z⟩:=X;exact⟨v,h1,Z⟩
 refine cI P4 λN d=>?_
 have V:N<=N+1:=by omega
 have U:N<=N+2:=by omega
 have Y: (fz N).refs=N+2:=by simp[AV.refs,aL]
 have P: (lK N).refs=N+2:=by simp[AV.refs,aL]
 obtain⟨B,hB⟩: ∃B:List ae,B=[.box (bn s) none,.box (bq c) none,.box [fz N] none,.box [lK N] none]:=⟨_,rfl⟩;have hm:=avy N;have G:=ml (k:=0) (key:=1) (v:=fz N) d B (by rw[hB];rfl) (by simp[AV.refs,aL]) rfl;have F:=ml (k:=1) (key:=2) (v:=fz N) d B (by rw[hB];rfl) (by simp[AV.refs,aL]) rfl;have C:=ml (k:=2) (key:=3) (v:=fz N) d B (by rw[hB];rfl) (by simp[AV.refs,aL]) rfl;have A:=ml (k:=3) (key:=4) (v:=fz N) d B (by rw[hB];rfl) (by simp[AV.refs,aL]) rfl;have z:=ml (k:=4) (key:=5) (v:=fz N) d B (by rw[hB];rfl) (by simp[AV.refs,aL]) rfl;have y:=ml (k:=5) (key:=10) (v:=fz N) d B (by rw[hB];rfl) (by simp[AV.refs,aL]) rfl;have x:=ml (k:=6) (key:=12) (v:=fz N) d B (by rw[hB];rfl) (by simp[AV.refs,aL]) rfl;have w:=ml (k:=7) (key:=18) (v:=fz N) d B (by rw[hB];rfl) (by simp[AV.refs,aL]) rfl;have p8:=ml (k:=8) (key:=19) (v:=fz N) d B (by rw[hB];rfl) (by simp[AV.refs,aL]) rfl;have u:=ml (k:=9) (key:=6) (v:=lK N) d B (by rw[hB];rfl) (by simp[AV.refs,aL]) rfl;have o:=ml (k:=10) (key:=7) (v:=lK N) d B (by rw[hB];rfl) (by simp[AV.refs,aL]) rfl;have n:=ml (k:=11) (key:=9) (v:=lK N) d B (by rw[hB];rfl) (by simp[AV.refs,aL]) rfl;have m:=ml (k:=12) (key:=11) (v:=lK N) d B (by rw[hB];rfl) (by simp[AV.refs,aL]) rfl;have l:=ml (k:=13) (key:=8) (v:=Lr N) d B (by rw[hB];rfl) (by simp[AV.refs,aL]) rfl;have j:=ml (k:=14) (key:=13) (v:=Ls N) d B (by rw[hB];rfl) (by simp[AV.refs,aL]) rfl;have i:=ml (k:=15) (key:=14) (v:=Lt N) d B (by rw[hB];rfl) (by simp[AV.refs,aL]) rfl;rw[hB]at G F C A z y x w p8 u o n m l j i;simp only[ah6,agt]at G F C A z y x w p8 u o n m l j i;simp only[go_sem,simprocAttr,P4,d,V,U,hm,Y,P,gQ,G,F,C,A,z,y,x,w,p8,u,o,n,m,l,j,i];have O: ∀E:AS,E.heap[N+4]?=some (.map (nL N 16))->jK XC.gu E .int .dD (.mp (N+4)) (.int .u8 c.op) true=some (match FJ N c.op with|some v=>.aA [v,.bool true]|none=>.aA [.dD,.bool false]):=by
  intro E h;simp only[jK,kT,ae4,mapOf,h,avz];cases FJ N c.op<;>rfl
 rw[O _ (by rw[bM d];rfl)];obtain⟨W,g⟩: ∃W,W=H++[.box (bn s) none,.box (bq c) none,.box [fz N] none,.box [lK N] none,.map (nL N 16)]:=⟨_,rfl⟩;have w0:W[N]?=some (.box (bn s) none):=by rw[g,dB d];rfl
 have w1:W[N+1]?=some (.box (bq c) none):=by rw[g,bM d];rfl
 have T:W[N+2]?=some (.box [fz N] none):=by rw[g,bM d];rfl
 have R:W[N+3]?=some (.box [lK N] none):=by rw[g,bM d];rfl
 have wt: ∀L,(W++L).take N=H:=λL=>by rw[g,ac8,mC d]
 have e:W.take N=H:=by rw[g,mC d]
 have Q:W.length=N+5:=by rw[g];simp[d]
 rw[<-g];unfold xd FJ;by_cases p: [1,2,3,4,5,10,12,18,19].contains c.op
 ·simp only[p,ae4];have K:=dy (zQ s c.r) (bL (λ_=>rfl) _);simp only[F1,go_sem,simprocAttr,aiQ hs hc w0 w1,K,e];exact⟨_,rfl,zQ s _⟩
 ·by_cases q: [6,7,9,11].contains c.op
  ·obtain⟨v,J,aj,g1,g2,g3⟩:=Ty hs hc w0 w1 (N+5) Q none;simp only[p,q,ae4,ags,aeJ];simp only[go_sem,simprocAttr,g1];rw[Fk (eB.le (eB.of g3) (by omega)) (aP.le (M:=N) g2 (by omega)) (by rw[bL (λ_=>rfl)];omega),wt];exact⟨_,rfl,aP.qM g2⟩
  ·by_cases t:c.op=8
   ·obtain⟨v,g1,g2⟩:=avu hs hc w0 w1 none R;have f:=dy g2 (bL (λ_=>rfl) _);simp only[ac0 p,ac0 q,ac6 t];simp only[F1,go_sem,simprocAttr,g1,f,e];exact⟨_,rfl,g2⟩
   ·by_cases I:c.op=13
    ·obtain⟨v,g1,g2⟩:=avv hs hc w0 w1 none;have f:=dy g2 (bL (λ_=>rfl) _);simp only[ac0 p,ac0 q,ac0 t,ac6 I];simp only[F1,go_sem,simprocAttr,g1,f,e];exact⟨_,rfl,g2⟩
    ·by_cases S:c.op=14
     ·obtain⟨v,g1,g2⟩:=avw hs hc w0 w1 none R T;have f:=dy g2 (bL (λ_=>rfl) _);simp only[ac0 p,ac0 q,ac0 t,ac0 I,ac6 S];simp only[F1,go_sem,simprocAttr,g1,f,e];exact⟨_,rfl,g2⟩
     ·simp only[p,q,t,I,S,ags,aeJ];simp only[F1,go_sem,simprocAttr,e];exact⟨_,rfl,.au⟩
def c7(x:Core)(q:Nat)(qv:AV):lA:=bn x.S++([.ptr q 0]++(dc x.M++[qv]))
section
variable{x:Core}{q:Nat}{qv:AV}
def Lu: (c7 x q qv).length=1274:=by simp only[c7,aeG,eg,eD];rfl
def TD:aL (c7 x q qv)=max (q+1) qv.refs:=by
 simp only[c7,E3,kH,kj];simp[aL,AV.refs]
def TE:Den.part true 952 (c7 x q qv) 0=some (.agg (bn x.S)):=by exact vm (eg _) (by omega)
def TF{ag:Bool}{o:Nat}(ho:952<=o):Den.part ag m (c7 x q qv) o=Den.part ag m ([.ptr q 0]++(dc x.M++[qv])) (o-952):=by
 unfold c7;rw[jh (by rw[eg];exact ho),eg]
def aiR:Den.part false 1 (c7 x q qv) 952=some (.ptr q 0):=by rw[TF (by omega)];rfl
def aiS:Den.part true 320 (c7 x q qv) 953=some (.agg (dc x.M)):=by
 rw[TF (by omega),jh (by simp)];exact vm (eD _) (by omega)
def TG:Den.part false 1 (c7 x q qv) 1273=some qv:=by
 rw[TF (by omega),jh (by simp),jh (by rw[eD];simp),eD];rfl
def aiT{s:aZ}:aN (c7 x q qv) 0 (bn s)=c7 {x with S:=s} q qv:=by
 unfold c7;rw[rj (by rw[eg,eg];omega),mN (by rw[eg,eg])]
def aiU{m:Marks}:aN (c7 x q qv) 953 (dc m)=c7 {x with M:=m} q qv:=by
 unfold c7;rw[ij (by rw[eg];omega),eg,ij (by simp),rj (by rw[eD];simp[eD])];have:953-952- [AV.ptr q 0].length=0:=rfl;rw[this,mN (by rw[eD,eD])]
def aiV:aN (c7 x q qv) 1273 [v]=c7 x q v:=by
 unfold c7;rw[ij (by rw[eg];omega),eg,ij (by simp),ij (by rw[eD];simp),eD];rfl
theorem aBQ{P:cJ}:c7 {x with P:=P} q qv=c7 x q qv:=rfl
theorem avB{Q:lN}:c7 {x with Q:=Q} q qv=c7 x q qv:=rfl
def aiW: (c7 x q qv)[1273]?=some qv:=TG
def KL:=gG @TE<|gG @aiR<|gG @aiS<|gG @TG @aiW
def KS:=gG @aiT<|gG @aiU<|gG @aiV @Lu
end
def dk(N:Nat)(H:List ae)(v:AV)(sz:Nat)(ty:TypeId)(af:List lA):Prop:=
 (∀el∈af,el.length=sz)/\ ((v= .au/\af=[])\/ ∃id ak off all,N<=id/\v= .ref id ak sz off af.length false/\H[id]?=some (.row ak sz ty all)/\off+af.length<=all.length/\ (all.drop off).take af.length=af)
theorem dk.au{N:Nat}{H:List ae}{ty:TypeId}:dk N H .au sz ty []:=⟨by simp,.inl ⟨rfl,rfl⟩⟩
section
variable{N:Nat}{H H':List ae}{v:AV}{sz:Nat}{ty:TypeId}{af:List lA}
def dk.rd(h:dk N H v sz ty af):Rd ⟨H,lo⟩ v sz af:=by
 obtain⟨c,b⟩:=h;rcases b with⟨rfl,rfl⟩| ⟨id,ak,off,all,e,rfl,a,f,d⟩
 ·exact .au
 ·refine⟨trivial,?_,c⟩;simp only[elems,a,aA4]
  grind
def dk.nX(h:dk N H v sz ty af)(b: ∀ (id ak:Nat) (all:List lA),H[id]?=some (ae.row ak sz ty all)->H'[id]?=some (ae.row ak sz ty all)):dk N H' v sz ty af:=by
 obtain⟨a,c⟩:=h;refine⟨a,?_⟩
 grind
def dk.app(h:dk N H v sz ty af)(L:List ae):dk N (H++L) v sz ty af:=h.nX λ_ _ _ a=>bm a
theorem dk.set(h:dk N H v sz ty af){cs:lA}(b:H[p]?=some (.box cs tg))(o:ae):dk N (H.set p o) v sz ty af:=h.nX λid _ _ a=>by grind
theorem dk.take{n:Nat}{a:List lA}(h:dk N H v sz ty af)(e:dk N H0 v sz ty a)(k:H0.length=n):dk N (H.take n) v sz ty af:=by
 obtain⟨d,b⟩:=h;refine⟨d,?_⟩;rcases b with b| ⟨id,ak,off,all,o,g,j,l,i⟩
 ·grind
 ·rcases e.2 with⟨q,_⟩| ⟨c,_,_,_,_,q,f,_⟩
  ·grind
  grind
def dk.tail{a:lA}{bytes:Nat}(h:dk N H v sz ty (a::af)): ∃w,gE sz v (some (.int .i64 1)) none none=some w/\dk N H w sz ty af/\w.cx=false/\w.cells=[w]/\w.refs=v.refs:=by
 obtain⟨i,c⟩:=h;rcases c with⟨_,c⟩| ⟨id,ak,off,all,f,rfl,e,k,j⟩
 ·grind
 ·refine⟨.ref id ak sz (off+1) af.length false,?_,⟨λel d=>i el (aeR _ d),.inr ⟨id,ak,off+1,all,f,rfl,e,by grind,?_⟩⟩,rfl,rfl,rfl⟩
  ·have g:gT (a::af).length (some (.int .i64 1)) none=some (1,af.length+1):=by
     have: (1:Int)<=af.length+1:=by omega
     simp[gT,lO,this]
   simp only[gE,g,lP]
   grind
  ·have: (all.drop off).take (af.length+1)=a::af:=by omega
   have c:all.drop (off+1)=(all.drop off).drop 1:=by simp
   rw[c];generalize all.drop off=l at this;cases l with
   |nil=>grind
   |cons b l=>grind
def dk.append{bytes:Nat}{y:lA}(h:dk N H v sz ty af)(s:N<=H.length)(j:0<sz)(u:y.length=sz)(l:aL y=0)(r: (af.length+1)*bytes<=room):
  ∃v' H',dO ⟨H,lo⟩ ty sz bytes v [y]=some (v',⟨H',lo⟩)/\dk N H' v' sz ty (af++[y])/\H.length<=H'.length/\ (∀i,i<N->H'[i]?=H[i]?)/\ (∀ (i:Nat) (o:ae),(∀a d,o≠ae.row a sz ty d)->H[i]?=some o->H'[i]?=some o)/\v'.cx=false/\v'.cells=[v']/\N<v'.refs:=by
 have f:0<sz/\ [y].all (λel=>el.length==sz)=true:=⟨j,by grind⟩;obtain⟨z,t⟩:=h;have g: ∀el∈af++[y],el.length=sz:=by grind
 rcases t with⟨rfl,rfl⟩| ⟨id,ak,off,all,n,rfl,b,w,k⟩
 ·refine⟨.ref H.length 0 sz 0 1 false,H++[.row 0 sz ty [y]],?_,⟨g,.inr ⟨H.length,0,0,[y],s,rfl,by simp,by simp,by simp⟩⟩,by simp,λi p=>acj (by omega),λi o _ ho=>bm ho,rfl,rfl,by simp only[AV.refs];omega⟩;unfold dO;rw[ac6 f];simp only[asa];rw[ac0 (by omega),ac6 (by omega)];rfl
 ·have c:=fy b;refine⟨.ref id (ak+1) sz 0 (af.length+1) false,H.set id (.row (ak+1) sz ty (af++[y])),?_,⟨g,.inr ⟨id,ak+1,0,af++[y],n,by simp,by simp[c],by simp,adz (by simp)⟩⟩,by simp,λi p=>ach (by omega),λi o ho e=>?_,rfl,rfl,by simp only[AV.refs];omega⟩
  ·unfold dO;rw[ac6 f];simp only[b,asa];rw[ac6 ⟨trivial,trivial,trivial,trivial,by omega,r⟩,ac0 (by omega)];have:b9 [y]=0:=by simp[b9,l]
   simp[AS.set,this,k]
  ·rw[ach];exact e;rintro rfl;rw[b]at e;cases e;exact ho _ _ rfl
end
def Mu(o:ae):Prop:= ∃a d,o= .row a 1 o6 d
structure Fq(m:Nat)(S:lN)(H H':List ae):Prop where
 len:H.length<=H'.length
 low: ∀i,i<m->H'[i]?=H[i]?
 box: ∀i o,i∉S-> ¬Mu o->H[i]?=some o->H'[i]?=some o
section
variable{m:Nat}{S T:lN}{A B C H W:List ae}
theorem Fq.refl:Fq m S A A:=⟨adA _,λ_ _=>rfl,λ_ _ _ _ h=>h⟩
theorem Fq.trans(h:Fq m S A B)(g:Fq m S B C):Fq m S A C:=⟨aga h.len g.len,λi a=>(g.low i a).trans (h.low i a),λi o a ho b=>g.box i o a ho (h.box i o a ho b)⟩
def Fq.mono(h:Fq m S A B)(a: ∀i∈S,i∈T):Fq m T A B:=⟨h.len,h.low,λi o b ho c=>h.box i o (λq=>b (a i q)) ho c⟩
theorem Fq.set(b:p∈S)(c:m<=p)(o:ae):Fq m S A (A.set p o):=⟨by simp,λi a=>ach (by omega),λi w a _ h=>by grind⟩
def Fq.app(L:List ae)(a:m<=A.length):Fq m S A (A++L):=⟨by simp,λi b=>acj (by omega),λi o _ _ h=>bm h⟩
def Fq.pre{L:List ae}(h:Fq m S (H++L) W)(a:m<=H.length):Fq m S H W:=(Fq.app L a).trans h
theorem Fq.take{N:Nat}(h:Fq m S A B)(d:A.length=N)(c:m<=N):Fq m S A (B.take N):=⟨by rw[af9];have:=h.len;omega,λi a=>by rw[ago (by omega)];exact h.low i a,λi o a ho b=>by
 have:=fy b;rw[ago (by omega)];exact h.box i o a ho b⟩
def Fq.own{cs:lA}(h:Fq m S A B)(b:p∉S)(c:A[p]?=some (.box cs tg)):B[p]?=some (.box cs tg):=h.box p _ b (λq=>by obtain⟨a,d,q⟩:=q;cases q) c
end
def gR(Q:Prop)(B:Nat)(H H':List ae)(lo aj:oN):Prop:=(aj=lo/\H'.length=H.length/\Q)\/ ∃j,j<=B/\aj=cO lo j
def avC{a b:Nat}:cO (cO lo a) b=cO lo (min a b):=by
 cases lo with
 |none=>exact ahR some (Nat.min_comm b a)
 |some c=>show some (min b (min a c))=some (min (min a b) c);grind
theorem gR.same{B:Nat}{H:List ae}(h:Q):gR Q B H H lo lo:=.inl ⟨rfl,rfl,h⟩
section
variable{m N B:Nat}{S:lN}{H L W H2:List ae}{lo mg:oN}{Q:Prop}{v:AV}
def Lx(h:H.length=N)(k:B<N)(e:m<=N)(i:Fq m S (H++L) W)(f:gR Q B (H++L) W none mg)(d:v.refs<=N):
  ∃H2 a,finish N lo v ⟨W,mg⟩=(v,⟨H2,a⟩)/\Fq m S H H2/\gR Q B H H2 lo a/\ (H2=W\/ (H2=W.take N/\Q)):=by
 have b:=i.pre (by omega);rcases f with⟨rfl,l,c⟩| ⟨j,g,rfl⟩
 ·refine⟨W.take N,lo,jE (.inl rfl) d,b.take h e,.inl ⟨rfl,?_,c⟩,.inr ⟨rfl,c⟩⟩
  grind
 ·refine⟨W,cO lo j,?_,b,.inr ⟨j,g,rfl⟩,.inl rfl⟩;have:cO none j=some j:=rfl;exact vR (by omega)
def Ly{o:ae}(h:H2=W\/ (H2=W.take N/\Q))(b:i<N)(a:W[i]?=some o):H2[i]?=some o:=by grind
def dk.oH{n:Nat}{ty:TypeId}{v v':AV}{a:List lA}(h:dk n W v' sz ty af)(c:H2=W\/ (H2=W.take N/\Q))(b:Q->v'=v)(e:dk n H v sz ty a)(d:H.length=N):dk n H2 v' sz ty af:=by
 rcases c with rfl| ⟨rfl,q⟩
 ·exact h
 ·have:=b q;subst this;exact h.take e d
end
structure dR(m p q:Nat)(x:Core)(qv:AV)(H:List ae):Prop where
 mp:m<=p
 mq:m<=q
 qp:q<p
 box:H[p]?=some (.box (c7 x q qv) none)
 jr:H[q]?=some (.box (cw x.P) none)
 jt:dk (p+1) H qv 1 o6 (x.Q.map jH)
section
variable{m p q:Nat}{x:Core}{qv:AV}{H:List ae}
def dR.lt(h:dR m p q x qv H):p<H.length:=fy h.box
theorem dR.app(h:dR m p q x qv H)(L:List ae):dR m p q x qv (H++L):=⟨h.mp,h.mq,h.qp,bm h.box,bm h.jr,h.jt.app L⟩
theorem dR.set(h:dR m p q x qv H){cs:lA}(c:H[i]?=some (.box cs tg))(b:i≠p)(a:i≠q)(o:ae):dR m p q x qv (H.set i o):=
 ⟨h.mp,h.mq,h.qp,(ach b).trans h.box,(ach a).trans h.jr,h.jt.set c o⟩
theorem dR.oH{W H2:List ae}{N:Nat}{d:Core}(h:dR m p q x qv W)(b:H2=W\/ (H2=W.take N/\Q))(e:Q->qv=a)(c:dR m p q d a H0)(f:H0.length=N):dR m p q x qv H2:=
 have g:=c.lt
 ⟨h.mp,h.mq,h.qp,Ly b (by omega) h.box,Ly b (by have:=h.qp;omega) h.jr,dk.oH h.jt b e c.jt f⟩
def dR.aiX(h:dR m p q x qv H)(M:Marks):dR m p q {x with M:=M} qv (H.set p (.box (c7 {x with M:=M} q qv) none)):=
 ⟨h.mp,h.mq,h.qp,cZ h.box,(ach (by have:=h.qp;omega)).trans h.jr,h.jt.set h.box _⟩
def dR.aiY(h:dR m p q x qv H)(s:aZ):dR m p q {x with S:=s} qv (H.set p (.box (c7 {x with S:=s} q qv) none)):=
 ⟨h.mp,h.mq,h.qp,cZ h.box,(ach (by have:=h.qp;omega)).trans h.jr,h.jt.set h.box _⟩
def dR.FK(h:dR m p q x qv H)(P:cJ):dR m p q {x with P:=P} qv (H.set q (.box (cw P) none)):=
 ⟨h.mp,h.mq,h.qp,(ach (by have:=h.qp;omega)).trans h.box,cZ h.jr,h.jt.set h.jr _⟩
def dR.fp(h:dR m p q x qv H)(o:ae):Fq m [p,q] H (H.set p o):=Fq.set (by simp) h.mp o
def dR.fq(h:dR m p q x qv H)(o:ae):Fq m [p,q] H (H.set q o):=Fq.set (by simp) h.mq o
end
def TH(m p q:Nat)(H:List ae)(lo:oN)(b:Core)(qv:AV)(r:AV)(c:aU):Prop:=
 ∃a H' aj,c= .ret r ⟨H',aj⟩/\dR m p q b a H'/\Fq m [p,q] H H'/\gR (a=qv) p H H' lo aj
def jI(x:Core)(r:aC)(k:Nat):Core:={x with Q:=x.Q++(gy r).take k}
def aiZ(x:Core)(r:aC):jI x r r.2=bT x r:=by
 unfold jI bT;rw[adz (by simp[gy])]
def ai0{r:aC}(h:k<r.2): (gy r).take (k+1)=(gy r).take k++[r.1+k]:=by
 rw[agn];simp[gy,h]
def TI{H:List ae}(l:dR m p q x qv H)(r:aC)(X:r.1<4294967296/\r.2<4294967296)(hQ:x.Q.length<17179869184)(lo:oN):
  ∃K,D XC (.fn (.func 132) [] []) [.ptr p 0,.agg (aD r)] ⟨H,lo⟩=some K/\TH m p q H lo (bT x r) qv (.aA []) K:=by
 refine cI PT λN s=>?_
 have C:p<N:=by rw[<-s];exact l.lt
 have h1: (aD r)[1]?=some (.int .i64 r.2):=rfl;simp only[go_sem,simprocAttr,PT,s];refine gZ r.2 (λk e W aj=> ∃c,e 0= .ptr p 0/\e 3= .ptr N 0/\e 6= .int .i64 r.2/\e 7= .int .i64 k/\dR m p q (jI x r k) c W/\W[N]?=some (.box (aD r) none)/\Fq m [p,q] (H++[.box (aD r) none]) W/\gR (c=qv) p (H++[.box (aD r) none]) W none aj) 0 (by omega) ?_ ?_
 ·refine⟨qv,?_⟩;simp(disch:=omega) only[go_sem,simprocAttr];refine⟨?_,Fq.refl,gR.same trivial⟩;have:=l.app [.box (aD r) none];unfold jI;simpa using this
 rintro k Z e W aj ⟨c,J,e3,e6,e7,b,hw,I,g⟩ n Y;have h0: (aD r)[0]?=some (.int .i64 r.1):=rfl;simp only[cm,go_sem,simprocAttr,ad0,J,e6,e7];refine⟨λO=>?_,λO=>?_⟩
 ·have E:k<r.2:=by omega
  have V:=(rK (b.jt.rd (lo:=none)));simp(disch:=omega) only[go_sem,simprocAttr,e3,b.box,hw,↓KL];have h: (x.Q++(gy r).take k).length<=x.Q.length+r.2:=by simp[gy];omega
  have M:=b.lt;obtain⟨v',W',g1,g2,g3,U,t,T,R,g8⟩:=dk.append (bytes:=8) (lo:=aj) (y:=[.int .i64 ((r.1:Int)+k)]) b.jt (by omega) (by omega) rfl rfl (by rw[aeK];show((x.Q++(gy r).take k).length+1)*8<=room;unfold room;omega);have z: ∀cs tg,∀a d,ae.box cs tg≠ .row a 1 o6 d:=λ_ _ _ _ e=>by cases e
  have f:=t p _ (z _ _) b.box;have u:=t q _ (z _ _) b.jr;have w:=t N _ (z _ _) hw;have F: ¬v'.refs<=p+1:=by omega
  rw[g1];simp(disch:=omega) only[go_sem,simprocAttr,J,e3,e6,e7,f,KS,T,R,F];refine⟨by omega,v',?_⟩;refine⟨?_,w,?_,?_⟩
  ·refine⟨b.mp,b.mq,b.qp,by rw[avB];exact cZ f,(ach (by have:=b.qp;omega)).trans u,?_⟩;have: (jI x r (k+1)).Q.map jH=(jI x r k).Q.map jH++[[.int .i64 ((r.1:Int)+k)]]:=by
    unfold jI;rw[ai0 E,<-ac8,aeP];rfl
   rw[this];exact g2.set f _
  ·refine I.trans ⟨by simp;omega,λi G=>?_,λi o G ho P=>?_⟩
   ·rw[ach (by have:=b.mp;omega)];exact U i (by have:=b.mp;omega)
   ·rw[ach (by rintro rfl;simp at G)];exact t i o (λa d e=>ho ⟨a,d,e⟩) P
  ·rcases g with⟨rfl,_,_⟩| ⟨j,hj,rfl⟩
   ·exact .inr ⟨p,adA _,rfl⟩
   ·exact .inr ⟨min j p,by omega,avC⟩
 ·obtain rfl:k=r.2:=by omega
  have hm:=l.mp;obtain⟨H2,A,f1,f2,f3,f4⟩:=Lx (lo:=lo) s C (by omega) I g (v:=.aA []) (adC _);rw[f1];rw[aiZ]at b;exact⟨c,H2,A,rfl,b.oH f4 id l s,f2,f3⟩
def ds(c:Call)(rv:AV):lA:=[.int .i64 c.aa]++(bq c.c++([.bool c.checked,rv]++(aD c.run++[.int .i64 c.fx])))
theorem avD(c:Call)(rv:AV):ds c rv=[.int .i64 c.aa,.int .u8 c.c.op,.int .u32 c.c.r,.int .u32 c.c.s,.int .u32 c.c.a,.int .u32 c.c.b,.int .u64 c.c.v,.bool c.checked,rv,.int .i64 c.run.1,.int .i64 c.run.2,.int .i64 c.fx]:=rfl
structure fR(c:Call):Prop where
 aa:c.aa<4294967296
 gC:gB c.c
 ba: ∀h∈c.ba,h<4294967296
 run:c.run.1<65536/\c.run.2<65536
 fx:c.fx<65536
structure iV(x:Core):Prop where
 S:aV x.S
 P:fK x.P
 M: ∀i,iU (x.M i)
 Q: ∀k∈x.Q,k<2147483648
 Ql:x.Q.length<8589934592
def ai1{H:List ae}(b:dR m p q x qv H)(l:iV x)(c:Call)(n:fR c)(rv:AV)(r:rv.refs=0)(lo:oN):
  ∃k,D XC (.fn (.func 97) [] []) [.ptr p 0,.agg (ds c rv)] ⟨H,lo⟩=some k/\TH m p q H lo (me x c) qv (.aA []) k:=by
 refine cI Pv λN d=>?_
 have f:p<N:=by rw[<-d];exact b.lt
 have z:=n.run;obtain⟨k,g1,a,W,aj,rfl,g2,o,y⟩:=TI (b.app [.box (ds c rv) none]) c.run ⟨by omega,by omega⟩ (by have:=l.Ql;omega) none;have h:Den.part true 2 (ds c rv) 9=some (.agg (aD c.run)):=rfl;have i: (ds c rv)[0]?=some (.int .i64 c.aa):=rfl;have j:N∉[p,q]:=by have:=b.qp;simp;omega
 have wn:W[N]?=some (.box (ds c rv) none):=o.own j (by rw[dB d];rfl);have t:=λH lo=>c0 (au4 x.M l.M c.aa n.aa H lo)
 have w: (bT x c.run).M=x.M:=rfl;have g:=λm=>eD m
 simp only[go_sem,simprocAttr,Pv,d,↓h,g1,g2.box,wn,i,↓KL,KS,w,t,g,kj];have u:=o.trans (g2.fp (.box (c7 {bT x c.run with M:=ry x.M c.aa} q a) none));have s:gR (a=qv) p (H++[.box (ds c rv) none]) (W.set p (.box (c7 {bT x c.run with M:=ry x.M c.aa} q a) none)) none aj:=y.elim (λq=>.inl ⟨q.1,by rw[aeU];exact q.2.1,q.2.2⟩) .inr;obtain⟨H2,e,f1,f2,f3,f4⟩:=Lx (lo:=lo) d f (by have:=b.mp;omega) u s (v:=.aA []) (adC _);rw[f1];exact⟨a,H2,e,rfl,(g2.aiX _).oH f4 id b d,f2,f3⟩
def avE{H:List ae}(c:dR m p q x qv H)(t:iV x)(lo:oN):
  ∃y,D XC (.fn (.func 59) [] []) [.ptr p 0] ⟨H,lo⟩=some y/\TH m p q H lo (gO x).1 qv (.bool (gO x).2) y:=by
 have ho:Old p H (.box (c7 x q qv) none):=⟨c.box⟩;refine cI Jg λN r=>?_
 have h:p<N:=by rw[<-r];exact c.lt
 have b:=(c.jt.rd (lo:=none)).bZ;unfold gO;have E:Fq m [p,q] (H++[]) H:=by rw[agc];exact Fq.refl
 cases n:x.Q with
 |nil=>
  rw[n]at b;simp(disch:=omega) only[F1,go_sem,simprocAttr,Jg,c.box,↓KL,b];exact⟨qv,H,lo,rfl,c,Fq.refl,gR.same rfl⟩
 |cons a l=>
  have d:=c.jt;rw[n]at b d;rw[aj9]at d;have G: ¬((l.length:Nat):Int)+1=0:=by omega
  have k:jL 1 qv (.int .i64 0)=some (dw qv 0 0):=by
   rw[(d.rd (lo:=none)).addr,ac6 ⟨by omega,by simp⟩];rfl
  have i:cp XC ⟨H,none⟩ false 1 (dw qv 0 0)=some (.int .i64 a):=(d.rd (lo:=none)).load (by simp);obtain⟨w,s1,s2,B,A,z⟩:=dk.tail (bytes:=8) d;have F:=λlo=>c0 (avn t.P c.jr lo (t.Q a (by rw[n];simp)))
  have j: (FP.rd p 952 1).ok (mD 1 (dw qv 0 0))=true:=by
   rcases d.2 with⟨_,e⟩| ⟨_,_,_,_,_,rfl,_⟩
   ·cases e
   ·rfl
  have s: ∀o,(H.set q o)[p]?=some (.box (c7 x q qv) none):=λo=>(ach (by have:=c.qp;omega)).trans c.box
  have C:p+1<w.refs:=by
   rw[z];rcases d.2 with⟨_,e⟩| ⟨id,_,_,_,J,rfl,_⟩
   ·cases e
   ·simp only[AV.refs];omega
  have f: ¬w.refs<=p+1:=by omega
  simp only[go_sem,simprocAttr,Jg,r,c.box,↓KL,b,G,k,i,F,j,s,s1,B,A,KS,f];have u:=(c.fq (.box (cw (mc x.P a)) none)).trans ((c.FK (mc x.P a)).fp (.box (c7 x q w) none));have hm:=c.mp;obtain⟨I,g,f1,f2,f3,f4⟩:=Lx (m:=m) (N:=N) (lo:=lo) (Q:=False) (L:=[]) r h (by omega) (by rw[agc];exact u) (.inr ⟨p,adA _,rfl⟩) (v:=.bool true) (adC _);rw[f1];have f5:I=(H.set q (.box (cw (mc x.P a)) none)).set p (.box (c7 x q w) none):=f4.elim id λe=>e.2.elim
  rw[f5];refine⟨w,_,g,rfl,⟨c.mp,c.mq,c.qp,cZ (s _),(ach (by have:=c.qp;omega)).trans (cZ c.jr),?_⟩,u,?_⟩
  ·exact(s2.set c.jr _).set (s _) _
  ·rw[f5]at f3;exact f3.elim (λe=>e.2.2.elim) .inr
def ea(st:bK)(p:Nat)(rv:AV):lA:=[.ptr p 0]++(ds st.c rv++(bB st.r++[.bool st.ended]))
section
variable{st:bK}{p:Nat}{rv:AV}
theorem TJ: (ea st p rv).length=17:=rfl
theorem ai2: (ea st p rv)[0]?=some (.ptr p 0):=rfl
theorem ai3: (ea st p rv)[1]?=some (.int .i64 st.c.aa):=rfl
theorem ai4: (ea st p rv)[8]?=some (.bool st.c.checked):=rfl
theorem ai5: (ea st p rv)[9]?=some rv:=rfl
theorem ai6: (ea st p rv)[10]?=some (.int .i64 st.c.run.1):=rfl
theorem ai7: (ea st p rv)[11]?=some (.int .i64 st.c.run.2):=rfl
theorem ai8: (ea st p rv)[12]?=some (.int .i64 st.c.fx):=rfl
theorem ai9: (ea st p rv)[16]?=some (.bool st.ended):=rfl
theorem TL:Den.part true 12 (ea st p rv) 1=some (.agg (ds st.c rv)):=rfl
theorem aja:Den.part true 6 (ea st p rv) 2=some (.agg (bq st.c.c)):=rfl
theorem ajb:Den.part true 2 (ea st p rv) 10=some (.agg (aD st.c.run)):=rfl
theorem ajc:Den.part true 3 (ea st p rv) 13=some (.agg (bB st.r)):=rfl
theorem ajd{b:Bool}:aN (ea st p rv) 8 [.bool b]=ea {st with c:={st.c with checked:=b}} p rv:=rfl
theorem aje:aN (ea st p rv) 9 [v]=ea st p v:=rfl
theorem ajf{r:aC}:aN (ea st p rv) 10 (aD r)=ea {st with c:={st.c with run:=r}} p rv:=rfl
theorem ajg{n:Nat}:aN (ea st p rv) 12 [.int .i64 n]=ea {st with c:={st.c with fx:=n}} p rv:=rfl
theorem ajh:aN (ea st p rv) 13 (bB r)=ea {st with r:=r} p rv:=rfl
theorem aji{b:Bool}:aN (ea st p rv) 16 [.bool b]=ea {st with ended:=b} p rv:=rfl
def TM(c:Call)(h:rv.refs=0):aL (ds c rv)=0:=by rw[avD];simp[aL,AV.refs,h]
def PL:=gG @ai2<|gG @ai3<|gG @ai4<|gG @ai5<|gG @ai6<|gG @ai7<|gG @ai8<|gG @ai9<|gG @TL<|gG @aja<|gG @ajb @ajc
def PS:=gG @ajd<|gG @aje<|gG @ajf<|gG @ajg<|gG @ajh<|gG @aji @TJ
end
structure dq(m p q s:Nat)(st:bK)(qv rv:AV)(H:List ae):Prop where
 co:dR m p q st.x qv H
 ps:p<s
 box:H[s]?=some (.box (ea st p rv) none)
 ba:Rv rv 1 (st.c.ba.map hC)
section
variable{m p q s:Nat}{st:bK}{qv rv:AV}{H:List ae}
def dq.lt(h:dq m p q s st qv rv H):s<H.length:=fy h.box
theorem dq.rz(h:dq m p q s st qv rv H):rv.refs=0:=dy h.ba (bL (λ_=>rfl) _)
theorem dq.app(h:dq m p q s st qv rv H)(L:List ae):dq m p q s st qv rv (H++L):=⟨h.co.app L,h.ps,bm h.box,h.ba⟩
theorem dq.set(h:dq m p q s st qv rv H){qh:bK}{rL:AV}(a:qh.x=st.x)(b:Rv rL 1 (qh.c.ba.map hC)):dq m p q s qh qv rL (H.set s (.box (ea qh p rL) none)):=
 ⟨a ▸ h.co.set h.box (by have:=h.ps;omega) (by have:=h.ps;have:=h.co.qp;omega) _,h.ps,cZ h.box,b⟩
def dq.fs(h:dq m p q s st qv rv H)(o:ae):Fq m [p,q,s] H (H.set s o):=Fq.set (by simp) (by have:=h.ps;have:=h.co.mp;omega) o
def dq.sn(h:dq m p q s st qv rv H):s∉[p,q]:=by have:=h.ps;have:=h.co.qp;grind
def dq.av{W:List ae}{b:Core}(h:dq m p q s st qv rv H)(d:dR m p q b a W)(c:Fq m [p,q] H W):dq m p q s {st with x:=b} a rv W:=
 ⟨d,h.ps,c.own h.sn h.box,h.ba⟩
def Fq.m3{H W:List ae}(h:Fq m [p,q] H W):Fq m [p,q,s] H W:=h.mono (by simp)
theorem dq.oH{W d:List ae}{N:Nat}{c:AV}{b:bK}(h:dq m p q s st qv rv W)(e:d=W\/ (d=W.take N/\Q))(i:Q->qv=a)(g:dq m p q s b a c H0)(f:H0.length=N):dq m p q s st qv rv d:=
 ⟨h.co.oH e i g.co f,h.ps,Ly e (by rw[<-f];exact g.lt) h.box,h.ba⟩
end
def eF(m p q s:Nat)(H:List ae)(lo:oN)(qh:bK)(qv:AV)(r:AV)(b:aU):Prop:=
 ∃a rL H' aj,b= .ret r ⟨H',aj⟩/\dq m p q s qh a rL H'/\Fq m [p,q,s] H H'/\gR (a=qv) p H H' lo aj
structure qi(st:bK):Prop where
 x:iV st.x
 c:fR st.c
def eF.fin{s N:Nat}{d st:bK}{e:AV}{H L W:List ae}(c:dq m p q s d a e H)(g:H.length=N)(h:dq m p q s st qv rv W)(k:Fq m [p,q,s] (H++L) W)(j:gR (qv=a) p (H++L) W none b)(i:v.refs<=N):
  eF m p q s H lo st a v (.ret (finish N lo v ⟨W,b⟩).1 (finish N lo v ⟨W,b⟩).2):=by
 have r:=c.lt;have o:=c.ps;have n:=c.co.mp;obtain⟨l,f,f1,f2,f3,f4⟩:=Lx (m:=m) (N:=N) (lo:=lo) g (by omega) (by omega) k j i;rw[f1];exact⟨qv,rv,l,f,rfl,h.oH f4 id c g,f2,f3⟩
def TN{s:Nat}{st:bK}{H:List ae}(a:dq m p q s st qv rv H)(e:qi st)(r:bE)(lo:oN):
  ∃d,D XC (.fn (.func 151) [] []) [.ptr s 0,.agg (bB r)] ⟨H,lo⟩=some d/\eF m p q s H lo (oy st r) qv (.aA []) d:=by
 refine cI P3 λN g=>?_
 have h:=(a.app [.box (bB r) none]).set (qh:={st with r:=r,ended:=true}) (rL:=rv) rfl a.ba;have k:=(a.app [.box (bB r) none]).fs (.box (ea {st with r:=r,ended:=true} p rv) none);obtain⟨d,g1,b,W,aj,rfl,g2,i,l⟩:=ai1 h.co e.x st.c e.c rv a.rz none;have f:=λL=>bm (L:=L) a.box
 have c:=λL o=>cZ (o:=o) (f L)
 simp only[go_sem,simprocAttr,P3,g,f,PL,PS,xD,s9,qg,c,ake,↓TL,g1];have j:gR (b=qv) p (H++[.box (bB r) none]) W none aj:=l.elim (λq=>.inl ⟨q.1,by grind,q.2.2⟩) .inr;exact eF.fin a g (h.av g2 i) (k.trans i.m3) j (adC _)
def fK.ajj{p:cJ}(h:fK p)(n:Nat):fK (fI p n).1:=by
 unfold fI;split
 ·exact h
 split
 ·exact h
 ·rename_i x b;cases a:mT p.free (x.1,n)with
  |none=>exact h
  |some l=>exact⟨h.n,h.free.take a,h.bytes⟩
def fK.clear{p:cJ}(h:fK p)(i:Nat):fK (ny p i):=by
 unfold ny;split
 ·refine⟨h.n,h.free,λa b=>?_⟩;show ai p.bytes i (λ_=>0) a b<256;unfold ai;split
  ·simp
  ·exact h.bytes a b
 omega
def fK.back{p:cJ}(h:fK p)(i:Nat):fK (mc p i):=by
 unfold mc;split
 ·unfold BM;cases a:gL p.free (i,1)with
  |none=>exact h
  |some l=>exact⟨h.n,h.free.gL a,h.bytes⟩
 omega
def fK.write{p:cJ}(h:fK p)(i b:Nat)(d:b<256):fK (lE p i b):=by
 unfold lE;split
 ·refine⟨h.n,h.free,λa c=>?_⟩;show ai p.bytes (i/32) (ai (p.bytes (i/32)) (i % 32) b) a c<256;unfold ai;split
  ·show(if c=i % 32 then b else p.bytes (i/32) c)<256;split
   ·omega
   ·exact h.bytes _ _
  ·exact h.bytes a c
 omega
def avF{p:cJ}(h:fK p)(n:Nat)(c:n<=64)(b: (fI p n).2.2=0): (fI p n).2.1+n<=64:=by
 unfold fI at b⊢;split
 ·grind
 ·rename_i e;split
  ·grind
  ·rename_i x a;have d:=h.free.bd x (apH a)
   grind
def Lz{x y:az}{h:Nat}{r:cQ}(e:mb x h r= .ok y):y.jW=x.jW:=by
 unfold mb at e;cases a:ca (ed x.s.T h r).2 with
 |error _=>rw[a]at e;cases e
 |ok _=>rw[a]at e;cases e;rfl
def aB{α β:Type}{m:R α}{f:α->R β}{b:β}(h: (m>>=f)= .ok b): ∃a,m= .ok a/\f a= .ok b:=by
 cases m with
 |error e=>cases h
 |ok a=>exact⟨a,rfl,h⟩
def avG{x y:az}(e:x.jW=0)(h:hO x= .ok (y,r)):y.jW<=4:=by
 unfold hO at h;dsimp only at h;cases b:jX (min x.c.a 129) (min x.c.b 9)with
 |none=>rw[b]at h;cases h
 |some n=>
  have c:n<=4:=by
   unfold jX at b;split at b
   ·rename_i ho;have:min x.c.a 129<=128:=by unfold isObj at ho;simp at ho;omega
    cases b;omega
   ·cases b
  rw[b]at h;obtain⟨a,e1,h⟩:=aB h;cases e1;obtain⟨_,_,h⟩:=aB h;obtain⟨_,_,h⟩:=aB h;split at h
  ·obtain⟨z,d,h⟩:=aB h;cases h;rw[Lz d,e];omega
  ·obtain⟨_,_,h⟩:=aB h;split at h
   ·cases h;exact c
   ·obtain⟨_,_,h⟩:=aB h;obtain⟨z,d,h⟩:=aB h;cases h;rw[Lz d];exact c
def ajk(s:aZ)(aa:Nat)(c:ck):bR s aa c<=4:=by
 unfold bR;split
 ·omega
 ·split
  ·rename_i y r e;obtain⟨_,_,e⟩:=aB (show(ask _ _>>=λ_=>gp _)=_ from e);unfold gp at e;have:c.op=2:=by omega
   simp only[this]at e;exact avG rfl e
  ·omega
theorem eF.same{s:Nat}{st:bK}{H:List ae}{r:AV}(h:dq m p q s st qv rv H):eF m p q s H lo st qv r (.ret r ⟨H,lo⟩):=⟨qv,rv,H,lo,rfl,h,Fq.refl,gR.same rfl⟩
def eF.FL{s N:Nat}{c st:bK}{d:AV}{H W:List ae}(g:dq m p q s c a d H)(f:H.length=N)(h:dq m p q s st qv rv W)(j:Fq m [p,q,s] H W)(i:gR (qv=a) p H W none b)(e:v.refs<=N):
 eF m p q s H lo st a v (.ret (finish N lo v ⟨W,b⟩).1 (finish N lo v ⟨W,b⟩).2):=eF.fin (L:=[]) g f h (by grind) (by grind) e
def ajl{s:Nat}{st:bK}{H:List ae}(ha:dq m p q s st qv rv H)(hx:qi st)(e:Nat)(lo:oN):
 ∃a,D XC (.fn (.func 151) [] []) [.ptr s 0,.agg [.int .i64 e,.int .u64 0,.int .u32 0]] ⟨H,lo⟩=some a/\eF m p q s H lo (oy st {bu with e:=e}) qv (.aA []) a:=TN ha hx {bu with e:=e} lo
section
variable(hD: ∀op,oG op){m p q s:Nat}{st:bK}{qv rv:AV}{H:List ae}(ha:dq m p q s st qv rv H)(hx:qi st)(lo:oN)
include hD ha hx
theorem avH: ∃f,D XC (.fn (.func 140) [] []) [.ptr s 0] ⟨H,lo⟩=some f/\eF m p q s H lo (gz st).1 qv (.bool (gz st).2) f:=by
 refine cI Bu λN b=>?_
 have k:s<N:=by rw[<-b];exact ha.lt
 have hw:=avr st.x.S hx.x.S st.c.aa hx.c.aa st.c.c hx.c.gC (hD _);have g:=aiO st.x.S hx.x.S st.c.aa hx.c.aa st.c.c hx.c.gC (hD _);unfold gz;cases d:st.c.checked with
 |true=>
  simp(disch:=omega) only[F1,go_sem,simprocAttr,Bu,ha.box,PL,d];exact eF.same ha
 |false=>
  cases i:Kw st.x.S st.c.aa st.c.c with
  |true=>
   rw[i]at hw;simp only[F1,go_sem,simprocAttr,Bu,b,ha.box,ha.co.box,PL,↓PL,KL,↓KL,d,hw];exact eF.same ha
  |false=>
   rw[i]at hw;by_cases h:lD st.x.S st.c.aa st.c.c=0
   ·have a: ((lD st.x.S st.c.aa st.c.c:Nat):Int)=0:=by omega
    obtain⟨v,d1,d2⟩:=avA hx.x.S hx.c.gC H none;obtain⟨t1,t2⟩:=rK (d2 ⟨[],none⟩);have t3:=dy d2 (bL (λ_=>rfl) _);have e:=λo=>cZ (o:=o) ha.box
    simp only[go_sem,simprocAttr,Bu,b,ha.box,ha.co.box,PL,↓PL,KL,↓KL,PS,d,hw,g,a,d1,t1,t2,t3,e,ake];rw[ac0 (λq=>q h)];exact eF.FL (v:=.bool true) ha b (ha.set (qh:={st with c:={st.c with checked:=true,ba:=xd st.x.S st.c.c}}) rfl d2) (ha.fs _) (.inl ⟨rfl,by simp,rfl⟩) (adC _)
   ·have a: ¬((lD st.x.S st.c.aa st.c.c:Nat):Int)=0:=by omega
    obtain⟨f,g1,j,rL,W,aj,rfl,g2,n,l⟩:=ajl ha hx (lD st.x.S st.c.aa st.c.c) none;simp only[go_sem,simprocAttr,Bu,b,ha.box,ha.co.box,PL,↓PL,KL,↓KL,d,hw,g,a,g1];rw[ac6 h];exact eF.FL ha b g2 n l (adC _)
omit hD in
theorem avI: ∃R,D XC (.fn (.func 141) [] []) [.ptr s 0] ⟨H,lo⟩=some R/\eF m p q s H lo (gA st).1 qv (.bool (gA st).2) R:=by
 have ho:Old s H (.box (ea st p rv) none):=⟨ha.box⟩;refine cI Ez λN n=>?_
 have T:s<N:=by rw[<-n];exact ha.lt
 have U:p<N:=by have:=ha.ps;omega
 have a:=ha.ba.bZ (E:=⟨H,none⟩);unfold gA;cases G:st.c.ba with
 |nil=>
  rw[G]at a;simp(disch:=omega) only[F1,go_sem,simprocAttr,Ez,n,ha.box,PL,a];exact eF.same ha
 |cons h t=>
  have f:=ha.ba;rw[G]at a f;have Q: ¬((t.length:Nat):Int)+1=0:=by omega
  have A:jL 1 rv (.int .i64 0)=some (dw rv 0 0):=by
   rw[f.cn,ac6 ⟨by omega,by simp⟩];rfl
  have y: ∀E,cp XC E false 1 (dw rv 0 0)=some (.int .u32 h):=λE=>f.cE (by simp)
  have e:=λH lo=>c0 (kg h (hx.c.ba h (by rw[G];simp)) H lo)
  have F: ((eX h).getD 0)=aI h:=rfl;unfold jo at e;rw[F]at e;have d:=λH lo=>c0 (auW st.x.M hx.x.M (aI h) st.c.aa hx.c.aa H lo)
  have B:o7.length=320:=by decide
  have r:List.drop 320 o7=[]:=ahz (by rw[B];omega);have u: ∀m:Marks,List.take 320 (dc m)=dc m:=λm=>adz (by rw[eD];omega)
  have K:=λL=>bm (L:=L) ha.box
  have z:=λL=>bm (L:=L) ha.co.box
  have v:=λm=>eD m
  obtain⟨c,C⟩: ∃c,rv= .sl ((h::t).map hC) c:=by
   obtain⟨S,l,V⟩:=f ⟨[],none⟩;cases rv<;>simp only[]at S
   ·simp[Den.elems]at l
   ·rename_i af c;simp only[Den.elems]at l;split at l
    ·cases l;exact⟨c,rfl⟩
    ·cases l
   ·simp[Den.elems]at l
  obtain⟨w,s1,s2⟩:=aiF (sz:=1) (af:=(h::t).map hC) (c:=c) (i:=1) (by intro el J;obtain⟨x,_,rfl⟩:=aeO.1 J;rfl) (by simp);rw[<-C]at s1;have s1:gE 1 rv (some (.int .i64 1)) none none=some w:=s1;obtain⟨t1,t2⟩:=rK (s2 ⟨[],none⟩);have t3:=dy s2 (bL (g:=hC) (λ_=>rfl) t);have I: ∀L o,((H++L).set p o)[s]?=some (.box (ea st p rv) none):=λL o=>(ach (by have:=ha.ps;omega)).trans (K L)
  obtain⟨j,k⟩: ∃j,j=(jm st.x.M (aI h) st.c.aa).1:=⟨_,rfl⟩;have O:=(ha.app [.box (dc j) none]).av ((ha.app [.box (dc j) none]).co.aiX j) ((ha.app [.box (dc j) none]).co.fp _);have P:=(ha.app [.box (dc j) none]).co.fp (.box (c7 {st.x with M:=j} q qv) none);rw[<-k]at d;cases b: (jm st.x.M (aI h) st.c.aa).2 with
  |true=>
   rw[b]at d;simp(disch:=omega) only[go_sem,simprocAttr,Ez,n,ha.box,K,z,I,PL,↓PL,PS,KL,↓KL,KS,a,Q,A,y,e,d,B,r,u,v,kj,s1,t1,t2,t3];rw[ac6 b,<-k];exact eF.fin ha n (O.set (qh:={st with x:={st.x with M:=j},c:={st.c with ba:=t}}) rfl s2) (P.m3.trans (O.fs _)) (.inl ⟨rfl,by simp,rfl⟩) (adC _)
  |false=>
   rw[b]at d;simp(disch:=omega) only[go_sem,simprocAttr,Ez,n,ha.box,K,z,PL,↓PL,KL,↓KL,KS,a,Q,A,y,e,d,B,r,u,v,kj];rw[ac0 (by rw[b];simp),<-k];exact eF.fin ha n O P.m3 (.inl ⟨rfl,by simp,rfl⟩) (adC _)
theorem avJ: ∃k,D XC (.fn (.func 142) [] []) [.ptr s 0] ⟨H,lo⟩=some k/\eF m p q s H lo (gq st).1 qv (.bool (gq st).2) k:=by
 have ho:Old s H (.box (ea st p rv) none):=⟨ha.box⟩;refine cI Bv λN e=>?_
 have h:=λH lo=>cB (Ln st.x.S hx.x.S st.c.aa hx.c.aa st.c.c hx.c.gC (hD _) H lo)
 have u:=ajk st.x.S st.c.aa st.c.c;unfold gq;dsimp only;by_cases w:bR st.x.S st.c.aa st.c.c=0
 ·have a:decide (((bR st.x.S st.c.aa st.c.c:Nat):Int)=0)=true:=ady (by omega);rw[ac6 (.inl w)];simp only[F1,go_sem,simprocAttr,Bv,e,ha.box,ha.co.box,PL,↓PL,KL,↓KL,h,a];exact eF.same ha
 ·have a:decide (((bR st.x.S st.c.aa st.c.c:Nat):Int)=0)=false:=adb (by omega);by_cases v:0<st.c.run.2
  ·have b: ((st.c.run.2:Nat):Int)>0:=by omega
   rw[ac6 (.inr v)];simp only[F1,go_sem,simprocAttr,Bv,e,ha.box,ha.co.box,PL,↓PL,KL,↓KL,h,a,b];exact eF.same ha
  ·have b: ¬((st.c.run.2:Nat):Int)>0:=by omega
   rw[ac0 (by omega)];have g:=λlo=>avq hx.x.P ha.co.jr lo (n:=bR st.x.S st.c.aa st.c.c) (by omega)
   have i:=ha.av (ha.co.FK (fI st.x.P (bR st.x.S st.c.aa st.c.c)).1) (ha.co.fq _);have l:=ha.co.fq (.box (cw (fI st.x.P (bR st.x.S st.c.aa st.c.c)).1) none);have j:qi {st with x:={st.x with P:=(fI st.x.P (bR st.x.S st.c.aa st.c.c)).1}}:=⟨⟨hx.x.S,hx.x.P.ajj _,hx.x.M,hx.x.Q,hx.x.Ql⟩,hx.c⟩;generalize t:fI st.x.P (bR st.x.S st.c.aa st.c.c)=pc at*;by_cases o:pc.2.2=0
   ·have d:decide (((pc.2.2:Nat):Int)=0)=true:=ady (by omega);rw[ac0 (λq=>q o)];have f: [AV.int .i64 (pc.2.1:Nat),.int .i64 ((bR st.x.S st.c.aa st.c.c:Nat))]=aD (pc.2.1,bR st.x.S st.c.aa st.c.c):=rfl;simp only[go_sem,simprocAttr,Bv,e,ha.box,ha.co.box,PL,↓PL,KL,↓KL,h,a,b,g,d,i.box,f,PS];exact eF.FL ha e (i.set (qh:={st with x:={st.x with P:=pc.1},c:={st.c with run:=(pc.2.1,bR st.x.S st.c.aa st.c.c)}}) rfl ha.ba) (l.m3.trans (i.fs _)) (.inl ⟨rfl,by simp,rfl⟩) (adC _)
   ·have d:decide (((pc.2.2:Nat):Int)=0)=false:=adb (by omega);rw[ac6 o];obtain⟨k,g1,r,rL,W,aj,rfl,g2,z,y⟩:=ajl i j pc.2.2 none;simp only[go_sem,simprocAttr,Bv,e,ha.box,ha.co.box,PL,↓PL,KL,↓KL,h,a,b,g,d,g1];exact eF.FL ha e g2 (l.m3.trans z) (y.elim (λq=>.inl ⟨q.1,by rw[q.2.1,aeU],q.2.2⟩) .inr) (adC _)
omit hD in
theorem avK: ∃h,D XC (.fn (.func 143) [] []) [.ptr s 0] ⟨H,lo⟩=some h/\eF m p q s H lo (il st).1 qv (.bool (il st).2) h:=by
 have ho:Old s H (.box (ea st p rv) none):=⟨ha.box⟩;refine cI Jw λN e=>?_
 have j:=hx.c.run;have k:=hx.c.fx;unfold il;by_cases g:st.c.run.2<=st.c.fx
 ·have a: ((st.c.fx:Nat):Int)>=st.c.run.2:=by omega
  rw[ac6 g];simp(disch:=omega) only[F1,go_sem,simprocAttr,Jw,e,ha.box,PL,a];exact eF.same ha
 ·have a: ¬((st.c.fx:Nat):Int)>=st.c.run.2:=by omega
  rw[ac0 g];have d: ∀lo,D XC (.fn (.func 155) [] []) [.ptr q 0,.int .i64 ((st.c.run.1:Int)+st.c.fx)] ⟨H,lo⟩=_:=λlo=>c0 (avl hx.x.P ha.co.jr lo (i:=st.c.run.1+st.c.fx) (by omega))
  have f:=ha.av (ha.co.FK (ny st.x.P (st.c.run.1+st.c.fx))) (ha.co.fq _);have l:=ha.co.fq (.box (cw (ny st.x.P (st.c.run.1+st.c.fx))) none);have b: ∀x,aN (ea {st with x:=x} p rv) 12 [.int .i64 ((st.c.fx:Int)+1)]=ea {st with x:=x,c:={st.c with fx:=st.c.fx+1}} p rv:=λ_=>rfl
  simp(disch:=omega) only[go_sem,simprocAttr,Jw,e,ha.box,ha.co.box,PL,KL,a,d,f.box,b,TJ];exact eF.FL ha e (f.set (qh:={st with x:={st.x with P:=ny st.x.P (st.c.run.1+st.c.fx)},c:={st.c with fx:=st.c.fx+1}}) rfl ha.ba) (l.m3.trans (f.fs _)) (.inl ⟨rfl,by simp,rfl⟩) (adC _)
end
theorem ajm: ∀ (l:List aC) (b x k:Nat),(∀r∈l,r.1+r.2<=64)->kM l b x=some k->k<=2048+x
 | [],_,_,_,_,h=>by cases h
 |r::rs,b,x,k,a,h=>by
  rw[agD]at h;split at h
  ·grind
  ·exact ajm rs _ x k (λz c=>a z (by grind)) h
def ajn{s:aZ}(d:aV s)(c:ck): (gN s c).1.length<=8/\ ∀k∈(gN s c).1,k<65536:=by
 unfold gN;split
 ·simp
 split
 ·simp
 split
 ·simp
 ·rename_i m l j;refine⟨by simp;omega,λk f=>?_⟩;obtain⟨i,h,rfl⟩:=aeO.1 f;have g:=anc.1 h;have b:=d.T.get c.r;have a:=b.len;cases he:kM (aE s.T c.r).1.runs 0 (c.a+i)with
  |none=>simp
  |some v=>
   have:=ajm _ _ _ _ (λr e=>(b.runs r e).2) he;simp;omega
def avL(v i:Nat)(a:i<8):k5 .shr (.int .u64 v) (.int .i64 (8*(i:Int)))=some (.int .u64 ((v/2^(8*i):Nat))):=by
 rw[Db,ac6 (by omega)];have b:min (8*(i:Int)).toNat IntKind.u64.bits=8*i:=by
  have:IntKind.u64.bits=64:=rfl;omega
 grind
def ajo(b i:Nat)(f:b<256)(e:i<8):k5 .shl (.int .u64 b) (.int .i64 (8*(i:Int)))=some (.int .u64 ((b*2^(8*i):Nat)))/\b*2^(8*i)<18446744073709551616:=by
 have a:b*2^(8*i)<18446744073709551616:=by
  rcases(show i=0\/i=1\/i=2\/i=3\/i=4\/i=5\/i=6\/i=7 by omega)with q|q|q|q|q|q|q|q<;>subst q<;>simp<;>omega
 refine⟨?_,a⟩;rw[AA,ac6 (by omega)];have d:min (8*(i:Int)).toNat IntKind.u64.bits=8*i:=by
  have:IntKind.u64.bits=64:=rfl;omega
 rw[d];have c: ((2:Int)^(8*i))=((2^(8*i):Nat):Int):=by rfl
 rw[c,<-Int.natCast_mul,wrap_u64 (by omega) (by omega)]
def ajp(a b:Nat)(d:a<18446744073709551616)(c:b<18446744073709551616):dE .or (.int .u64 a) (.int .u64 b)=some (.int .u64 ((a|||b:Nat)))/\a|||b<18446744073709551616:=by
 have f:a|||b<2^64:=Nat.or_lt_two_pow d c;refine⟨?_,f⟩;rw[Hi];have e: ∀n:Nat,n<18446744073709551616->(BitVec.ofInt IntKind.u64.bits (n:Int)).toNat=n:=by
  have:IntKind.u64.bits=64:=rfl
  grind
 rw[BitVec.toNat_or,e a d,e b c,wrap_u64 (by omega) (by omega)]
def avM(v i:Nat):IntKind.wrap .u8 ((v/2^(8*i):Nat):Int)=(byteOf v i:Nat):=aiy _
def uc(P:cJ)(pl:lN)(v k:Nat):cJ:=(List.range k).foldl (λP i=>lE P (pl.getD i 0) (byteOf v i)) P
def ajq(P:cJ)(pl:lN)(v k:Nat):uc P pl v (k+1)=lE (uc P pl v k) (pl.getD k 0) (byteOf v k):=by
 unfold uc;rw[aoZ,ang];rfl
def qj(P:cJ)(pl:lN)(v k:Nat):Nat:=(List.range k).foldl (λv i=>v|||rA P (pl.getD i 0)*2^(8*i)) v
def ajr(P:cJ)(pl:lN)(v k:Nat):qj P pl v (k+1)=qj P pl v k|||rA P (pl.getD k 0)*2^(8*k):=by
 unfold qj;rw[aoZ,ang];rfl
theorem TO{P:cJ}(h:fK P)(pl:lN)(v:Nat): ∀k,fK (uc P pl v k)
 |0=>h
 |k+1=>by rw[ajq];exact(TO h pl v k).write _ _ (anr _ (by omega))
def ajs{P:cJ}(h:fK P)(i:Nat):rA P i<256:=by
 unfold rA;split
 ·exact h.bytes _ _
 ·omega
theorem TP{P:cJ}(h:fK P)(pl:lN)(v:Nat)(a:v<18446744073709551616): ∀k,k<=8->qj P pl v k<18446744073709551616
 |0,_=>a
 |k+1,b=>by
  rw[ajr];exact(ajp _ _ (TP h pl v a k (by omega)) (ajo _ _ (ajs h _) (by omega)).2).2
def ajt{pv:AV}{pl:lN}(d:Rv pv 1 (pl.map jH))(v:pl.length<=8){f:Fn}{cs:lA}(m:AV)(F:Nat->List ae)(t: ∀k,(F k).length=(F 0).length)
  (p: ∀k,k<pl.length->D XC (.fn f [] cs) [.int .i64 (pl.getD k 0:Nat),.int .i64 k] ⟨F k,none⟩=some (.ret (.aA []) ⟨F (k+1),none⟩)) (lo:oN):
  D XC (.fn (.func 157) [] []) [m,pv,.fn f [] cs] ⟨F 0,lo⟩=some (.ret (.aA []) ⟨F pl.length,lo⟩):=by
 refine aK P5 λN r=>?_
 simp only[go_sem,simprocAttr,P5,d.bZ];refine fE pl.length (λk e H'=>H'=F k/\e 2= .fn f [] cs/\e 8=pv/\e 9= .int .i64 pl.length/\e 10= .int .i64 k) 0 (by omega) ?_ ?_
 ·simp only[go_sem,simprocAttr]
 rintro k w e H' ⟨rfl,s,l,j,b⟩ n u;simp only[cm,F1,go_sem,simprocAttr,ad7,l,j,b];refine⟨λo=>?_,λo=>?_⟩
 ·have a:k<pl.length:=by omega
  have i: ∀y,(jH y)[0]?=some (.int .i64 y):=λ_=>rfl
  have g:pl.getD k default=pl.getD k 0:=rfl;have h:=p k a;simp(disch:=omega) only[go_sem,simprocAttr,s,l,j,b,d.cn,d.cE,i,g,h];exact⟨by omega,a⟩
 ·obtain rfl:k=pl.length:=by omega
  have q: (F pl.length).length=N:=by rw[t,r]
  have c: (F pl.length).take N=F pl.length:=adz (by omega);simp only[go_sem,simprocAttr,c]
def avN{s:Nat}{st:bK}{W:List ae}(f:dq m p q s st qv rv W)(k:fK st.x.P){n g:Nat}(t:W[n]?=some (.box [.ptr s 0] none))(r:W[g]?=some (.box (bq c) none))(at' i:Nat)(j:at'<65536)(h:i<8)(lo:oN):
  D XC (.fn (.func 158) [] [.ptr n 0,.ptr g 0]) [.int .i64 at',.int .i64 i] ⟨W,lo⟩=some (.ret (.aA []) ⟨W.set q (.box (cw (lE st.x.P at' (byteOf c.v i))) none),lo⟩):=by
 refine fi P6 λN l=>?_
 have hw:=λlo=>c0 (avp k f.co.jr lo (at':=at') (b:=byteOf c.v i) (by omega))
 have a: ∀o,(W.set q o).take N=W.set q o:=λo=>adz (by grind)
 have d:=avL c.v i h;have e:=avM c.v i;simp(disch:=omega) only[F1,go_sem,simprocAttr,P6,l,t,r,f.box,f.co.box,PL,KL,gQ,d,e,hw,a]
def avO{s:Nat}{st:bK}{W:List ae}(e:dq m p q s st qv rv W)(f:fK st.x.P){n a:Nat}(h:r.v<18446744073709551616)(w:W[n]?=some (.box [.ptr s 0] none))(u:W[a]?=some (.box (bB r) none))(at' i:Nat)(l:at'<65536)(j:i<8)(lo:oN):
  D XC (.fn (.func 160) [] [.ptr n 0,.ptr a 0]) [.int .i64 at',.int .i64 i] ⟨W,lo⟩=some (.ret (.aA []) ⟨W.set a (.box (bB {r with v:=r.v|||rA st.x.P at'*2^(8*i)}) none),lo⟩):=by
 refine fi P7 λN t=>?_
 have hw:=λlo=>c0 (avo f e.co.jr lo (at':=at') (by omega))
 have b: ∀o,(W.set a o).take N=W.set a o:=λo=>adz (by grind)
 have k:=ajs f at';obtain⟨s1,s2⟩:=ajo (rA st.x.P at') i k j;obtain⟨g,x⟩:=ajp r.v (rA st.x.P at'*2^(8*i)) h s2;have d: (bB r)[1]?=some (.int .u64 r.v):=rfl;have c: ∀n:Nat,aN (bB r) 1 [.int .u64 n]=bB {r with v:=n}:=λ_=>rfl
 simp(disch:=omega) only[F1,go_sem,simprocAttr,P7,t,w,u,e.box,e.co.box,PL,KL,hw,s1,g,d,c,b,s9]
def ud:PC->PC|.seq a _=>a|x=>x
def ue:PC->PC|.seq _ b=>b|x=>x
def ga(Q:Prop)(B:Nat)(lo:oN):Prop:=(lo=none/\Q)\/ ∃j,j<=B/\lo=some j
theorem ga.no{B:Nat}(h:Q):ga Q B none:=.inl ⟨rfl,h⟩
def ga.step{e d:Prop}{B:Nat}{m l:List ae}{a:oN}(h:ga e B b)(g:gR d B m l b a)(f:e->d->Q):ga Q B a:=by
 rcases h with⟨rfl,h⟩| ⟨j,i,rfl⟩
 ·rcases g with⟨rfl,_,g⟩| ⟨k,c,rfl⟩
  ·exact .inl ⟨rfl,f h g⟩
  ·exact .inr ⟨k,c,rfl⟩
 ·rcases g with⟨rfl,_,_⟩| ⟨k,c,rfl⟩
  ·exact .inr ⟨j,i,rfl⟩
  ·exact .inr ⟨min k j,by omega,rfl⟩
def gR.n{B:Nat}{H H':List ae}(h:gR Q B H H' none lo):ga Q B lo:=(ga.no trivial).step h λ_ q=>q
def eF.aju{s N:Nat}{f st:bK}{g:AV}{H W:List ae}{c:oN}(e:dq m p q s f a g H)(l:H.length=N)(h:dq m p q s st qv rv W)(i:Fq m [p,q,s] H W)(o:ga (qv=a) p c)(n:v.refs<=N):
  eF m p q s H lo st a v (.ret (finish N lo v ⟨W,c⟩).1 (finish N lo v ⟨W,c⟩).2):=by
 have x:=e.lt;have w:=e.ps;have u:=e.co.mp;have t: ∃d b,finish N lo v ⟨W,c⟩=(v,⟨d,b⟩)/\Fq m [p,q,s] H d/\gR (qv=a) p H d lo b/\ (d=W\/ (d=W.take N/\qv=a)):=by
  rcases o with⟨rfl,k⟩| ⟨j,r,rfl⟩
  ·refine⟨W.take N,lo,jE (.inl rfl) n,i.take l (by omega),.inl ⟨rfl,?_,k⟩,.inr ⟨rfl,k⟩⟩;rw[af9];have:=i.len;omega
  ·exact⟨W,cO lo j,vR (by omega),i,.inr ⟨j,r,rfl⟩,.inl rfl⟩
 obtain⟨d,b,f1,f2,f3,f4⟩:=t;rw[f1];exact⟨qv,rv,d,b,rfl,h.oH f4 id e l,f2,f3⟩
def mZ(n:Nat):PC:=match n with
 |0=>ou.body
 |n+1=>ue (mZ n)
def km(n:Nat):PC:=ud (mZ n)
def TQ:PC:=mZ 3
def TR:PC:=mZ 6
def TS:PC:=mZ 7
theorem avP:ou.body= .seq (km 0) (.seq (km 1) (.seq (km 2) TQ)):=rfl
theorem avQ:TQ= .seq (km 3) (.seq (km 4) (.seq (km 5) TR)):=rfl
theorem avR:TR= .seq (km 6) TS:=rfl
theorem avS:TS= .seq (km 7) (.seq (km 8) (.seq (km 9) (mZ 10))):=rfl
def fa(st:bK):bK:=if 0<st.c.run.2/\bR st.x.S st.c.aa st.c.c≠st.c.run.2 then{st with x:=bT st.x st.c.run,c:={st.c with run:=(0,0)}}else st
structure CmS(m p q s N M:Nat)(H:List ae)(qv0 rv:AV)(st:bK)(c:ck)(nx:aZ)(r:bE)(bv:AV)(e:Env)(W:List ae)(lo:oN):Prop where
 e1:e 1= .ptr N 0
 e3:e 3= .ptr (N+1) 0
 e6:e 6= .ptr M 0
 e7:e 7= .ptr (M+1) 0
 e8:e 8=bv
 st: ∃qv,dq m p q s st qv rv W/\ga (qv=qv0) p lo
 w0:W[N]?=some (.box [.ptr s 0] none)
 w1:W[N+1]?=some (.box (bq c) none)
 w6:W[M]?=some (.box (bn nx) none)
 w7:W[M+1]?=some (.box (bB r) none)
 fr:Fq m [p,q,s] H W
 sN:s<N
 NM:N+2<=M
theorem Ce: ∀ (l:List aC) (x:Core),(∀r∈l,r.2<=64)->(l.foldl bT x).Q.length<=x.Q.length+64*l.length
 | [],_,_=>by simp
 |r::l,x,h=>by
  have:=Ce l (bT x r) (λz a=>h z (by grind));have b: (bT x r).Q.length=x.Q.length+r.2:=by simp[bT,gy]
  grind
theorem TT: ∀ (l:List aC) (x:Core),(l.foldl bT x).S=x.S/\ (l.foldl bT x).P=x.P/\ (l.foldl bT x).M=x.M
 | [],_=>⟨rfl,rfl,rfl⟩
 |r::l,x=>TT l (bT x r)
theorem TU: ∀ (l:List aC) (x:Core),(∀r∈l,r.1<=64/\r.2<=64)->(∀k∈x.Q,k<2147483648)-> ∀k∈(l.foldl bT x).Q,k<2147483648
 | [],_,_,h=>h
 |r::l,x,h,c=>TU l (bT x r) (λz b=>h z (by grind)) λk a=>by
  rcases adB.1 a with a|a
  ·grind
  ·obtain⟨i,d,rfl⟩:=aeO.1 a
   grind
def iV.ajw(a:iV x)(b: ∀r∈l,r.1<=64/\r.2<=64)(g:x.Q.length+64*l.length<8589934592):iV (l.foldl bT x):=by
 obtain⟨f,e,d⟩:=TT l x;exact⟨f ▸ a.S,e ▸ a.P,d ▸ a.M,TU l x b a.Q,by have:=Ce l x (λr c=>(b r c).2);omega⟩
def TV{s N:Nat}{H:List ae}{g T:AV}{R st:bK}{nx:aZ}{bv:AV}{back:List aC}{e:Env}{W:List ae}(h0:dq m p q s R g T H)(hN:H.length=N)
  (h:CmS m p q s N M H g rv st c nx r bv e W lo) (hb:Rv bv 2 (back.map aD)) (B:back.length<=4096/\ ∀r∈back,r.1<=64/\r.2<=64) (y:qi st) (Y:aV nx) (hQ:st.x.Q.length<4294967296) (F:oN):
  wp XC 144 false TS ⟨e,[]⟩ ⟨W,lo⟩ (dX XC N F [.t 2] (eF m p q s H F (oy {st with x:=back.foldl bT {st.x with S:=nx},c:={st.c with run:=(0,0)}} r) g (.bool true))):=by
 obtain⟨e1,e3,e6,e7,e8,⟨qv,d,f⟩,w0,w1,w6,w7,fr,sN,NM⟩:=h;have GG:=d.ps;have TW:=d.co.qp;have hmp:=d.co.mp;have Q:=d.av (d.co.aiY nx) (d.co.fp _);have O:=Q.set (qh:={st with x:={st.x with S:=nx},c:={st.c with run:=(0,0)}}) rfl d.ba;have hF:=(d.co.fp (.box (c7 {st.x with S:=nx} q qv) none)).m3.trans (Q.fs (.box (ea {st with x:={st.x with S:=nx},c:={st.c with run:=(0,0)}} p rv) none));have hw: ∀i o,i≠p->i≠s->W[i]?=some o->((W.set p (.box (c7 {st.x with S:=nx} q qv) none)).set s (.box (ea {st with x:={st.x with S:=nx},c:={st.c with run:=(0,0)}} p rv) none))[i]?=some o:=λi o hi hi2 ho=>by
  rw[ach (Ne.symm hi2),ach (Ne.symm hi)];exact ho
 have G: [AV.int .i64 0,.int .i64 0]=aD (0,0):=rfl;have J: ∀r:aC,(aD r).length=2:=λ_=>rfl
 have I: ∀r:aC,aL (aD r)=0:=λ_=>rfl
 have hNp: (N !=p)=true:=by simp;omega
 rw[avS];simp only[go_sem,simprocAttr,ou,km,mZ,ud,ue,e1,e6,e8,w0,w6,d.box,d.co.box,Q.box,PL,G,PS,KS,kH,hb.bZ,eg,J,I,zL,hNp];generalize hW1: (W.set p (.box (c7 {st.x with S:=nx} q qv) none)).set s (.box (ea {st with x:={st.x with S:=nx},c:={st.c with run:=(0,0)}} p rv) none)=W1 at*;refine gZ back.length (λk e P j=> ∃w,e 1= .ptr N 0/\e 7= .ptr (M+1) 0/\e 128=bv/\e 129= .int .i64 back.length/\e 130= .int .i64 k/\dq m p q s {st with x:=(back.take k).foldl bT {st.x with S:=nx},c:={st.c with run:=(0,0)}} w rv P/\ga (w=g) p j/\P[N]?=some (.box [.ptr s 0] none)/\P[M+1]?=some (.box (bB r) none)/\Fq m [p,q,s] H P) 0 (by omega) ?_ ?_
 ·refine⟨qv,?_⟩;simp only[go_sem,simprocAttr,e1,e7];exact⟨O,f,hw _ _ (by omega) (by omega) w0,hw _ _ (by omega) (by omega) w7,fr.trans hF⟩
 clear f Q O hF hw w0 w1 w6 w7 fr e1 e3 e6 e7 e8 d hW1;rintro k hk e P j ⟨w,e1,e7,v,u,t,d,f,w0,w7,fr⟩ n hn;have K:=λL=>bm (L:=L) w0
 have hbx:=λL=>bm (L:=L) d.box
 simp only[cm,go_sem,simprocAttr,ad5,e1,v,u,t];refine⟨λhh=>?_,λhh=>?_⟩
 ·have l:k<back.length:=by omega
  generalize A:back.getD k default=D at*;have An:=B.2 D (by rw[<-A];exact fX l);have V:=Ce (back.take k) {st.x with S:=nx} (λz hz=>(B.2 z (ahW hz)).2);have xW: (back.take k).length<=k:=by simp;omega
  obtain⟨cr,g1,E,W3,U,rfl,g2,C,g4⟩:=TI (d.co.app [.box (aD D) none]) D ⟨by omega,by omega⟩ (by
   have: ({st.x with S:=nx}:Core).Q=st.x.Q:=rfl;rw[this]at V;show((back.take k).foldl bT {st.x with S:=nx}).Q.length<_;omega) j
  simp(disch:=omega) only[go_sem,simprocAttr,e1,e7,v,u,t,hb.cn,hb.cE,A,hn,J,I,K,hbx,PL,g1];have hs:=(d.app [.box (aD D) none]).av g2 C;have hn1:N∉[p,q]:=by simp;omega
  have Z:M+1∉[p,q]:=by simp;omega
  have e0: (back.take (k+1)).foldl bT {st.x with S:=nx}=bT ((back.take k).foldl bT {st.x with S:=nx}) D:=by
   rw[<-A,agn,ac7 l,ang,aeN,ac7 l];rfl
  rw[e0];refine⟨by omega,l,E,hs,f.step g4 (λa b=>b.trans a),C.own hn1 (K _),C.own Z (bm w7),?_⟩;exact fr.trans (C.m3.pre (by have:=d.lt;omega))
 ·obtain rfl:k=back.length:=by omega
  rw[aeQ]at d;have X:qi {st with x:=back.foldl bT {st.x with S:=nx},c:={st.c with run:=(0,0)}}:=
   ⟨iV.ajw (x:={st.x with S:=nx}) ⟨Y,y.x.P,y.x.M,y.x.Q,by show st.x.Q.length<_;omega⟩ B.2 (by show st.x.Q.length+_<_;omega),⟨y.c.aa,y.c.gC,y.c.ba,⟨by show 0<65536;omega,by show 0<65536;omega⟩,y.c.fx⟩⟩
  obtain⟨cr,g1,E,rv3,W3,U,rfl,g2,C,g4⟩:=TN d X r j;simp only[go_sem,simprocAttr,e7,w0,w7,xD,s9,g1];exact eF.aju h0 hN g2 (fr.trans C) (f.step g4 λa b=>b.trans a) (adC _)
def dq.other{s:Nat}{st:bK}{W:List ae}(h:dq m p q s st qv rv W){cs:lA}(a:W[i]?=some (.box cs tg))(d:i≠p)(c:i≠q)(b:i≠s)(o:ae):dq m p q s st qv rv (W.set i o):=
 ⟨h.co.set a d c o,h.ps,(ach b).trans h.box,h.ba⟩
def zR(P:cJ)(c:ck)(pl:lN):cJ:=if c.op=4 then uc P pl c.v pl.length else P
def zS(P:cJ)(c:ck)(pl:lN)(v:Nat):Nat:=if c.op=3 then qj P pl v pl.length else v
def avZ{s N:Nat}{H:List ae}{j F:AV}{E st:bK}{nx:aZ}{bv pv:AV}{back:List aC}{pl:lN}{e:Env}{W:List ae}(T:dq m p q s E j F H)(O:H.length=N)
  (h:CmS m p q s N M H j rv st c nx r bv e W lo) (Y:e 4=pv) (z:Rv pv 1 (pl.map jH)) (A:pl.length<=8/\ ∀k∈pl,k<65536) (G:c.op=3->r.v<18446744073709551616) (K:Rv bv 2 (back.map aD)) (t:back.length<=4096/\ ∀r∈back,r.1<=64/\r.2<=64) (d:qi st) (l:aV nx) (L:st.x.Q.length<4294967296) (b:oN):
  wp XC 144 false TR ⟨e,[]⟩ ⟨W,lo⟩ (dX XC N b [.t 2] (eF m p q s H b (oy {st with x:=back.foldl bT {st.x with S:=nx,P:=zR st.x.P c pl},c:={st.c with run:=(0,0)}} {r with v:=zS st.x.P c pl r.v}) j (.bool true))):=by
 have h':=h;obtain⟨e1,e3,e6,e7,e8,⟨qv,a,n⟩,w0,w1,w6,w7,fr,sN,NM⟩:=h;have GG:=a.ps;have Z:=a.co.qp;have hmp:=a.co.mp;have B: ∀k,k<pl.length->pl.getD k 0<65536:=λk D=>by simp_all
 rw[avR];by_cases X:c.op=4
 ·have w: (c.op:Int)=4:=by omega
  have u:W.set q (.box (cw (uc st.x.P pl c.v 0)) none)=W:=pY a.co.jr;have g:=λlo=>ajt z A.1 (f:=.func 158) (cs:=[.ptr N 0,.ptr (N+1) 0]) (.ptr s 0) (λk=>W.set q (.box (cw (uc st.x.P pl c.v k)) none)) (λk=>by simp) (λk D=>by
   have Q:=a.av (a.co.FK (uc st.x.P pl c.v k)) (a.co.fq _);rw[avN Q (TO d.x.P pl c.v k) ((ach (by omega)).trans w0) ((ach (by omega)).trans w1) _ k (B k D) (by omega)];show some (aU.ret _ ⟨_,_⟩)=_;rw[ake,ajq]) lo
  simp only[u]at g;simp only[go_sem,simprocAttr,ou,km,mZ,ud,ue,e1,e3,Y,w0,w1,gQ,w,g];have U:zR st.x.P c pl=uc st.x.P pl c.v pl.length:=ac6 X;have C:zS st.x.P c pl r.v=r.v:=ac0 (by omega);rw[U,C];refine TV (rv:=rv) (M:=M) (c:=c) (nx:=nx) (r:=r) (bv:=bv) (back:=back) (st:={st with x:={st.x with P:=uc st.x.P pl c.v pl.length}}) T O ?_ K t ⟨⟨d.x.S,TO d.x.P pl c.v _,d.x.M,d.x.Q,d.x.Ql⟩,d.c⟩ l L b;exact⟨e1,e3,e6,e7,e8,⟨qv,a.av (a.co.FK _) (a.co.fq _),n⟩,(ach (by omega)).trans w0,(ach (by omega)).trans w1,(ach (by omega)).trans w6,(ach (by omega)).trans w7,fr.trans (a.co.fq _).m3,sN,NM⟩
 ·have w: ¬(c.op:Int)=4:=by omega
  have U:zR st.x.P c pl=st.x.P:=ac0 X;rw[U];by_cases R:c.op=3
  ·have y: (c.op:Int)=3:=by omega
   have u:W.set (M+1) (.box (bB {r with v:=qj st.x.P pl r.v 0}) none)=W:=pY w7;have g:=λlo=>ajt z A.1 (f:=.func 160) (cs:=[.ptr N 0,.ptr (M+1) 0]) (.ptr s 0) (λk=>W.set (M+1) (.box (bB {r with v:=qj st.x.P pl r.v k}) none)) (λk=>by simp) (λk D=>by
    have Q:=a.other w7 (by omega) (by omega) (by omega) (.box (bB {r with v:=qj st.x.P pl r.v k}) none);rw[avO Q d.x.P (r:={r with v:=qj st.x.P pl r.v k}) (TP d.x.P pl r.v (G R) k (by omega)) ((ach (by omega)).trans w0) (cZ w7) _ k (B k D) (by omega)];show some (aU.ret _ ⟨_,_⟩)=_;rw[ake,ajr]) lo
   simp only[u]at g;simp only[go_sem,simprocAttr,ou,km,mZ,ud,ue,e1,e3,Y,e7,w0,w1,gQ,y,g];have C:zS st.x.P c pl r.v=qj st.x.P pl r.v pl.length:=ac6 R;rw[C];have J:Fq m [p,q,s] H (W.set (M+1) (.box (bB {r with v:=qj st.x.P pl r.v pl.length}) none)):=⟨by rw[aeU];exact fr.len,λi I=>by rw[ach (by omega)];exact fr.low i I,λi o I ho V=>by
    have:=fy V;rw[ach (by omega)];exact fr.box i o I ho V⟩
   refine TV (rv:=rv) (M:=M) (c:=c) (nx:=nx) (bv:=bv) (back:=back) (r:={r with v:=qj st.x.P pl r.v pl.length}) T O ?_ K t d l L b;exact⟨e1,e3,e6,e7,e8,⟨qv,a.other w7 (by omega) (by omega) (by omega) _,n⟩,(ach (by omega)).trans w0,(ach (by omega)).trans w1,(ach (by omega)).trans w6,cZ w7,J,sN,NM⟩
  ·have y: ¬(c.op:Int)=3:=by omega
   have C:zS st.x.P c pl r.v=r.v:=ac0 R;rw[C];simp only[go_sem,simprocAttr,ou,km,mZ,ud,ue,e3,w1,gQ,w,y];refine TV (rv:=rv) (M:=M) (c:=c) (nx:=nx) (bv:=bv) (back:=back) (r:=r) T O ?_ K t d l L b;exact⟨e1,e3,e6,e7,e8,⟨qv,a,n⟩,w0,w1,w6,w7,fr,sN,NM⟩
structure rM(d:aZ×bE×List aC)(c:ck):Prop where
 S:aV d.1
 len:d.2.2.length<=4096
 runs: ∀r∈d.2.2,r.1<=64/\r.2<=64
 v:c.op=3->d.2.1.v<18446744073709551616
 w:d.2.1.w<4294967296
 e:d.2.1.e<4294967296
def LA(st:bK):bK:=
 let d:=bN st.x.S st.c.aa st.c.c st.c.run
 if d.2.1.e≠0 then oy st d.2.1
 else oy {st with x:=d.2.2.foldl bT {st.x with S:=d.1,P:=zR st.x.P st.c.c (gN st.x.S st.c.c).1},c:={st.c with run:=(0,0)}} {d.2.1 with v:=zS st.x.P st.c.c (gN st.x.S st.c.c).1 d.2.1.v}
theorem ajy(s:bK):nz s=LA (fa s):=by rfl
def TX{s N:Nat}{H:List ae}{h z:AV}{y st:bK}{e:Env}{W:List ae}(Y: ∀op,oG op)(F:dq m p q s y h z H)(E:H.length=N)
  (I:e 1= .ptr N 0) (G:e 3= .ptr (N+1) 0) (f:dq m p q s st qv rv W) (k:ga (qv=h) p lo) (x:W[N]?=some (.box [.ptr s 0] none)) (t:W[N+1]?=some (.box (bq st.c.c) none)) (J:Fq m [p,q,s] H W)
  (g:qi st) (v:rM (bN st.x.S st.c.aa st.c.c st.c.run) st.c.c) (X:st.x.Q.length<4294967296) (i:oN):
  wp XC 144 false TQ ⟨e,[]⟩ ⟨W,lo⟩ (dX XC N i [.t 2] (eF m p q s H i (LA st) h (.bool true))):=by
 have T:=f.ps;have S:=f.co.qp;have U:=f.co.mp;have sN:s<N:=by rw[<-E];exact F.lt
 have R:=g.c.run;obtain⟨pv,u,P⟩:=auO st.x.S g.x.S st.c.c g.c.gC W lo;have u:=cB u;obtain⟨bv,d1,d2⟩:=Lm st.x.S g.x.S st.c.aa g.c.aa st.c.c g.c.gC st.c.run ⟨by omega,by omega⟩ (Y _) (W++[.box m9 none,.box [.int .i64 0,.int .u64 0,.int .u32 0] none]) lo;have d1:=cB d1;have C:=ajn g.x.S st.c.c;unfold LA;dsimp only;generalize V:bN st.x.S st.c.aa st.c.c st.c.run=d at*;obtain⟨M,w⟩: ∃M,W.length=M:=⟨_,rfl⟩;have D:N+2<=M:=by have:=fy t;omega
 have B:=λL=>bm (L:=L) x
 have o:=λL=>bm (L:=L) f.box
 have A:=λL=>bm (L:=L) t
 have n:=λL=>bm (L:=L) f.co.box
 have l: (bB d.2.1)[0]?=some (.int .i64 d.2.1.e):=rfl;rw[avQ];by_cases he:d.2.1.e=0
 ·have j: ((d.2.1.e:Nat):Int)=0:=by omega
  rw[ac0 (λq=>q he)];simp only[go_sem,simprocAttr,ou,km,mZ,ud,ue,I,G,x,t,w,f.box,f.co.box,B,A,o,n,PL,↓PL,KL,↓KL,DZ,u,d1,l,j,kH,qg];refine avZ (rv:=rv) (M:=M) (c:=st.c.c) (nx:=d.1) (r:=d.2.1) (bv:=bv) (pv:=pv) (pl:=(gN st.x.S st.c.c).1) (back:=d.2.2) F E ?_ rfl P C v.v d2 ⟨v.len,v.runs⟩ g v.S X i;exact⟨I,G,rfl,rfl,rfl,⟨qv,f.app _,k⟩,B _,A _,by rw[dB w];rfl,by rw[bM w];rfl,J.trans (Fq.app _ (by omega)),sN,D⟩
 ·have j: ¬((d.2.1.e:Nat):Int)=0:=by omega
  rw[ac6 he];obtain⟨cr,g1,O,K,W2,Q,rfl,g2,g3,Z⟩:=TN (f.app [.box (bn d.1) none,.box (bB d.2.1) none]) g d.2.1 lo;simp only[go_sem,simprocAttr,ou,km,mZ,ud,ue,I,G,x,t,w,f.box,f.co.box,B,A,o,n,PL,↓PL,KL,↓KL,DZ,u,d1,l,j,kH,qg,g1];exact eF.aju F E g2 (J.trans (g3.pre (by omega))) (k.step Z λa b=>b.trans a) (adC _)
theorem TY:aL (bq c)=0:=rfl
def av0{s:Nat}{H:List ae}{st:bK}(t: ∀op,oG op)(a:dq m p q s st qv rv H)(b:qi st)(h:rM (bN (fa st).x.S (fa st).c.aa (fa st).c.c (fa st).c.run) st.c.c)(V:st.x.Q.length<2147483648)(lo:oN):
  ∃C,D XC (.fn (.func 144) [] []) [.ptr s 0] ⟨H,lo⟩=some C/\eF m p q s H lo (nz st) qv (.bool true) C:=by
 have ho:Old s H (.box (ea st p rv) none):=⟨a.box⟩;refine cI ou λN d=>?_
 have sN:s<N:=by rw[<-d];exact a.lt
 have R:=a.ps;have P:=a.co.qp;have S:=a.co.mp;rw[ajy,avP];have O:=b.c.run;have G:=λH lo=>cB (Ln st.x.S b.x.S st.c.aa b.c.aa st.c.c b.c.gC (t _) H lo)
 have F: (H++[.box [.ptr s 0] none,.box (bq st.c.c) none])[N]?=some (.box [.ptr s 0] none):=by rw[dB d];rfl
 have E: (H++[.box [.ptr s 0] none,.box (bq st.c.c) none])[N+1]?=some (.box (bq st.c.c) none):=by rw[bM d];rfl
 have f:=λL=>bm (L:=L) a.box
 have n:=λL=>bm (L:=L) a.co.box
 by_cases J:0<st.c.run.2
 ·have e: ((st.c.run.2:Nat):Int)>0:=by omega
  by_cases I:bR st.x.S st.c.aa st.c.c=st.c.run.2
  ·have g:decide (((bR st.x.S st.c.aa st.c.c:Nat):Int)=st.c.run.2)=true:=ady (by omega);have o:fa st=st:=ac0 (λq=>q.2 I);rw[o]at h⊢;simp only[go_sem,simprocAttr,ou,km,mZ,ud,ue,d,f,n,PL,↓PL,KL,↓KL,FD,Ll,TY,FH,e,G,g];exact TX t a d rfl rfl (a.app _) (ga.no rfl) F E (Fq.app _ (by omega)) b h (by omega) lo
  ·have g:decide (((bR st.x.S st.c.aa st.c.c:Nat):Int)=st.c.run.2)=false:=adb (by omega);have o:fa st={st with x:=bT st.x st.c.run,c:={st.c with run:=(0,0)}}:=ac6 ⟨J,I⟩;rw[o]at h⊢;obtain⟨C,g1,K,W,M,rfl,g2,u,U⟩:=TI (a.co.app [.box [.ptr s 0] none,.box (bq st.c.c) none]) st.c.run ⟨by omega,by omega⟩ (by omega) none;have v:=(a.app [.box [.ptr s 0] none,.box (bq st.c.c) none]).av g2 u;have B:N∉[p,q]:=by simp;omega
   have A:N+1∉[p,q]:=by simp;omega
   have v0:=u.own B F;have v1:=u.own A E;have j: [AV.int .i64 0,.int .i64 0]=aD (0,0):=rfl;have y: ∀r:aC,(aD r).length=2:=λ_=>rfl
   have w: ∀r:aC,aL (aD r)=0:=λ_=>rfl
   simp only[go_sem,simprocAttr,ou,km,mZ,ud,ue,d,f,n,PL,↓PL,KL,↓KL,FD,Ll,TY,FH,e,G,g,g1,v0,v.box,j,y,w,PS];have Q: (bT st.x st.c.run).Q.length=st.x.Q.length+st.c.run.2:=by simp[bT,gy]
   have z:qi {st with x:=bT st.x st.c.run,c:={st.c with run:=(0,0)}}:=⟨⟨b.x.S,b.x.P,b.x.M,λk l=>by
    rcases adB.1 l with l|l
    ·exact b.x.Q k l
    ·obtain⟨i,T,rfl⟩:=aeO.1 l;have:=anc.1 T;show st.c.run.1+i<_;omega,by show(bT st.x st.c.run).Q.length<_;omega⟩,⟨b.c.aa,b.c.gC,b.c.ba,⟨by show 0<65536;omega,by show 0<65536;omega⟩,b.c.fx⟩⟩
   refine TX (st:={st with x:=bT st.x st.c.run,c:={st.c with run:=(0,0)}}) t a d ?_ ?_ (v.set rfl a.ba) U.n ?_ ?_ ?_ z h (by show(bT st.x st.c.run).Q.length<_;omega) lo
   ·exact rfl
   ·exact rfl
   ·exact(ach (by omega)).trans v0
   ·exact(ach (by omega)).trans v1
   ·exact((Fq.app _ (by omega)).trans u.m3).trans (v.fs _)
 ·have e: ¬((st.c.run.2:Nat):Int)>0:=by omega
  have o:fa st=st:=ac0 (λq=>J q.1);rw[o]at h⊢;simp only[go_sem,simprocAttr,ou,km,mZ,ud,ue,d,f,PL,↓PL,FD,TY,FH,e];exact TX t a d rfl rfl (a.app _) (ga.no rfl) F E (Fq.app _ (by omega)) b h (by omega) lo
def eG:Nat->bK->bK×Bool
 |0=>gz|1=>gA|2=>gq|3=>il|_=>λs=>(nz s,true)
def ajz:Nat->FuncId
 |0=>140|1=>141|2=>142|3=>143|_=>144
def ajA{s:bK}(h: (gz s).2=false): (gz s).1=s:=by
 unfold gz at*;grind
def ajB{s:bK}(h: (gA s).2=false): (gA s).1=s:=by
 unfold gA at*;grind
def ajC{s:bK}(h: (gq s).2=false): (gq s).1=s:=by
 unfold gq at*;grind
def ajD{s:bK}(h: (il s).2=false): (il s).1=s:=by
 unfold il at*;grind
def av1{s:bK}(h: (eG k s).2=false): (eG k s).1=s:=by
 rcases(show k=0\/k=1\/k=2\/k=3\/4<=k by omega)with q|q|q|q|q
 ·subst q;exact ajA h
 ·subst q;exact ajB h
 ·subst q;exact ajC h
 ·subst q;exact ajD h
 ·obtain⟨j,rfl⟩: ∃j,k=j+4:=⟨k-4,by omega⟩;cases h
def m0(s:bK)(k:Nat):bK:=if(eG k s).2 then(eG k s).1 else match k with
 |0=>if(eG 1 s).2 then(eG 1 s).1 else if(eG 2 s).2 then(eG 2 s).1 else if(eG 3 s).2 then(eG 3 s).1 else(eG 4 s).1
 |1=>if(eG 2 s).2 then(eG 2 s).1 else if(eG 3 s).2 then(eG 3 s).1 else(eG 4 s).1
 |2=>if(eG 3 s).2 then(eG 3 s).1 else(eG 4 s).1
 |_=>(eG 4 s).1
def Cf{s:bK}(h: (eG k s).2=true):m0 s k=(eG k s).1:=by unfold m0;grind
def FM{s:bK}(b:k<4)(h: (eG k s).2=false):m0 s k=m0 s (k+1):=by
 have a: ¬(eG k s).2=true:=by grind
 rcases(show k=0\/k=1\/k=2\/k=3 by omega)with q|q|q|q<;>subst q
 ·exact(ac0 a: (if(eG 0 s).2=true then(eG 0 s).1 else m0 s 1)=m0 s 1)
 ·exact(ac0 a: (if(eG 1 s).2=true then(eG 1 s).1 else m0 s 2)=m0 s 2)
 ·exact(ac0 a: (if(eG 2 s).2=true then(eG 2 s).1 else m0 s 3)=m0 s 3)
 ·exact(ac0 a: (if(eG 3 s).2=true then(eG 3 s).1 else m0 s 4)=m0 s 4)
def av2(x:Core)(c:Call):ee x c=m0 ⟨x,c,bu,false⟩ 0:=by
 unfold ee;dsimp only;generalize(⟨x,c,bu,false⟩:bK)=s;cases e: (gz s).2 with
 |true=>rw[ac6 rfl,Cf (k:=0) e];rfl
 |false=>
  rw[ac0 (by simp),ajA e,FM (k:=0) (by omega) e];cases d: (gA s).2 with
  |true=>rw[ac6 rfl,Cf (k:=1) d];rfl
  |false=>
   rw[ac0 (by simp),ajB d,FM (k:=1) (by omega) d];cases b: (gq s).2 with
   |true=>rw[ac6 rfl,Cf (k:=2) b];rfl
   |false=>
    rw[ac0 (by simp),ajC b,FM (k:=2) (by omega) b];cases a: (il s).2 with
    |true=>rw[ac6 rfl,Cf (k:=3) a];rfl
    |false=>rw[ac0 (by simp),ajD a,FM (k:=3) (by omega) a,Cf (k:=4) rfl];rfl
def av3{s:Nat}{H:List ae}{st:bK}(c: ∀op,oG op)(b:dq m p q s st qv rv H)(a:qi st)(e:rM (bN (fa st).x.S (fa st).c.aa (fa st).c.c (fa st).c.run) st.c.c)(f:st.x.Q.length<2147483648)(k:Nat)(lo:oN):
  ∃d,D XC (.fn (.func (ajz k)) [] []) [.ptr s 0] ⟨H,lo⟩=some d/\eF m p q s H lo (eG k st).1 qv (.bool (eG k st).2) d:=by
 rcases(show k=0\/k=1\/k=2\/k=3\/4<=k by omega)with h|h|h|h|h
 ·subst h;exact avH c b a lo
 ·subst h;exact avI b a lo
 ·subst h;exact avJ c b a lo
 ·subst h;exact avK b a lo
 ·obtain⟨j,rfl⟩: ∃j,k=j+4:=⟨k-4,by omega⟩;exact av0 c b a e f lo
def av4{X:Ctx}{f:FuncId}{fs args:lA}{E:AS}{r:aU}(h:D X (.fn (.func f) [] []) (fs++args) E=some r):D X (.fn (.func f) fs []) args E=some r:=by
 obtain⟨n,a⟩:=yj h;cases n with
 |zero=>cases a
 |succ n=>exact Nj (n:=n+1) _ _ _ _ a
def LB(m p q:Nat)(H:List ae)(lo:oN)(st:bK)(qv:AV)(b:aU):Prop:=
 ∃a rL H' aj,b= .ret (.aA [.agg (ds st.c rL),.agg (bB st.r),.bool st.ended]) ⟨H',aj⟩/\dR m p q st.x a H'/\Rv rL 1 (st.c.ba.map hC)/\Fq m [p,q] H H'/\gR (a=qv) p H H' lo aj
def vU:lA:=[.int .i64 0,.int .u8 0,.int .u32 0,.int .u32 0,.int .u32 0,.int .u32 0,.int .u64 0,.bool false,.au,.int .i64 0,.int .i64 0,.int .i64 0]
def nN:lA:=[.int .i64 0,.int .u64 0,.int .u32 0]
def Fq.cut{S T:lN}{H B W:List ae}(h:Fq m S (H++B) W)(d: ∀i∈S,i∈T\/H.length<=i)(c:m<=H.length):Fq m T H W:=⟨by have:=h.len;grind,λi a=>by rw[h.low i a,List.getElem?_append_left (by omega)],λi o a ho b=>by
 exact h.box i o (λq=>by grind) ho (bm b)⟩
def Fq.out{T:lN}{H W:List ae}(h:Fq m T H W)(e:H.length<=i)(c:m<=H.length)(o:ae):Fq m T H (W.set i o):=⟨by rw[aeU];exact h.len,λj a=>by rw[ach (by omega)];exact h.low j a,λj o a ho b=>by
 have d:=fy b;rw[ach (by omega)];exact h.box j o a ho b⟩
def LB.fin{N:Nat}{H W:List ae}{i:Core}{st:bK}(e:dR m p q i a H)(g:H.length=N)(h:dR m p q st.x qv W)(c:Rv rv 1 (st.c.ba.map hC))(d:Fq m [p,q] H W)(l:ga (qv=a) p b):
  LB m p q H lo st a (.ret (finish N lo (.aA [.agg (ds st.c rv),.agg (bB st.r),.bool st.ended]) ⟨W,b⟩).1 (finish N lo (.aA [.agg (ds st.c rv),.agg (bB st.r),.bool st.ended]) ⟨W,b⟩).2):=by
 have s:=e.lt;have r:=e.mp;have k: (AV.aA [.agg (ds st.c rv),.agg (bB st.r),.bool st.ended]).refs<=N:=by
  have:=TM st.c (dy c (bL (λ_=>rfl) _));have o:= @qg st.r;simp[AV.refs,aL,this,o]
 rcases l with⟨rfl,f⟩| ⟨j,n,rfl⟩
 ·rw[jE (.inl rfl) k];refine⟨qv,rv,_,lo,rfl,h.oH (Q:=qv=a) (.inr ⟨rfl,f⟩) id e g,c,d.take g (by omega),.inl ⟨rfl,?_,f⟩⟩;rw[af9];have:=d.len;omega
 ·rw[vR (by omega)];exact⟨qv,rv,W,cO lo j,rfl,h,c,d,.inr ⟨j,n,rfl⟩⟩
def av5{H:List ae}{c:Call}(hD: ∀op,oG op)(J:dR m p q x qv H)(hx:iV x)(hc:fR c)(hr:Rv rv 1 (c.ba.map hC))
  (F:rM (bN (fa ⟨x,c,bu,false⟩).x.S (fa ⟨x,c,bu,false⟩).c.aa (fa ⟨x,c,bu,false⟩).c.c (fa ⟨x,c,bu,false⟩).c.run) c.c) (hQ:x.Q.length<2147483648) (lo:oN):
  ∃Y,D XC (.fn (.func 123) [] []) [.ptr p 0,.agg (ds c rv)] ⟨H,lo⟩=some Y/\LB m p q H lo (ee x c) qv Y:=by
 refine cI PJ λN l=>?_
 have oE:p<N:=by rw[<-l];exact J.lt
 have TW:=J.qp;have hmp:=J.mp;obtain⟨st,d⟩: ∃st:bK,st=⟨x,c,bu,false⟩:=⟨_,rfl⟩;have G: ∀ (c:Call) rv,List.take 12 (ds c rv)=ds c rv:=λ_ _=>rfl
 have v: ∀rv,AV.ptr p 0:: (ds c rv++[.int .i64 0,.int .u64 0,.int .u32 0,.bool false])=ea st p rv:=λrv=>by rw[d];rfl
 have hrz:=dy hr (bL (λ_=>rfl) _);obtain⟨B,hB⟩: ∃B:List ae,B=[.box (ds c rv) none,.box vU none,.box nN none,.box (ea st p rv) none]:=⟨_,rfl⟩;have hB4: (H++B).length=N+4:=by rw[hB];simp[l]
 have w:dq m p q (N+3) st qv rv (H++B):=by
  rw[d];exact⟨J.app B,by omega,by rw[hB,bM l,d];rfl,hr⟩
 have U:qi st:=by rw[d];exact⟨hx,hc⟩
 rw[av2,<-d];rw[<-d]at F;have F:rM (bN (fa st).x.S (fa st).c.aa (fa st).c.c (fa st).c.run) st.c.c:=by rw[d]at F⊢;exact F
 have I: ∀ (c:Call) rv,(ds c rv).length=12:=λ_ _=>rfl
 have agb:min 12 12=12:=rfl;have C: ∀k,k<5->qu false 5 1 (.agg [.fn (.func 140) [.ptr (N+3) 0] [],.fn (.func 141) [.ptr (N+3) 0] [],.fn (.func 142) [.ptr (N+3) 0] [],.fn (.func 143) [.ptr (N+3) 0] [],.fn (.func 144) [.ptr (N+3) 0] []]) (.int .i64 (k:Nat))=some (.fn (.func (ajz k)) [.ptr (N+3) 0] []):=by
  intro k hk;rcases(show k=0\/k=1\/k=2\/k=3\/k=4 by omega)with h|h|h|h|h<;>subst h<;>rfl
 generalize X:AV.agg [.fn (.func 140) [.ptr (N+3) 0] [],.fn (.func 141) [.ptr (N+3) 0] [],.fn (.func 142) [.ptr (N+3) 0] [],.fn (.func 143) [.ptr (N+3) 0] [],.fn (.func 144) [.ptr (N+3) 0] []]=Z at C;simp only[go_sem,simprocAttr,PJ,l,I,G,v,X];refine gZ 5 (λk e W j=> ∃g s,e 4= .ptr (N+1) 0/\e 5= .ptr (N+2) 0/\e 7= .ptr (N+3) 0/\e 24=Z/\e 25= .int .i64 k/\k<=4/\dq m p q (N+3) st g s W/\ga (g=qv) p j/\Fq m [p,q,N+3] (H++B) W/\m0 st 0=m0 st k) 0 (by omega) ?_ ?_
 ·refine⟨qv,rv,?_⟩;simp only[go_sem,simprocAttr];rw[hB]at w⊢;exact⟨w,ga.no trivial,Fq.refl⟩
 rintro k hk e W j ⟨g,s,e4,e5,e7,L,K,hk4,hs,y,hf,A⟩ n hn;have E:=C k (by omega);obtain⟨Y,g1,Q,P,M,KH,rfl,g2,g3,g4⟩:=av3 hD hs U F (by rw[d];exact hQ) k j;have g1:=av4 (fs:=[.ptr (N+3) 0]) (args:=[]) g1;simp only[cm,go_sem,simprocAttr,adZ,e7,L,K];refine⟨λ_=>?_,λhh=>absurd (show((k:Nat):Int)<5 by omega) hh⟩;have f:=hf.trans g3;cases r: (eG k st).2 with
 |true=>
  rw[r]at g1;have v1:M[N+1]?=some (.box vU none):=f.own (by simp;omega) (by rw[hB,bM l];rfl);have v2:M[N+2]?=some (.box nN none):=f.own (by simp;omega) (by rw[hB,bM l];rfl);have O: ∀o,(M.set (N+1) o)[N+2]?=some (.box nN none):=λo=>(ach (by omega)).trans v2
  have s1:=λo=>cZ (o:=o) v1
  have s2:=λo o'=>cZ (o:=o') (O o)
  have s3: ∀o o':ae,((M.set (N+1) o).set (N+2) o')[N+1]?=some o:=λo o'=>(ach (by omega)).trans (s1 o)
  have S:vU.length=12:=rfl;have R:nN.length=3:=rfl;have u:List.drop 12 vU=[]:=rfl;have t:List.drop 3 nN=[]:=rfl;have V:=TM (eG k st).1.c g2.rz;simp only[go_sem,simprocAttr,E,e4,e5,e7,g1,g2.box,v1,O,s2,s3,PL,↓PL,S,R,u,t,I,G,xD,s9,qg,V,zD];refine⟨by simp,by simp,?_⟩;rw[A,Cf r];have hq3:q<N:=by omega
  refine LB.fin J l ((g2.co.set v1 (by omega) (by omega) _).set (O _) (by omega) (by omega) _) g2.ba ?_ (y.step g4 λa b=>b.trans a);exact((f.cut (T:=[p,q]) (by intro i hi;simp at hi⊢;omega) (by omega)).out (by omega) (by omega) _).out (by omega) (by omega) _
 |false=>
  rw[r]at g1;have he:=av1 r;rw[he]at g2;have z:k<4:=by
   rcases(show k<4\/k=4 by omega)with q|q
   ·exact q
   ·subst q;cases r
  simp(disch:=omega) only[go_sem,simprocAttr,E,e4,e5,e7,L,K,g1]
  try refine⟨by omega,?_⟩
  exact⟨Q,P,by omega,g2,y.step g4 (λa b=>b.trans a),f,by rw[A,FM z r]⟩
def dm(x:ef):lA:=[.int .u8 x.op,.int .u8 x.a,.int .u8 x.b,.int .u8 x.c,.int .u16 x.n]
def dn(t:Task)(cv:AV):lA:=[cv,.int .i64 t.next]++arr 8 λi=>[.int .u64 (t.ba i)]
structure FN(x:ef):Prop where
 op:x.op<39
 a:x.a<8
 b:x.b<8
 c:x.c<8
 n:x.n<65536
 j:x.op=5\/x.op=6->x.n<=64
structure lL(t:Task):Prop where
 len:t.code.length<=64
 ins: ∀x∈t.code,FN x
 next:t.next<=64
 ba: ∀i,t.ba i<18446744073709551616
section
variable{t:Task}{cv:AV}
theorem xG: (dn t cv).length=10:=rfl
def FO(h:cv.refs=0):aL (dn t cv)=0:=by
 unfold dn;rw[E3,Kg (λ_=>rfl)];simp[aL,AV.refs,h]
theorem ajE: (dn t cv)[0]?=some cv:=rfl
theorem ajF: (dn t cv)[1]?=some (.int .i64 t.next):=rfl
theorem ajG: (dn t cv)[7]?=some (.int .u64 (t.ba 5)):=rfl
theorem ajH: (dn t cv)[8]?=some (.int .u64 (t.ba 6)):=rfl
theorem ajI:List.take 10 (dn t cv)=dn t cv:=rfl
def TZ(h:i<8): (dn t cv)[2+i]?=some (.int .u64 (t.ba i)):=by
 rcases(show i=0\/i=1\/i=2\/i=3\/i=4\/i=5\/i=6\/i=7 by omega)with q|q|q|q|q|q|q|q<;>subst q<;>rfl
theorem ajJ{n:Nat}:aN (dn t cv) 1 [.int .i64 n]=dn {t with next:=n} cv:=rfl
def FQ{v:Nat}(h:i<8):aN (dn t cv) (2+i) [.int .u64 v]=dn {t with ba:=ai t.ba i v} cv:=by
 rcases(show i=0\/i=1\/i=2\/i=3\/i=4\/i=5\/i=6\/i=7 by omega)with q|q|q|q|q|q|q|q<;>subst q<;>rfl
def TK:=gG @ajE<|gG @ajF<|gG @ajG<|gG @ajH<|gG @ajI<|gG @ajJ @xG
end
theorem ajK(x:ef): (dm x).length=5:=rfl
theorem ajL(x:ef):aL (dm x)=0:=rfl
theorem ajM(x:ef): (dm x)[0]?=some (.int .u8 x.op):=rfl
theorem ajN(x:ef): (dm x)[1]?=some (.int .u8 x.a):=rfl
theorem ajO(x:ef): (dm x)[2]?=some (.int .u8 x.b):=rfl
theorem ajP(x:ef): (dm x)[3]?=some (.int .u8 x.c):=rfl
theorem ajQ(x:ef): (dm x)[4]?=some (.int .u16 x.n):=rfl
theorem ajR(x:ef):List.take 5 (dm x)=dm x:=rfl
theorem ajS(x:ef):List.drop 5 (dm x)=[]:=rfl
def IL:type_of% @ajK/\type_of% @ajL/\type_of% @ajM/\type_of% @ajN/\type_of% @ajO/\type_of% @ajP/\type_of% @ajQ/\type_of% @ajR/\type_of% @ajS:=⟨ajK,ajL,ajM,ajN,ajO,ajP,ajQ,ajR,ajS⟩
def Cg:ef:=⟨0,0,0,0,0⟩
def FR(t:Task):AV:=.aA [.agg (dm ((rD t).getD Cg)),.bool (rD t).isSome]
section
variable{t:Task}{cv:AV}(hv:Rv cv 5 (t.code.map dm))(j0:lL t)(H:List ae)(lo:oN)
include hv j0
theorem T0:D X0 (.fn (.func 121) [] []) [.agg (dn t cv)] ⟨H,lo⟩=some (.ret (FR t) ⟨H,lo⟩):=by
 refine aK Js λN d=>?_
 have h:=j0.next;have i:=j0.len;have f: ¬((t.next:Nat):Int)<0:=by omega
 have a:=λE=>hv.bZ (E:=E)
 have c: [AV.int .u8 0,.int .u8 0,.int .u8 0,.int .u8 0,.int .u16 0]=dm Cg:=rfl;unfold FR rD;by_cases j:t.next<t.code.length
 ·have b: ¬((t.next:Nat):Int)>=t.code.length:=by omega
  have e:t.code[t.next]?=some (t.code.getD t.next default):=by grind
  rw[e];have g: (0:Int)<=t.next/\ (t.next:Int)<t.code.length:=by omega
  simp(disch:=omega) only[F1,go_sem,simprocAttr,Js,d,TK,f,a,b,hv.cn,hv.cE,g,IL,oY]
 ·have b: ((t.next:Nat):Int)>=t.code.length:=by omega
  have e:t.code[t.next]?=none:=akh (by omega);rw[e];simp only[F1,go_sem,simprocAttr,Js,d,TK,f,a,b,c,IL,oY]
omit hv j0 in
theorem zT(i:Nat)(a:i<8):D X0 (.fn (.func 122) [] []) [.agg (dn t cv),.int .u8 i] ⟨H,lo⟩=some (.ret (.int .u64 (t.ba i)) ⟨H,lo⟩):=by
 refine aK PI λN c=>?_
 have hm: ((i:Nat):Int).tmod 8=i:=by rw[Int.tmod_eq_emod_of_nonneg (by omega)];omega
 have b: (0:Int)<=i/\ (i:Int)<8:=by omega
 simp(disch:=omega) only[F1,go_sem,simprocAttr,PI,c,hm,b,TZ a]
omit hv in
theorem FT{x:ef}(a:rD t=some x):FN x:=by
 unfold rD at a;exact j0.ins x (amF a)
theorem T1:D X0 (.fn (.func 94) [] []) [.agg (dn t cv)] ⟨H,lo⟩=some (.ret (.aA [.agg (bq (jn t).1),.bool (jn t).2]) ⟨H,lo⟩):=by
 refine aK Bq λN f=>?_
 have b:=λH lo=>T0 hv j0 H lo
 have m: [AV.int .u8 0,.int .u32 0,.int .u32 0,.int .u32 0,.int .u32 0,.int .u64 0]=bq gP:=rfl;have l: [AV.int .u8 20,.int .u32 0,.int .u32 0,.int .u32 0,.int .u32 0,.int .u64 0]=bq {gP with op:=20}:=rfl;have a: [AV.int .u8 0,.int .u8 0,.int .u8 0,.int .u8 0,.int .u16 0]=dm Cg:=rfl;have ct: ∀c,List.take 6 (bq c)=bq c:=λ_=>rfl
 have v: ∀c,List.drop 6 (bq c)=[]:=λ_=>rfl
 unfold FR at b;unfold jn;cases h:rD t with
 |none=>
  rw[h]at b;simp only[azN,awN]at b;simp only[F1,go_sem,simprocAttr,Bq,f,TK,b,IL,a,oY];rfl
 |some x=>
  rw[h]at b;simp only[aj3,awM]at b;have ho:=FT j0 h;have p:=ho.op;have s:=j0.ba;by_cases j:x.op=0
  ·have d: (x.op:Int)=0:=by omega
   simp only[ac6 j];simp only[F1,go_sem,simprocAttr,Bq,f,TK,b,IL,a,d,oY];rfl
  ·have d:decide ((x.op:Int)=0)=false:=adb (by omega);by_cases k:x.op<=16
   ·have e: (x.op:Int)<=16:=by omega
    simp only[ac0 j,ac6 k];simp only[F1,go_sem,simprocAttr,Bq,f,TK,b,IL,a,d,e,oY];rfl
   ·have e: ¬(x.op:Int)<=16:=by omega
    have r:x.b % 8=x.b:=amX ho.b;have q:x.c % 8=x.c:=amX ho.c;have o: (x.op:Int)-16=((x.op-16:Nat):Int):=by omega
    have g: ∀n:Nat,IntKind.wrap .u32 (n:Int)=((n % 4294967296:Nat):Int):=λn=>by
     unfold IntKind.wrap IntKind.bits IntKind.signed;simp
    have u:=ho.n;have i:x.n % 4294967296=x.n:=amX (by omega);have rb:=λH lo=>zT (t:=t) (cv:=cv) H lo x.b ho.b
    have rc:=λH lo=>zT (t:=t) (cv:=cv) H lo x.c ho.c
    simp only[ac0 j,ac0 k,r,q];simp(disch:=omega) only[F1,go_sem,simprocAttr,Bq,f,TK,b,IL,a,d,e,oY,rb,rc,o,g,i];rfl
end
theorem wrap64(n:Nat):IntKind.wrap .u64 (n:Int)=((n % mf:Nat):Int):=by rfl
theorem ajT(n:Nat): ((n:Nat):Int).tmod 8=((n % 8:Nat):Int):=by rfl
section
variable{t:Task}{cv:AV}(hv:Rv cv 5 (t.code.map dm))(j0:lL t)
include hv j0
theorem av7(r:bE)(z:r.w<4294967296/\r.e<4294967296)(H:List ae)(lo:oN):
  D X0 (.fn (.func 145) [] []) [.agg (dn t cv),.agg (bB r)] ⟨H,lo⟩=some (.ret (.agg (dn (sT t r) cv)) ⟨H,lo⟩):=by
 refine aK EA λN i=>?_
 have b:=λH lo=>T0 hv j0 H lo
 have hw:=λH lo=>T1 hv j0 H lo
 have e: [AV.int .u8 0,.int .u8 0,.int .u8 0,.int .u8 0,.int .u16 0]=dm Cg:=rfl;have d: [AV.int .u8 0,.int .u32 0,.int .u32 0,.int .u32 0,.int .u32 0,.int .u64 0]=bq gP:=rfl;have k: ∀c,(bq c).length=6:=λ_=>rfl
 have l: ∀c,List.drop 6 (bq c)=[]:=λ_=>rfl
 have j: ∀c,aL (bq c)=0:=λ_=>rfl
 have f:=λt:Task=>FO (t:=t) (dy hv (bL (λ_=>rfl) _))
 have w:=j0.next;have u: (bB r)[0]?=some (.int .i64 r.e):=rfl;have s: (bB r)[1]?=some (.int .u64 r.v):=rfl;have q: (bB r)[2]?=some (.int .u32 r.w):=rfl;unfold FR at b;unfold sT;cases hx:rD t with
 |none=>
  rw[hx]at b;simp only[azN,awN]at b;simp only[F1,go_sem,simprocAttr,EA,i,TK,b,hw,IL,e,d,k,l,j,f]
 |some x=>
  rw[hx]at b;simp only[aj3,awM]at b;have ho:=FT j0 hx;cases g: (jn t).2 with
  |false=>
   rw[g]at hw;simp only[F1,go_sem,simprocAttr,EA,i,TK,b,hw,IL,e,d,k,l,j,f]
  |true=>
   rw[g]at hw;have h:x.a % 8<8:=by omega
   have y: (0:Int)<=(x.a % 8:Nat)/\ ((x.a % 8:Nat):Int)<8:=by omega
   have m:=λ (t:Task) (v:Nat)=>FQ (t:=t) (cv:=cv) (v:=v) h
   have p: ∀ (t:Task) (v:Nat),aN (dn t cv) 6 [.int .u64 v]=dn {t with ba:=ai t.ba 4 v} cv:=λ_ _=>rfl
   have o: ∀ (t:Task) (v:Nat),aN (dn t cv) 9 [.int .u64 v]=dn {t with ba:=ai t.ba 7 v} cv:=λ_ _=>rfl
   have s1: ∀ (t:Task) (n:Nat),aN (dn t cv) 1 [.int .i64 ((n:Int)+1)]=dn {t with next:=n+1} cv:=λ_ _=>rfl
   simp only[ae4];simp(disch:=omega) only[F1,go_sem,simprocAttr,EA,i,TK,b,hw,IL,e,d,k,l,j,f,ajT,y,m,p,o,s1,u,s,q];omega
end
section
variable{t:Task}{cv:AV}{x:ef}{n u5 u7 u8 a:Nat}{H:List ae}(hv:Rv cv 5 (t.code.map dm))(j0:lL t)(hx:FN x)(ha:a<8)(hn:H[n]?=some (.box (dn t cv) none))(h5:H[u5]?=some (.box (dm x) none))(h7:H[u7]?=some (.box [.ptr n (2+a)] none))(h8:H[u8]?=some (.box [.int .i64 ((t.next:Int)+1)] none))(lo:oN)
abbrev LC(t:Task)(a v:Nat):Task:={t with ba:=ai t.ba a v}
include ha hn h5 h7 hx in
theorem av8:D X0 (.fn (.func 126) [] [.ptr u5 0,.ptr u7 0]) [] ⟨H,lo⟩=some (.ret (.aA []) ⟨H.set n (.box (dn (LC t a x.n) cv) none),lo⟩):=by
 refine fi PM λN c=>?_
 have b: ∀o,(H.set n o).take N=H.set n o:=λo=>adz (by simp[c])
 have e:=hx.n;have f:2+a<=9:=by omega
 have d:=λ (v:Nat)=>FQ (t:=t) (cv:=cv) (v:=v) ha
 simp(disch:=omega) only[F1,go_sem,simprocAttr,PM,c,hn,h5,h7,IL,d,b,xG,f]
include ha hn h5 h7 hx in
theorem av9:D X0 (.fn (.func 127) [] [.ptr n 0,.ptr u5 0,.ptr u7 0]) [] ⟨H,lo⟩=some (.ret (.aA []) ⟨H.set n (.box (dn (LC t a ((t.ba x.b+t.ba x.c) % mf)) cv) none),lo⟩):=by
 refine fi PN λN c=>?_
 have b: ∀o,(H.set n o).take N=H.set n o:=λo=>adz (by simp[c])
 have e:2+a<=9:=by omega
 have d:=λ (v:Nat)=>FQ (t:=t) (cv:=cv) (v:=v) ha
 have rb:=λH lo=>zT (t:=t) (cv:=cv) H lo x.b hx.b
 have rc:=λH lo=>zT (t:=t) (cv:=cv) H lo x.c hx.c
 have hw:IntKind.wrap .u64 ((t.ba x.b:Int)+t.ba x.c)=(((t.ba x.b+t.ba x.c) % mf:Nat):Int):=wrap64 (t.ba x.b+t.ba x.c);simp(disch:=omega) only[F1,go_sem,simprocAttr,PN,c,hn,h5,h7,IL,TK,rb,rc,hw,d,b,e]
include j0 ha hn h5 h7 hx in
theorem awa:D X0 (.fn (.func 128) [] [.ptr n 0,.ptr u5 0,.ptr u7 0]) [] ⟨H,lo⟩=some (.ret (.aA []) ⟨H.set n (.box (dn (LC t a ((t.ba x.b+mf-t.ba x.c) % mf)) cv) none),lo⟩):=by
 refine fi PO λN c=>?_
 have b: ∀o,(H.set n o).take N=H.set n o:=λo=>adz (by simp[c])
 have e:2+a<=9:=by omega
 have d:=λ (v:Nat)=>FQ (t:=t) (cv:=cv) (v:=v) ha
 have rb:=λH lo=>zT (t:=t) (cv:=cv) H lo x.b hx.b
 have rc:=λH lo=>zT (t:=t) (cv:=cv) H lo x.c hx.c
 have g:=j0.ba x.b;have f:=j0.ba x.c;have hw:IntKind.wrap .u64 ((t.ba x.b:Int)-t.ba x.c)=(((t.ba x.b+mf-t.ba x.c) % mf:Nat):Int):=by
  unfold IntKind.wrap IntKind.bits IntKind.signed mf;simp;omega
 simp(disch:=omega) only[F1,go_sem,simprocAttr,PO,c,hn,h5,h7,IL,TK,rb,rc,hw,d,b,e]
include ha hn h5 h7 hx in
theorem awb:D X0 (.fn (.func 129) [] [.ptr n 0,.ptr u5 0,.ptr u7 0]) [] ⟨H,lo⟩=some (.ret (.aA []) ⟨H.set n (.box (dn (LC t a (t.ba x.b*2^x.n % mf)) cv) none),lo⟩):=by
 refine fi PQ λN d=>?_
 have b: ∀o,(H.set n o).take N=H.set n o:=λo=>adz (by simp[d])
 have f:2+a<=9:=by omega
 have e:=λ (v:Nat)=>FQ (t:=t) (cv:=cv) (v:=v) ha
 have rb:=λH lo=>zT (t:=t) (cv:=cv) H lo x.b hx.b
 have c:k5 .shl (.int .u64 (t.ba x.b)) (.int .u16 x.n)=some (.int .u64 ((t.ba x.b*2^x.n % mf:Nat))):=by
  rw[AA,ac6 (by omega)];have i: ∀k:Nat,((2:Int)^k)=((2^k:Nat):Int):=λk=>by rw[Int.natCast_pow];rfl
  rw[i,<-Int.natCast_mul,wrap64];have l:IntKind.u64.bits=64:=rfl;by_cases h:x.n<=64
  ·rw[show min ((x.n:Nat):Int).toNat IntKind.u64.bits=x.n by omega]
  ·rw[show min ((x.n:Nat):Int).toNat IntKind.u64.bits=64 by omega];have e1:t.ba x.b*2^64 % mf=0:=Nat.mul_mod_left _ _;have j:t.ba x.b*2^x.n % mf=0:=by
    obtain⟨k,g⟩:=Nat.exists_eq_add_of_le (show 64<=x.n by omega);rw[g,Nat.pow_add,<-Nat.mul_assoc,Nat.mul_right_comm];exact Nat.mul_mod_left _ _
   rw[e1,j]
 simp(disch:=omega) only[F1,go_sem,simprocAttr,PQ,d,hn,h5,h7,IL,TK,rb,c,e,b,f]
include h5 h8 hx in
theorem awc:D X0 (.fn (.func 130) [] [.ptr u5 0,.ptr u8 0]) [] ⟨H,lo⟩=some (.ret (.aA []) ⟨H.set u8 (.box [.int .i64 x.n] none),lo⟩):=by
 refine fi PR λN c=>?_
 have b: ∀o,(H.set u8 o).take N=H.set u8 o:=λo=>adz (by simp[c])
 have d:=hx.n;simp(disch:=omega) only[F1,go_sem,simprocAttr,PR,c,h5,h8,IL,b]
include ha hn h5 h7 h8 hx in
theorem awd:D X0 (.fn (.func 131) [] [.ptr u7 0,.ptr u5 0,.ptr u8 0]) [] ⟨H,lo⟩=some (.ret (.aA []) ⟨H.set u8 (.box [.int .i64 ((if t.ba a≠0 then x.n else t.next+1:Nat))] none),lo⟩):=by
 refine fi Jt λN c=>?_
 have b: ∀o,(H.set u8 o).take N=H.set u8 o:=λo=>adz (by simp[c])
 have f:=hx.n;have g:2+a<=9:=by omega
 by_cases h:t.ba a=0
 ·have d: ((t.ba a:Nat):Int)=0:=by omega
  rw[ac0 (by omega)];have e:H.set u8 (.box [.int .i64 ((t.next+1:Nat):Int)] none)=H:=pY h8;rw[e];simp(disch:=omega) only[F1,go_sem,simprocAttr,Jt,c,hn,h5,h7,h8,IL,TZ ha,d,b]
 ·have d: ¬((t.ba a:Nat):Int)=0:=by omega
  rw[ac6 (by omega)];simp(disch:=omega) only[F1,go_sem,simprocAttr,Jt,c,hn,h5,h7,h8,IL,TZ ha,d,b]
end
def T2(N:Nat):List (AV×AV):=[(.int .u8 1,.fn (.func 126) [] [.ptr (N+3) 0,.ptr (N+4) 0]),(.int .u8 2,.fn (.func 127) [] [.ptr N 0,.ptr (N+3) 0,.ptr (N+4) 0]),(.int .u8 3,.fn (.func 128) [] [.ptr N 0,.ptr (N+3) 0,.ptr (N+4) 0]),(.int .u8 4,.fn (.func 129) [] [.ptr N 0,.ptr (N+3) 0,.ptr (N+4) 0]),(.int .u8 5,.fn (.func 130) [] [.ptr (N+3) 0,.ptr (N+5) 0]),(.int .u8 6,.fn (.func 131) [] [.ptr (N+4) 0,.ptr (N+3) 0,.ptr (N+5) 0])]
def oI(N k:Nat):List (AV×AV):=(T2 N).take k
theorem awe(N:Nat):ae.map []= .map (oI N 0):=rfl
def Ch{N:Nat}{H:List ae}(a:H.length=N)(B:List ae)(b:B.length=6){key:Int}(d:v.refs<=N+7)(h:lQ (.int .u8 key) v (oI N k)=some (oI N (k+1)))(lo:oN):
  mv ⟨H++(B++[.map (oI N k)]),lo⟩ .int (.mp (N+6)) (.int .u8 key) v=some ⟨H++(B++[.map (oI N (k+1))]),lo⟩:=by
 simp only[mv,kT,ae4];have e: (H++(B++[ae.map (oI N k)]))[N+6]?=some (.map (oI N k)):=by grind
 simp only[e,h];have c: (H++(B++[ae.map (oI N k)])).set (N+6) (.map (oI N (k+1)))=H++(B++[.map (oI N (k+1))]):=by
  rw[apC _ _ (by omega),apC _ _ (by omega)];simp[a,b]
 simp only[AS.set,c]
 grind
def oJ(N a:Nat):Option AV:=match a with
 |1=>some (.fn (.func 126) [] [.ptr (N+3) 0,.ptr (N+4) 0])
 |2=>some (.fn (.func 127) [] [.ptr N 0,.ptr (N+3) 0,.ptr (N+4) 0])
 |3=>some (.fn (.func 128) [] [.ptr N 0,.ptr (N+3) 0,.ptr (N+4) 0])
 |4=>some (.fn (.func 129) [] [.ptr N 0,.ptr (N+3) 0,.ptr (N+4) 0])
 |5=>some (.fn (.func 130) [] [.ptr (N+3) 0,.ptr (N+5) 0])
 |6=>some (.fn (.func 131) [] [.ptr (N+4) 0,.ptr (N+3) 0,.ptr (N+5) 0])
 |_=>none
def awf(N a:Nat):ew (.int .u8 a) (oI N 6)=some (oJ N a):=by
 by_cases h:a<=6
 ·rcases(show a=0\/a=1\/a=2\/a=3\/a=4\/a=5\/a=6 by omega)with q|q|q|q|q|q|q<;>subst q<;>rfl
 ·have e:oJ N a=none:=by unfold oJ;grind
  rw[e];have b: ∀k:Int,k<=6->(((a:Nat):Int)==k)=false:=λk c=>by grind
  show ew (.int .u8 a) (T2 N)=some none;unfold T2;simp only[ew,oP,ae4,b 1 (by omega),b 2 (by omega),b 3 (by omega),b 4 (by omega),b 5 (by omega),b 6 (by omega)]
def awg{t:Task}{cv:AV}(X:Rv cv 5 (t.code.map dm))(g:lL t)(H:List ae)(lo:oN):
  D X0 (.fn (.func 96) [] []) [.agg (dn t cv)] ⟨H,lo⟩=some (.ret (.agg (dn (nA t) cv)) ⟨H,lo⟩):=by
 refine aK Jn λN d=>?_
 have L:=λH lo=>T0 X g H lo
 have hw:=λH lo=>T1 X g H lo
 have U: [AV.int .u8 0,.int .u8 0,.int .u8 0,.int .u8 0,.int .u16 0]=dm Cg:=rfl;have G: [AV.int .u8 0,.int .u32 0,.int .u32 0,.int .u32 0,.int .u32 0,.int .u64 0]=bq gP:=rfl;have cl: ∀c,(bq c).length=6:=λ_=>rfl
 have cd: ∀c,List.drop 6 (bq c)=[]:=λ_=>rfl
 have cr: ∀c,aL (bq c)=0:=λ_=>rfl
 have a:=λt:Task=>FO (t:=t) (dy X (bL (λ_=>rfl) _))
 have hnx:=g.next;unfold nA;cases s: (jn t).2 with
 |true=>
  rw[s]at hw;rw[ac6 rfl];simp only[F1,go_sem,simprocAttr,Jn,d,TK,hw,G,cl,cd,cr,a]
 |false=>
  rw[s]at hw;rw[ac0 (by simp)];cases V:rD t with
  |none=>
   have: (jn t).2=true:=by unfold jn;rw[V]
   rw[s]at this;cases this
  |some x=>
   unfold FR at L;rw[V]at L;simp only[aj3,awM]at L;have ho:=FT g V;have i:x.a % 8<8:=by omega
   have hb: (0:Int)<=(x.a % 8:Nat)/\ ((x.a % 8:Nat):Int)<8:=by omega
   obtain⟨B,hB⟩: ∃B:List ae,B=[.box (dn t cv) none,.box [.au,.int .i64 0,.int .u64 0,.int .u64 0,.int .u64 0,.int .u64 0,.int .u64 0,.int .u64 0,.int .u64 0,.int .u64 0] none,.box (bq (jn t).1) none,.box (dm x) none,.box [.ptr N (2+x.a % 8)] none,.box [.int .i64 ((t.next:Int)+1)] none]:=⟨_,rfl⟩;have hm:=awe N;have l4:N<=N+4:=by omega
   have S:=Ch (k:=0) (key:=1) (v:=.fn (.func 126) [] [.ptr (N+3) 0,.ptr (N+4) 0]) d B (by rw[hB];rfl) (by simp[AV.refs,aL]) rfl;have R:=Ch (k:=1) (key:=2) (v:=.fn (.func 127) [] [.ptr N 0,.ptr (N+3) 0,.ptr (N+4) 0]) d B (by rw[hB];rfl) (by simp[AV.refs,aL]) rfl;have Q:=Ch (k:=2) (key:=3) (v:=.fn (.func 128) [] [.ptr N 0,.ptr (N+3) 0,.ptr (N+4) 0]) d B (by rw[hB];rfl) (by simp[AV.refs,aL]) rfl;have P:=Ch (k:=3) (key:=4) (v:=.fn (.func 129) [] [.ptr N 0,.ptr (N+3) 0,.ptr (N+4) 0]) d B (by rw[hB];rfl) (by simp[AV.refs,aL]) rfl;have O:=Ch (k:=4) (key:=5) (v:=.fn (.func 130) [] [.ptr (N+3) 0,.ptr (N+5) 0]) d B (by rw[hB];rfl) (by simp[AV.refs,aL]) rfl;have M:=Ch (k:=5) (key:=6) (v:=.fn (.func 131) [] [.ptr (N+4) 0,.ptr (N+3) 0,.ptr (N+5) 0]) d B (by rw[hB];rfl) (by simp[AV.refs,aL]) rfl;rw[hB]at S R Q P O M;simp only[ah6,agt]at S R Q P O M;simp(disch:=omega) only[go_sem,simprocAttr,Jn,d,TK,hw,L,IL,U,G,cl,cd,cr,ajT,hb,hm,l4,S,R,Q,P,O,M];have Y: ∀E:AS,E.heap[N+6]?=some (.map (oI N 6))->jK X0.gu E .int .dD (.mp (N+6)) (.int .u8 x.op) true=some (match oJ N x.op with|some v=>.aA [v,.bool true]|none=>.aA [.dD,.bool false]):=by
    intro E h;simp only[jK,kT,ae4,mapOf,h,awf];cases oJ N x.op<;>rfl
   rw[Y _ (by rw[bM d];rfl)];obtain⟨W,u⟩: ∃W,W=H++[.box (dn t cv) none,.box [.au,.int .i64 0,.int .u64 0,.int .u64 0,.int .u64 0,.int .u64 0,.int .u64 0,.int .u64 0,.int .u64 0,.int .u64 0] none,.box (bq (jn t).1) none,.box (dm x) none,.box [.ptr N (2+x.a % 8)] none,.box [.int .i64 ((t.next:Int)+1)] none,.map (oI N 6)]:=⟨_,rfl⟩;have w0:W[N]?=some (.box (dn t cv) none):=by rw[u,dB d];rfl
   have w1:W[N+1]?=some (.box [.au,.int .i64 0,.int .u64 0,.int .u64 0,.int .u64 0,.int .u64 0,.int .u64 0,.int .u64 0,.int .u64 0,.int .u64 0] none):=by rw[u,bM d];rfl
   have y:W[N+3]?=some (.box (dm x) none):=by rw[u,bM d];rfl
   have C:W[N+4]?=some (.box [.ptr N (2+x.a % 8)] none):=by rw[u,bM d];rfl
   have A:W[N+5]?=some (.box [.int .i64 ((t.next:Int)+1)] none):=by rw[u,bM d];rfl
   have wt:W.take N=H:=by rw[u,mC d]
   rw[<-u];have I:=λo=>cZ (o:=o) w0
   have f: ∀o,(W.set N o)[N+1]?=_:=λo=>(ach (by omega)).trans w1
   have m: ∀o,(W.set N o)[N+5]?=_:=λo=>(ach (by omega)).trans A
   have g5:=λo=>cZ (o:=o) A
   have w: ∀o,(W.set (N+5) o)[N]?=_:=λo=>(ach (by omega)).trans w0
   have Z: ∀o,(W.set (N+5) o)[N+1]?=_:=λo=>(ach (by omega)).trans w1
   have q:=λo o'=>cZ (o:=o') (w o)
   have l: ∀o o',((W.set (N+5) o).set N o')[N+1]?=_:=λo o'=>(ach (by omega)).trans (Z o)
   have b:=λo o'=>cZ (o:=o') (f o)
   have j:=λo o' J=>cZ (o:=J) (l o o')
   have t0: ∀o o',((W.set N o).set (N+1) o').take N=H:=λo o'=>by rw[apN (by omega),apN (by omega),wt]
   have t5: ∀o o' J,(((W.set (N+5) o).set N o').set (N+1) J).take N=H:=λo o' J=>by rw[apN (by omega),apN (by omega),apN (by omega),wt]
   have s1: ∀ (t:Task) (n:Nat),aN (dn t cv) 1 [.int .i64 ((n:Int)+1)]=dn {t with next:=n+1} cv:=λ_ _=>rfl
   have t10: ∀t:Task,List.take 10 (dn t cv)=dn t cv:=λ_=>rfl
   have c1:=λlo=>av8 ho i w0 y C lo
   have c2:=λlo=>av9 ho i w0 y C lo
   have c3:=λlo=>awa g ho i w0 y C lo
   have c4:=λlo=>awb ho i w0 y C lo
   have c5:=λlo=>awc ho y A lo
   have c6:=λlo=>awd ho i w0 y C A lo
   have eb:x.b % 8=x.b:=amX ho.b;have ec:x.c % 8=x.c:=amX ho.c;rw[eb,ec];by_cases p:x.op=1
   ·rw[ac6 p,p];simp only[oJ];simp only[F1,go_sem,simprocAttr,c1,I,f,m,b,t0,ake,TK,s1,t10,a]
   ·by_cases r:x.op=2
    ·rw[ac0 p,ac6 r,r];simp only[oJ];simp only[F1,go_sem,simprocAttr,c2,I,f,m,b,t0,ake,TK,s1,t10,a]
    ·by_cases z:x.op=3
     ·rw[ac0 p,ac0 r,ac6 z,z];simp only[oJ];simp only[F1,go_sem,simprocAttr,c3,I,f,m,b,t0,ake,TK,s1,t10,a]
     ·by_cases F:x.op=4
      ·rw[ac0 p,ac0 r,ac0 z,ac6 F,F];simp only[oJ];simp only[F1,go_sem,simprocAttr,c4,I,f,m,b,t0,ake,TK,s1,t10,a]
      ·by_cases K:x.op=5
       ·rw[ac0 p,ac0 r,ac0 z,ac0 F,ac6 K,K];simp only[oJ];simp only[F1,go_sem,simprocAttr,c5,g5,w,q,l,j,t5,TK,t10,a]
       ·by_cases T:x.op=6
        ·rw[ac0 p,ac0 r,ac0 z,ac0 F,ac0 K,ac6 T,T];simp only[oJ];simp only[F1,go_sem,simprocAttr,c6,g5,w,q,l,j,t5,TK,t10,a]
        ·rw[ac0 p,ac0 r,ac0 z,ac0 F,ac0 K,ac0 T];have e:oJ N x.op=none:=by unfold oJ;split<;>first|omega|rfl
         rw[e];simp only[F1,go_sem,simprocAttr,w0,A,I,f,b,t0,TK,s1,t10,a]
instance:Inhabited ef:=⟨Cg⟩
def awh(v fv:AV)(l:List ef)(H:List ae)(c:Rd ⟨H,none⟩ v 5 (l.map dm))(s:l.length<2147483648)(p:ef->Bool)(lo:oN)
  (q: ∀x∈l,D X0 fv [.agg (dm x)] ⟨H,none⟩=some (.ret (.bool (p x)) ⟨H,none⟩)):D X0 (.fn (.func 163) [] []) [v,fv] ⟨H,lo⟩=some (.ret (.int .i64 (kO p l)) ⟨H,lo⟩):=by
 refine aK P9 λN w=>?_
 simp only[go_sem,simprocAttr,P9,c.bZ];refine fE l.length (λk e H'=>H'=H/\e 0=v/\e 1=fv/\e 7= .int .i64 l.length/\e 8= .int .i64 k/\ ∀j,j<k->p (l.getD j default)=false) 0 (by omega) ?_ ?_
 ·simp only[go_sem,simprocAttr];omega
 ·rintro k t e H' ⟨rfl,o,m,i,g,d⟩ n r;simp(disch:=omega) only[cm,F1,go_sem,simprocAttr,ad8,o,m,i,g];refine⟨λh=>?_,λh=>?_⟩
  ·have a:k<l.length:=by omega
   have b: ∀x,Den.part true 5 (dm x) 0=some (.agg (dm x)):=λ_=>rfl
   simp(disch:=omega) only[go_sem,simprocAttr,c.cn,c.cE,↓b,q _ (fX a)];refine⟨by omega,?_⟩;cases f:p (l.getD k default)
   ·simp(disch:=omega) only[go_sem,simprocAttr,o,m,i,g];exact⟨a,nC d f⟩
   ·simp(disch:=omega) only[F1,go_sem,simprocAttr];rw[zs a d f]
  ·rw[zt (λj u=>d j (by omega))]
def awi(v fv:AV)(l:List ef)(H:List ae)(a:Rd ⟨H,none⟩ v 5 (l.map dm))(b:l.length<2147483648)(p:ef->Bool)(lo:oN)
  (c: ∀x∈l,D X0 fv [.agg (dm x)] ⟨H,none⟩=some (.ret (.bool (p x)) ⟨H,none⟩)):D X0 (.fn (.func 148) [] []) [v,fv] ⟨H,lo⟩=some (.ret (.bool (l.any p)) ⟨H,lo⟩):=by
 refine aK PZ λN d=>?_
 simp(disch:=omega) only[F1,go_sem,simprocAttr,PZ,awh v fv l H a b p none c,zr]
def awj(x:ef)(n:Nat)(f:x.op<256/\x.a<256/\x.b<256/\x.c<256/\x.n<65536)(k:n<2147483648)(H:List ae)(lo:oN):
  D X0 (.fn (.func 150) [] []) [.agg (dm x),.int .i64 n] ⟨H,lo⟩=some (.ret (.bool (rB x n)) ⟨H,lo⟩):=by
 refine aK P2 λN g=>?_
 obtain⟨q,p,o,m,l⟩:=f;simp only[go_sem,simprocAttr,P2,g,IL];refine wj 5 (.bool (decide (16<x.op)&&decide (x.op<=38))) [1,2] rfl rfl ?_ λr=>?_
 ·simp(disch:=omega) only[R4,go_sem,simprocAttr,IL]
  (repeat' (first|apply And.intro|intro _))
  all_goals(refine ahR AV.bool (anb.2 ?_);simp[];try(intros;omega))
 simp(disch:=omega) only[go_sem,simprocAttr,IL];refine wj 6 (.bool (decide (x.op=5)||decide (x.op=6))) [1,2,5] rfl rfl ?_ λe1=>?_
 ·simp(disch:=omega) only[R4,go_sem,simprocAttr,IL]
  (repeat' (first|apply And.intro|intro _))
  all_goals(refine ahR AV.bool (anb.2 ?_);simp[];try(intros;omega))
 have a:gU qt [.int .u8 (x.a:Nat),.int .u8 (x.b:Nat),.int .u8 (x.c:Nat)]=some (.int .u8 ((max (max x.a x.b) x.c:Nat))):=by
  have e:gU qt [.int .u8 (x.a:Nat),.int .u8 (x.b:Nat),.int .u8 (x.c:Nat)]=some (.int .u8 (if(x.c:Int)>(if(x.b:Int)>x.a then(x.b:Int)else x.a)then(x.c:Int)else(if(x.b:Int)>x.a then(x.b:Int)else x.a))):=by simp[gU,qt]
  rw[e];congr 2;split<;>split<;>omega
 have b:decide (((max (max x.a x.b) x.c:Nat):Int)<8)=decide (x.a<8/\x.b<8/\x.c<8):=ae0.2 (by omega);have d:decide ((x.op:Int)<=6)=decide (x.op<=6):=ae0.2 (by omega);have c:decide ((x.n:Int)<n)=decide (x.n<n):=ae0.2 (by omega);unfold rB;generalize decide (x.op<=6)=j at*;generalize decide (x.a<8/\x.b<8/\x.c<8)=i at*;generalize decide (x.n<n)=h at*;generalize(decide (16<x.op)&&decide (x.op<=38))=A at*;generalize(decide (x.op=5)||decide (x.op=6))=J at*;cases j<;>cases A<;>cases i<;>cases J<;>cases h<;>simp(disch:=omega) only[F1,go_sem,simprocAttr,IL,d,a,b,c,aBi,avV,aph,Bool.or_true,awD,aBb]
def awk(v:AV)(l:List ef)(p:l.length<2147483648)(q: ∀x∈l,x.op<256/\x.a<256/\x.b<256/\x.c<256/\x.n<65536)(N:Nat)(H:List ae)(f:Rd ⟨H,none⟩ v 5 (l.map dm))(lo:oN)(r:v.refs<=H.length)(t:v.cx=false/\v.cells=[v]):
  D X0 (.fn (.func 134) [] []) [v] ⟨H,lo⟩=some (.ret (.bool (pR l)) ⟨H,lo⟩):=by
 refine aK Ju λN m=>?_
 have b: ∀lo,sd ⟨H,lo⟩ v none=some (.ptr N 0,⟨H++[.box [v] none],lo⟩):=λlo=>by
  have s:=f.kind;subst m;cases v<;>simp only[]at s<;>rfl
 have g:=f.bZ;have a:Rd ⟨H++[.box [v] none],none⟩ v 5 (l.map dm):=f.ext;have j:=awi v (.fn (.func 149) [] [.ptr N 0]) l (H++[.box [v] none]) a p (λx=>!rB x l.length) none (λx h=>by
  refine fi P0 λM n=>?_
  have k: ∀L,(H++(.box [v] none::L))[N]?=some (.box [v] none):=λL=>by rw[dB m];rfl
  have i: ∀L,gF ⟨H++(.box [v] none::L),none⟩ .sl v=some (.int .i64 l.length):=λL=>Rd.bZ (f.ext (L:=.box [v] none::L))
  have hm:=λH lo=>awj x l.length (q x h) p H lo
  have c: ∀x,Den.part true 5 (dm x) 0=some (.agg (dm x)):=λ_=>rfl
  obtain rfl:M=N+1:=by rw[<-n];simp[m]
  simp(disch:=omega) only[F1,go_sem,simprocAttr,P0,n,↓c,k,i,hm];refine dp rfl ?_;have e:H++[ae.box [v] none,.box (dm x) none]=(H++[.box [v] none])++[.box (dm x) none]:=by simp
  rw[e,am6 n])
 unfold pR;by_cases d:l.length<=64
 ·have o: ((l.length:Nat):Int)<=64:=by omega
  rw[ady d,amH];simp(disch:=omega) only[F1,go_sem,simprocAttr,Ju,b,a.bZ,o,j];rw[azM]
 ·have o: ¬((l.length:Nat):Int)<=64:=by omega
  rw[adb d,agq];simp(disch:=omega) only[F1,go_sem,simprocAttr,Ju,b,a.bZ,o]
def qk(l:lB):ef:=⟨(l.getD 0 0).toNat,(l.getD 1 0).toNat,(l.getD 2 0).toNat,(l.getD 3 0).toNat,(l.getD 4 0).toNat+256*(l.getD 5 0).toNat⟩
def awl{s:lB}(h:k+6<=s.length):rC (s.drop k)=qk (s.drop k)::rC (s.drop (k+6)):=by
 have e:s.drop (k+6)=(s.drop k).drop 6:=by simp
 rw[e];have g:6<=(s.drop k).length:=by grind
 generalize s.drop k=l at*
 match l,g with
 |a::b::c::d::e::f::r,_=>rfl
def awm(e f:Nat)(a:e<256)(d:f<256):dE .or (.int .u16 e) (.int .u16 ((f*256:Nat)))=some (.int .u16 ((e+256*f:Nat))):=by
 rw[Hi];have e1: ∀n:Nat,n<65536->(BitVec.ofInt IntKind.u16.bits (n:Int)).toNat=n:=by
  have:IntKind.u16.bits=16:=rfl
  grind
 have c:e|||f*256=e+256*f:=by
  have:=Nat.shiftLeft_add_eq_or_of_lt (b:=e) (i:=8) a f;rw[Nat.shiftLeft_eq]at this
  grind
 rw[BitVec.toNat_or,e1 e (by omega),e1 (f*256) (by omega),c];have:IntKind.wrap .u16 ((e+256*f:Nat):Int)=((e+256*f:Nat):Int):=by
  unfold IntKind.wrap IntKind.bits IntKind.signed;grind
 rw[this]
def awn(f:Nat)(a:f<256):k5 .shl (.int .u16 f) (.int .u64 8)=some (.int .u16 ((f*256:Nat))):=by
 rw[AA,ac6 (by omega)];have:IntKind.wrap .u16 ((f:Int)*2^(min (8:Int).toNat IntKind.u16.bits))=((f*256:Nat):Int):=by
  have h:min (8:Int).toNat IntKind.u16.bits=8:=rfl;rw[h];unfold IntKind.wrap IntKind.bits IntKind.signed;grind
 rw[this]
def awo{H:List ae}{n:Nat}{s:lB}(k:H[n]?=some (.box [.int .u8 0,.int .u8 0,.int .u8 0,.int .u8 0,.int .u8 0,.int .u8 0] none))(j:6<=s.length):
  rS ⟨H,lo⟩ 1 (.fC n 1 0 6) (S s)=some (.int .i64 6,⟨H.set n (.box [.int .u8 (s.getD 0 0).toNat,.int .u8 (s.getD 1 0).toNat,.int .u8 (s.getD 2 0).toNat,.int .u8 (s.getD 3 0).toNat,.int .u8 (s.getD 4 0).toNat,.int .u8 (s.getD 5 0).toNat] none),lo⟩):=by
 match s,j with
 |a::b::c::d::e::f::r,_=>
  have l:Ct ⟨H,lo⟩ 1 (S (a::b::c::d::e::f::r))=some ((a::b::c::d::e::f::r).map λx=>[.int .u8 x.toNat]):=by
   simp only[Ct,S,ae4];rfl
  have i:b9 ((a::b::c::d::e::f::r).map λx:UInt8=>[AV.int .u8 x.toNat])=0:=bL (g:=λx:UInt8=>[AV.int .u8 x.toNat]) (λ_=>rfl) _;have h: ((a::b::c::d::e::f::r).map λx:UInt8=>[AV.int .u8 x.toNat]).all (λel=>el.length==1)=true:=by simp
  have m: ((a::b::c::d::e::f::r).map λx:UInt8=>[AV.int .u8 x.toNat]).length.min 6=6:=by
   show min _ 6=6;simp
  simp only[rS,l,k,m,i,AS.set,h];rw[ac6 ⟨trivial,by decide,trivial⟩,ac6 (adC _)];rfl
def awp(l:lB): (qk l).op<256/\ (qk l).a<256/\ (qk l).b<256/\ (qk l).c<256/\ (qk l).n<65536:=by
 have h: ∀u:UInt8,u.toNat<256:=λu=>u.toNat_lt
 refine⟨h _,h _,h _,h _,?_⟩;have b:=h (l.getD 4 0);have a:=h (l.getD 5 0);show(l.getD 4 0).toNat+256*(l.getD 5 0).toNat<65536;omega
def ia(s:lB)(k:Nat):List ef:=(List.range k).map λi=>qk (s.drop (6*i))
def T3(s:lB)(k:Nat):ia s (k+1)=ia s k++[qk (s.drop (6*k))]:=by unfold ia;rw[aoZ,aeP];rfl
theorem ajU{s:lB}: ∀m k,6*(k+m)=s.length->ia s k++rC (s.drop (6*k))=ia s (k+m)
 |0,k,h=>by
  have:s.drop (6*k)=[]:=ahz (by omega);rw[this];simp[rC]
 |m+1,k,h=>by
  have hle:6*k+6<=s.length:=by omega
  rw[awl hle];have:=ajU (s:=s) m (k+1) (by omega);rw[T3]at this
  grind
def ajV{s:lB}(h:s.length % 6=0):rC s=ia s (s.length/6):=by
 have:=ajU (s:=s) (s.length/6) 0 (by omega);simpa[ia]using this
def ajW(s:lB)(H:List ae)(lo:oN):
  ∃v,D X0 (.fn (.func 99) [] []) [S s] ⟨H,lo⟩=some (.ret (.aA [v,.int .i64 (if(decode s).isSome then 0 else 3:Nat)]) ⟨H,lo⟩)/\Rv v 5 (((decode s).getD []).map dm):=by
 suffices B: ∃o,D X0 (.fn (.func 99) [] []) [S s] ⟨H,lo⟩=some o/\ (λo=> ∃v,o=aU.ret (.aA [v,.int .i64 (if(decode s).isSome then 0 else 3:Nat)]) ⟨H,lo⟩/\Rv v 5 (((decode s).getD []).map dm)) o by grind
 refine cI Ev λN A=>?_
 have tm: ((s.length:Nat):Int).tmod 6=((s.length % 6:Nat):Int):=by rfl
 by_cases G:s.length % 6=0
 ·have c:decide (((s.length % 6:Nat):Int)=0)=true:=ady (by omega);by_cases T:s.length<=384
  ·have g: ¬((s.length:Nat):Int)>384:=by omega
   simp only[go_sem,simprocAttr,Ev,tm,c,g];refine fE (s.length/6) (λk e W=>e 0=S (s.drop (6*k))/\H<+:W/\aP N W (e 4) 5 adw ((ia s k).map dm)) 0 (by omega) ?_ ?_
   ·simp only[go_sem,simprocAttr];exact⟨arK,aP.au⟩
   rintro k R e W ⟨d,a,h⟩ n C;have K: (s.drop (6*k)).length=s.length-6*k:=am7 ..;simp only[cm,go_sem,simprocAttr,adW,d,C];refine⟨λO=>?_,λO=>?_⟩
   ·have f:k<s.length/6:=by omega
    have P:6<=(s.drop (6*k)).length:=by omega
    have z:=λlo=>awo (lo:=lo) (H:=W++[.box [.int .u8 0,.int .u8 0,.int .u8 0,.int .u8 0,.int .u8 0,.int .u8 0] none]) (n:=n) (s:=s.drop (6*k)) (by rw[dB C];rfl) P
    have r:uu (S (s.drop (6*k))) (some (.int .i64 6)) none=some (S (s.drop (6*(k+1)))):=by
     rw[Hj,ac6 ⟨by omega,by omega⟩,ape];rfl
    have E:qk (s.drop (6*k))=qk (s.drop (6*k)):=rfl;have F: ∀j,((s.drop (6*k)).getD j 0).toNat<256:=λj=>UInt8.toNat_lt _
    have Q:=F 4;have I:=F 5;have w:=awm _ _ Q I;have t:=awn _ I;simp(disch:=omega) only[go_sem,simprocAttr,d,aiK,z,w,t];have l: (ia s k).length=k:=by simp[ia]
    refine qL (N:=N) (H0:=H) (bytes:=6) (ys:=[dm (qk (s.drop (6*k)))]) h.ext (a.trans (aj8 _ _)) A (by omega) (by intro el y;rw[aeH.1 y];rfl) rfl (by rw[aeK,l];show(k+1)*6<=room;unfold room;omega) λv' U p u=>?_
    simp only[go_sem,simprocAttr,d,r];refine⟨f,u,?_⟩;rw[T3,aeP];exact p
   ·have f:k=s.length/6:=by omega
    have m:rC s=ia s k:=by rw[f];exact ajV G
    have l: (ia s k).length=k:=by simp[ia]
    have b:=λlo=>awk (e 4) (ia s k) (by omega) (λx B=>by
     obtain⟨i,_,rfl⟩:=aeO.1 B;exact awp _) 0 W (mj h none) lo (by
     rcases h.2 with⟨q,_⟩| ⟨id,ak,_,q,J⟩
     ·rw[q];exact adC _
     ·rw[q];have:=fy J;simp only[AV.refs];omega) (rK (mj h none))
    have d:decode s=if pR (ia s k)then some (ia s k)else none:=by unfold decode;rw[ac0 (by omega),m]
    rw[d];cases hm:pR (ia s k)with
    |true=>
     rw[hm]at b;simp only[go_sem,simprocAttr,b];rw[h.acn (by rw[bL (λ_=>rfl)];omega) (adC _)];exact⟨_,dp rfl (lH A λi M=>by obtain⟨L,rfl⟩:=a;rw[acj (by omega)]),aP.qM h⟩
    |false=>
     rw[hm]at b;simp only[go_sem,simprocAttr,b];rw[xp rfl];exact⟨.au,dp rfl (lH A λi M=>by obtain⟨L,rfl⟩:=a;rw[acj (by omega)]),.au⟩
  ·have g: ((s.length:Nat):Int)>384:=by omega
   have d:decode s=none:=by unfold decode;rw[ac6 (.inr (by omega))]
   rw[d];simp(disch:=omega) only[F1,go_sem,simprocAttr,Ev,tm,c,g];exact⟨.au,rfl,.au⟩
 ·have c:decide (((s.length % 6:Nat):Int)=0)=false:=adb (by omega);have d:decode s=none:=by unfold decode;rw[ac6 (.inl G)]
  rw[d];simp(disch:=omega) only[F1,go_sem,simprocAttr,Ev,tm,c];exact⟨.au,rfl,.au⟩
def awq(b:UInt8)(H:List ae)(lo:oN):D X0 (.fn (.func 103) [] []) [.int .u8 b.toNat] ⟨H,lo⟩=some (.ret (.bool (lG b.toNat)) ⟨H,lo⟩):=by
 refine aK Pz λN h=>?_
 generalize b.toNat=n at*;have e1:decide ((n:Int)<8)=decide (n<8):=ae0.2 (by omega);have c:decide ((n:Int)=8)=decide (n=8):=ae0.2 (by omega);have e3:decide (16<=(n:Int))=decide (16<=n):=ae0.2 (by omega);have a:decide ((n:Int)<24)=decide (n<24):=ae0.2 (by omega);unfold lG;generalize decide (n<8)=g at*;generalize decide (n=8)=f at*;generalize decide (16<=n)=e at*;generalize decide (n<24)=d at*;cases g<;>cases f<;>cases e<;>cases d<;>simp(disch:=omega) only[F1,go_sem,simprocAttr,Pz,e1,c,e3,a,aBi,avV,aph,Bool.or_true]
def awr(p:lB)(H:List ae)(lo:oN):D X0 (.fn (.func 98) [] []) [S p] ⟨H,lo⟩=some (.ret (.bool (!(decode p).isSome)) ⟨H,lo⟩):=by
 refine aK Jo λN b=>?_
 obtain⟨v,d1,_⟩:=ajW p H none;cases a: (decode p).isSome with
 |true=>
  rw[a]at d1;simp(disch:=omega) only[F1,go_sem,simprocAttr,Jo,d1]
 |false=>
  rw[a]at d1;simp(disch:=omega) only[F1,go_sem,simprocAttr,Jo,d1]
def aws(b:UInt8)(H:List ae)(lo:oN):D X0 (.fn (.func 102) [] []) [.int .u8 b.toNat] ⟨H,lo⟩=some (.ret (.bool (!lG b.toNat)) ⟨H,lo⟩):=by
 refine aK Py λN a=>?_
 simp(disch:=omega) only[F1,go_sem,simprocAttr,Py,awq]
structure LD(aS:Int)(aF:List lB)(bh:lB)(pv kv:AV):Prop where
 pr:Rv pv 1 (aF.map sC)
 pk:Rv kv 1 (bh.map bC)
 np:aF.length<1099511627776
 nk:bh.length<1099511627776
def awt{a:Int}{aF:List lB}{c:lB}{pv kv:AV}(h:LD a aF c pv kv)(o: -9223372036854775808<=a/\a<9223372036854775808)(H:List ae)(lo:oN):
  D X0 (.fn (.func 66) [] []) [.agg [.int .i64 a,pv,kv]] ⟨H,lo⟩=some (.ret (.bool (oz ⟨a,aF,c.map UInt8.toNat⟩)) ⟨H,lo⟩):=by
 refine aK Pj λN s=>?_
 have q:=dy h.pr (bL (λ_=>rfl) _);have r:=dy h.pk (bL (λ_=>rfl) _);have d:=λH lo=>aqZ pv (.fn (.func 98) [] []) aF h.pr h.np (λp=>!(decode p).isSome) H lo (λx _=>awr x H none)
 have e:=λH lo=>aqX kv (.fn (.func 102) [] []) c h.pk h.nk (λb=>!lG b.toNat) H lo (λx _=>aws x H none)
 have n: (!aF.any λp=>!(decode p).isSome)=aF.all λp=>(decode p).isSome:=azM.symm
 have m: (!c.any λb=>!lG b.toNat)=c.all λb=>lG b.toNat:=azM.symm
 have l:oz ⟨a,aF,c.map UInt8.toNat⟩=(decide (1<=a/\a<=64/\1<=aF.length/\aF.length<=8/\c.length<=4000)&&aF.all (λp=>(decode p).isSome)&&c.all λb=>lG b.toNat):=by
  unfold oz;simp only[aeK,List.all_map];rfl
 have e1:decide (1<=a/\a<=64/\1<=aF.length/\aF.length<=8/\c.length<=4000)=(!decide (a<1)&& !decide (64<a)&& !decide ((aF.length:Int)<1)&& !decide (8< (aF.length:Int))&& !decide (4000< (c.length:Int))):=by
  rw[anb];simp;omega
 rw[l,e1,<-n,<-m];generalize k:decide (a<1)=A;generalize j:decide (64<a)=z;generalize i:decide ((aF.length:Int)<1)=y;generalize g:decide (8< (aF.length:Int))=w;generalize f:decide (4000< (c.length:Int))=v;generalize(aF.any λp=>!(decode p).isSome)=u at*;generalize(c.any λb=>!lG b.toNat)=t at*;clear n m l e1;cases A<;>cases z<;>cases y<;>cases w<;>cases v<;>simp only[F1,go_sem,simprocAttr,Pj,s,h.pr.bZ,h.pk.bZ,k,j,i,g,f,agq,aph,awD,aBb,avV,amH];cases u<;>cases t<;>simp(disch:=omega) only[F1,go_sem,simprocAttr,d,e,aph,awD,aBb,avV]
def awu(p:lB)(H:List ae)(lo:oN):
  ∃cv,D X0 (.fn (.func 68) [] []) [S p] ⟨H,lo⟩=some (.ret (.aA [.agg (dn {sU with code:=(decode p).getD []} cv),.int .i64 (if(decode p).isSome then 0 else 3:Nat)]) ⟨H,lo⟩)/\Rv cv 5 (((decode p).getD []).map dm):=by
 obtain⟨N,c⟩: ∃N,H.length=N:=⟨_,rfl⟩;obtain⟨v,d1,d2⟩:=ajW p (H++[.box [.au,.int .i64 0,.int .u64 0,.int .u64 0,.int .u64 0,.int .u64 0,.int .u64 0,.int .u64 0,.int .u64 0,.int .u64 0] none]) none;have a:=dy d2 (bL (λ_=>rfl) _);obtain⟨t1,t2⟩:=rK (d2 ⟨[],none⟩);cases b:decode p with
 |some l=>
  rw[b]at d1 d2;refine⟨v,?_,d2⟩;refine aK Es λM d=>?_
  obtain rfl:M=N:=by omega
  simp only[F1,go_sem,simprocAttr,Es,c,d1,t1,t2,a,oY];rfl
 |none=>
  rw[b]at d1 d2;simp only[awN,aeJ,ags]at d1;refine⟨.au,?_,.au⟩;refine aK Es λM d=>?_
  obtain rfl:M=N:=by omega
  simp only[F1,go_sem,simprocAttr,Es,c,d1,oY];rfl
def xH(r:Runner)(cv rv:AV):lA:=dn r.t cv++(ds r.c rv++[.bool r.busy,.int .i64 r.fr])
def bo(e:Event):lA:=[.int .i64 e.aa]++(bq e.c++(aD e.run++(bB e.r++[.int .i64 e.fr,.int .i64 e.to])))
def c8(m:bg)(p:Nat)(aH aT:Nat->AV)(ev:AV):lA:=[.ptr p 0]++(arr 8 (λi=>xH (m.aw i) (aH i) (aT i))++[.int .i64 m.now,ev])
section
variable{m:bg}{p:Nat}{aH aT:Nat->AV}{ev:AV}{i:Nat}
theorem LF: (arr 8 (λi=>xH (m.aw i) (aH i) (aT i))).length=192:=by rfl
theorem oK: (c8 m p aH aT ev).length=195:=by rfl
def FU{ag:Bool}{o:Nat}(h:i<8)(ho:o+k<=24)(a:0<k):Den.part ag k (c8 m p aH aT ev) (1+i*24+o)=Den.part ag k (xH (m.aw i) (aH i) (aT i)) o:=by
 unfold c8;rw[jh (by grind),show 1+i*24+o- [AV.ptr p 0].length=i*24+o by grind,ri (by rw[LF];omega) a];exact lq (k:=24) (f:=λi=>xH (m.aw i) (aH i) (aT i)) (λ_=>rfl) h ho a
theorem rN: (c8 m p aH aT ev)[0]?=some (.ptr p 0):=rfl
theorem Ci: (c8 m p aH aT ev)[193]?=some (.int .i64 m.now):=by rfl
theorem T4: (c8 m p aH aT ev)[194]?=some ev:=by rfl
def Cj(h:i<8): (c8 m p aH aT ev)[1+i*24+22]?=some (.bool (m.aw i).busy):=FU (ag:=false) (k:=1) h (by omega) (by omega)
def awv(h:i<8): (c8 m p aH aT ev)[1+i*24+23]?=some (.int .i64 (m.aw i).fr):=FU (ag:=false) (k:=1) h (by omega) (by omega)
def LG(h:i<8):Den.part true 10 (c8 m p aH aT ev) (1+i*24)=some (.agg (dn (m.aw i).t (aH i))):=FU (o:=0) h (by omega) (by omega)
def FV(h:i<8):Den.part true 12 (c8 m p aH aT ev) (1+i*24+10)=some (.agg (ds (m.aw i).c (aT i))):=FU h (by omega) (by omega)
def LH(h:i<8):Den.part true 2 (c8 m p aH aT ev) (1+i*24+19)=some (.agg (aD (m.aw i).c.run)):=FU h (by omega) (by omega)
theorem ajX{n:Nat}:aN (c8 m p aH aT ev) 193 [.int .i64 n]=c8 {m with now:=n} p aH aT ev:=by rfl
def ajY:aN (c8 m p aH aT ev) 194 [v]=c8 m p aH aT v:=by
 unfold c8;rw[ij (by simp),ij (by rw[LF];simp),LF];rfl
def FW{o:Nat}{vs:lA}{r:Runner}{cv:AV}(h:i<8)(ho:o+vs.length<=24)(a:aN (xH (m.aw i) (aH i) (aT i)) o vs=xH r cv rv):
  aN (c8 m p aH aT ev) (1+i*24+o) vs=c8 {m with aw:=ai m.aw i r} p (ai aH i cv) (ai aT i rv) ev:=by
 unfold c8;rw[ij (by grind),show 1+i*24+o- [AV.ptr p 0].length=i*24+o by grind,rj (by rw[LF];omega),ov (k:=24) (f:=λi=>xH (m.aw i) (aH i) (aT i)) (λ_=>rfl) h ho,a]
 congr 2
 refine E2 λj _=>?_
 by_cases e:j=i
 ·subst e;simp only[bI]
 ·simp only[bA e]
def T5{b:Bool}(h:i<8):aN (c8 m p aH aT ev) (1+i*24+22) [.bool b]=c8 {m with aw:=ai m.aw i {m.aw i with busy:=b}} p aH aT ev:=by
 have:=FW (m:=m) (p:=p) (aH:=aH) (aT:=aT) (ev:=ev) (o:=22) (vs:=[.bool b]) (r:={m.aw i with busy:=b}) (cv:=aH i) (rv:=aT i) h (by simp) rfl;rwa[mM,mM]at this
def aww{n:Nat}(h:i<8):aN (c8 m p aH aT ev) (1+i*24+23) [.int .i64 n]=c8 {m with aw:=ai m.aw i {m.aw i with fr:=n}} p aH aT ev:=by
 have:=FW (m:=m) (p:=p) (aH:=aH) (aT:=aT) (ev:=ev) (o:=23) (vs:=[.int .i64 n]) (r:={m.aw i with fr:=n}) (cv:=aH i) (rv:=aT i) h (by simp) rfl;rwa[mM,mM]at this
def ajZ{t:Task}(h:i<8):aN (c8 m p aH aT ev) (1+i*24) (dn t (aH i))=c8 {m with aw:=ai m.aw i {m.aw i with t:=t}} p aH aT ev:=by
 have:=FW (m:=m) (p:=p) (aH:=aH) (aT:=aT) (ev:=ev) (o:=0) (vs:=dn t (aH i)) (r:={m.aw i with t:=t}) (cv:=aH i) (rv:=aT i) h (by rw[xG];omega) rfl;rwa[mM,mM]at this
def zU{c:Call}(h:i<8):aN (c8 m p aH aT ev) (1+i*24+10) (ds c rv)=c8 {m with aw:=ai m.aw i {m.aw i with c:=c}} p aH (ai aT i rv) ev:=by
 have:=FW (m:=m) (p:=p) (aH:=aH) (aT:=aT) (ev:=ev) (o:=10) (vs:=ds c rv) (r:={m.aw i with c:=c}) (cv:=aH i) (rv:=rv) h (by rw[show(ds c rv).length=12 from rfl];omega) rfl;rwa[mM]at this
theorem aBW{x:Core}:c8 {m with av:=x} p aH aT ev=c8 m p aH aT ev:=rfl
end
def Mu2(o:ae):Prop:=Mu o\/ ∃a d,o= .row a 14 m8 d
structure Fm(n:Nat)(S:lN)(H H':List ae):Prop where
 len:H.length<=H'.length
 low: ∀i,i<n->H'[i]?=H[i]?
 box: ∀i o,i∉S-> ¬Mu2 o->H[i]?=some o->H'[i]?=some o
section
variable{n:Nat}{S T:lN}{A B C H W:List ae}
theorem Fm.refl:Fm n S A A:=⟨adA _,λ_ _=>rfl,λ_ _ _ _ h=>h⟩
theorem Fm.trans(h:Fm n S A B)(g:Fm n S B C):Fm n S A C:=⟨aga h.len g.len,λi a=>(g.low i a).trans (h.low i a),λi o a ho b=>g.box i o a ho (h.box i o a ho b)⟩
def Fq.fm(h:Fq n S A B)(a: ∀i∈S,i∈T):Fm n T A B:=⟨h.len,h.low,λi o b ho c=>h.box i o (λq=>b (a i q)) (λq=>ho (.inl q)) c⟩
theorem Fm.set(a:p∈S)(b:n<=p)(o:ae):Fm n S A (A.set p o):=(Fq.set a b o).fm λ_ h=>h
theorem Fm.app(L:List ae)(a:n<=A.length):Fm n S A (A++L):=(Fq.app L a).fm λ_ h=>h
theorem Fm.take{N:Nat}(h:Fm n S A B)(d:A.length=N)(c:n<=N):Fm n S A (B.take N):=⟨by rw[af9];have:=h.len;omega,λi a=>by rw[ago (by omega)];exact h.low i a,λi o a ho b=>by
 have:=fy b;rw[ago (by omega)];exact h.box i o a ho b⟩
def Fm.out(h:Fm n T H W)(e:H.length<=i)(c:n<=H.length)(o:ae):Fm n T H (W.set i o):=⟨by rw[aeU];exact h.len,λj a=>by rw[ach (by omega)];exact h.low j a,λj o a ho b=>by
 have d:=fy b;rw[ach (by omega)];exact h.box j o a ho b⟩
def Fm.pre{L:List ae}(h:Fm n S (H++L) W)(a:n<=H.length):Fm n S H W:=(Fm.app L a).trans h
end
structure cb(n M p q:Nat)(m:bg)(qv ev:AV)(aH aT:Nat->AV)(H:List ae):Prop where
 nM:n<=M
 Mq:M<q
 co:dR n p q m.av qv H
 box:H[M]?=some (.box (c8 m p aH aT ev) none)
 rO:dk (M+1) H ev 14 m8 (m.bz.map bo)
 cv: ∀i,Rv (aH i) 5 ((m.aw i).t.code.map dm)
 rv: ∀i,Rv (aT i) 1 ((m.aw i).c.ba.map hC)
section
variable{n M p q:Nat}{m:bg}{qv ev:AV}{aH aT:Nat->AV}{H:List ae}
def cb.lt(h:cb n M p q m qv ev aH aT H):M<H.length:=fy h.box
theorem cb.app(h:cb n M p q m qv ev aH aT H)(L:List ae):cb n M p q m qv ev aH aT (H++L):=⟨h.nM,h.Mq,h.co.app L,bm h.box,h.rO.app L,h.cv,h.rv⟩
def cb.Mn(h:cb n M p q m qv ev aH aT H):M∉[p,q]:=by have:=h.Mq;have:=h.co.qp;grind
def cb.av{W:List ae}{c:Core}{b:AV}(h:cb n M p q m qv ev aH aT H)(g:dR n p q c b W)(e:Fq n [p,q] H W):cb n M p q {m with av:=c} b ev aH aT W:=
 ⟨h.nM,h.Mq,g,e.own h.Mn h.box,h.rO.nX λid ak all f=>e.box id _ (by
   have k:=h.co.box;have j:=h.co.jr
   grind) (λq=>by obtain⟨a,d,q⟩:=q;cases q) f,h.cv,h.rv⟩
theorem cb.set(h:cb n M p q m qv ev aH aT H){m':bg}{nO a:Nat->AV}(d:m'.av=m.av)(e:m'.bz=m.bz)(c: ∀i,Rv (nO i) 5 ((m'.aw i).t.code.map dm))(b: ∀i,Rv (a i) 1 ((m'.aw i).c.ba.map hC)):
  cb n M p q m' qv ev nO a (H.set M (.box (c8 m' p nO a ev) none)):=
 ⟨h.nM,h.Mq,d ▸ h.co.set h.box (by have:=h.Mq;have:=h.co.qp;omega) (by have:=h.Mq;omega) _,cZ h.box,e ▸ h.rO.set h.box _,c,b⟩
def cb.fM(h:cb n M p q m qv ev aH aT H)(o:ae):Fm n [M,p,q] H (H.set M o):=Fm.set (by simp) h.nM o
def cb.fc{W:List ae}(h:Fq n [p,q] H W):Fm n [M,p,q] H W:=h.fm λi a=>by grind
def cb.other(h:cb n M p q m qv ev aH aT H){cs:lA}(a:H[i]?=some (.box cs tg))(d:i≠p)(c:i≠q)(b:i≠M)(o:ae):cb n M p q m qv ev aH aT (H.set i o):=
 ⟨h.nM,h.Mq,h.co.set a d c o,(ach b).trans h.box,h.rO.set a _,h.cv,h.rv⟩
theorem cb.oH{W j:List ae}{N:Nat}{b c:AV}{d a:Nat->AV}{l:bg}(h:cb n M p q m qv ev aH aT W)(e:j=W\/ (j=W.take N/\Q))(k:Q->qv=b/\ev=c)(g:cb n M p q l b c d a H0)(f:H0.length=N):cb n M p q m qv ev aH aT j:=
 ⟨h.nM,h.Mq,h.co.oH e (λq=>(k q).1) g.co f,Ly e (by rw[<-f];exact g.lt) h.box,dk.oH h.rO e (λq=>(k q).2) g.rO f,h.cv,h.rv⟩
end
def ir(n M p q:Nat)(H:List ae)(lo:oN)(m':bg)(qv ev:AV)(r:AV)(d:aU):Prop:=
 ∃b c nO a H' aj,d= .ret r ⟨H',aj⟩/\cb n M p q m' b c nO a H'/\Fm n [M,p,q] H H'/\gR (b=qv/\c=ev) p H H' lo aj
def ir.fin{n N:Nat}{o m:bg}{c:AV}{e d:Nat->AV}{H W:List ae}(f:cb n M p q o a c e d H)(l:H.length=N)(h:cb n M p q m qv ev aH aT W)(g:Fm n [M,p,q] H W)(s:ga (qv=a/\ev=c) p b)(r:v.refs<=N):
  ir n M p q H lo m a c v (.ret (finish N lo v ⟨W,b⟩).1 (finish N lo v ⟨W,b⟩).2):=by
 have x:=f.lt;have w:=f.nM;have u:=f.co.lt;rcases s with⟨rfl,k⟩| ⟨j,t,rfl⟩
 ·rw[jE (.inl rfl) r];refine⟨qv,ev,aH,aT,_,lo,rfl,h.oH (.inr ⟨rfl,k⟩) id f l,g.take l (by omega),.inl ⟨rfl,?_,k⟩⟩;rw[af9];have:=g.len;omega
 ·rw[vR (by omega)];exact⟨qv,ev,aH,aT,W,cO lo j,rfl,h,g,.inr ⟨j,t,rfl⟩⟩
structure dt(m:bg):Prop where
 av:iV m.av
 t: ∀i,lL (m.aw i).t
 c: ∀i,fR (m.aw i).c
 fr: ∀i,(m.aw i).fr<2147483648
 now:m.now<2147483648
 ev:m.bz.length<2147483648
 run: ∀i,(m.aw i).c.run.1<=64/\ (m.aw i).c.run.2<=64
def aj0{n:Nat}{m:bg}{H:List ae}(h:cb n M p q m qv ev aH aT H)(t:Nat)(lo:oN):D XC (.fn (.func 60) [] []) [.ptr M 0,.int .i64 t] ⟨H,lo⟩=some (.ret (.bool (vD m t)) ⟨H,lo⟩):=by
 refine aK Jh λN e=>?_
 have d: (t:Int)>=0:=by omega
 unfold vD;by_cases c:t<8
 ·have a: (t:Int)<8:=by omega
  have b: (c7 m.av q qv)[936+t]?=some (.bool (m.av.S.alive t)):=by
   have:Den.part false 1 (c7 m.av q qv) (936+t)=some (.bool (m.av.S.alive t)):=by
    unfold c7;rw[ri (by rw[eg];omega) (by omega)];exact afx c
   exact this
  rw[ady c,amH];simp(disch:=omega) only[F1,go_sem,simprocAttr,Jh,d,a,h.box,h.co.box,rN,b]
 ·have a: ¬(t:Int)<8:=by omega
  rw[adb c,agq];simp(disch:=omega) only[F1,go_sem,simprocAttr,Jh,d,a]
def aj1:gB gP:=⟨by decide,by decide,by decide,by decide,by decide,by decide⟩
def Ck:fR iR:=⟨by decide,aj1,(λh a=>by cases a),⟨by decide,by decide⟩,by decide⟩
def cb.FX{n:Nat}{m:bg}{H:List ae}(h:cb n M p q m qv ev aH aT H)(i:Nat)(r:Runner)(cv rv:AV)(b:Rv cv 5 (r.t.code.map dm))(a:Rv rv 1 (r.c.ba.map hC)):
  cb n M p q {m with aw:=ai m.aw i r} qv ev (ai aH i cv) (ai aT i rv) (H.set M (.box (c8 {m with aw:=ai m.aw i r} p (ai aH i cv) (ai aT i rv) ev) none)):=
 h.set rfl rfl (λj=>by
  show Rv (ai aH i cv j) 5 ((ai m.aw i r j).t.code.map dm);by_cases e:j=i
  ·subst e;rw[bI,bI];exact b
  ·rw[bA e,bA e];exact h.cv j) λj=>by
  show Rv (ai aT i rv j) 1 ((ai m.aw i r j).c.ba.map hC);by_cases e:j=i
  ·subst e;rw[bI,bI];exact a
  ·rw[bA e,bA e];exact h.rv j
def iV.queue(b:iV x){r:aC}(c:r.1<=64/\r.2<=64)(d:x.Q.length+r.2<8589934592):iV (bT x r):=by
 have f: (bT x r).Q.length=x.Q.length+r.2:=by simp[bT,gy]
 refine⟨b.S,b.P,b.M,λk a=>?_,by omega⟩;rcases adB.1 a with a|a
 ·exact b.Q k a
 ·obtain⟨i,e,rfl⟩:=aeO.1 a
  grind
def iV.cut(a:iV x){c:Call}(b:c.run.1<=64/\c.run.2<=64)(d:x.Q.length+c.run.2<8589934592):iV (me x c):=by
 have:=a.queue b d;exact⟨this.S,this.P,Tw this.M _,this.Q,this.Ql⟩
def aj2(x:Core)(c:Call): (me x c).Q.length=x.Q.length+c.run.2:=by simp[me,bT,gy]
def dt.FY{m:bg}(h:dt m)(i:Nat)(b:m.av.Q.length<4294967296):dt (kN m i)/\ (kN m i).av.Q.length<=m.av.Q.length+64:=by
 unfold kN;split
 ·have a:=h.run i;refine⟨⟨h.av.cut a (by omega),λj=>?_,λj=>?_,λj=>?_,h.now,h.ev,λj=>?_⟩,?_⟩
  ·show lL (ai m.aw i _ j).t;unfold ai;split
   ·exact h.t i
   ·exact h.t j
  ·show fR (ai m.aw i _ j).c;unfold ai;split
   ·exact Ck
   ·exact h.c j
  ·show(ai m.aw i _ j).fr<_;unfold ai;split
   ·exact h.fr i
   ·exact h.fr j
  ·show(ai m.aw i _ j).c.run.1<=64/\ (ai m.aw i _ j).c.run.2<=64;unfold ai;split
   ·exact⟨by show 0<=64;omega,by show 0<=64;omega⟩
   ·exact h.run j
  ·show(me _ _).Q.length<=_;rw[aj2];omega
 grind
def fo(m:bg)(k:Nat):bg:=(List.range k).foldl kN m
def zV(m:bg)(k:Nat):fo m (k+1)=kN (fo m k) k:=by unfold fo;rw[aoZ,ang];rfl
theorem T6{m:bg}(h:dt m)(a:m.av.Q.length<1073741824): ∀k,k<=8->dt (fo m k)/\ (fo m k).av.Q.length<=m.av.Q.length+64*k
 |0,_=>⟨h,by show m.av.Q.length<=_;omega⟩
 |k+1,c=>by
  obtain⟨b,f⟩:=T6 h a k (by omega);obtain⟨e,d⟩:=b.FY k (by omega);rw[zV]
  grind
def awy{n:Nat}{m:bg}{H:List ae}(u:cb n M p q m qv ev aH aT H)(Y:dt m)(hQ:m.av.Q.length<1073741824)(lo:oN):
  ∃P,D XC (.fn (.func 63) [] []) [.ptr M 0] ⟨H,lo⟩=some P/\ir n M p q H lo (lF m) qv ev (.aA []) P:=by
 have ho:Old M H (.box (c8 m p aH aT ev) none):=⟨u.box⟩;refine cI Ph λN O=>?_
 have FZ:M<N:=by rw[<-O];exact u.lt
 have V:p<N:=by rw[<-O];exact u.co.lt
 have X:=u.nM;have hMq:=u.Mq;have T:=u.co.qp;simp only[go_sem,simprocAttr,Ph];refine gZ 8 (λk e W aj=> ∃i h d g,e 0= .ptr M 0/\e 4= .int .i64 k/\cb n M p q (fo m k) i h d g W/\ga (i=qv/\h=ev) p aj/\Fm n [M,p,q] H W) 0 (by omega) ?_ ?_
 ·refine⟨qv,ev,aH,aT,?_⟩;simp only[go_sem,simprocAttr];exact⟨u,ga.no trivial,Fm.refl⟩
 rintro k hk e W aj ⟨i,h,d,g,C,B,l,r,A⟩ nn hn;simp only[cm,go_sem,simprocAttr,adS,C,B];refine⟨λZ=>?_,λZ=>?_⟩
 ·have f:k<8:=by omega
  have w: (0:Int)<=k/\ (k:Int)<8:=by omega
  obtain⟨x,U⟩:=T6 Y hQ k (by omega);have s:=λlo=>aj0 l k lo
  have G:=zV m k;cases y: ((fo m k).aw k).busy with
  |false=>
   have e1:kN (fo m k) k=fo m k:=ac0 (by rw[y];simp);simp(disch:=omega) only[go_sem,simprocAttr,C,B,w,l.box,Cj f,y];exact⟨f,i,h,d,g,by rw[G,e1];exact l,r,A⟩
  |true=>
   cases z:vD (fo m k) k with
   |true=>
    rw[z]at s;have e1:kN (fo m k) k=fo m k:=ac0 (by rw[z];simp);simp(disch:=omega) only[go_sem,simprocAttr,C,B,w,l.box,Cj f,y,s];exact⟨f,i,h,d,g,by rw[G,e1];exact l,r,A⟩
   |false=>
    rw[z]at s;have e1:kN (fo m k) k={fo m k with av:=me (fo m k).av ((fo m k).aw k).c,aw:=ai (fo m k).aw k {(fo m k).aw k with busy:=false,c:=iR}}:=ac6 ⟨y,z⟩;obtain⟨P,g1,E,W3,R,rfl,g2,Q,g4⟩:=ai1 l.co x.av _ (x.c k) _ (dy (l.rv k) (bL (λ_=>rfl) _)) aj;have j:=l.av g2 Q;have S: [AV.int .i64 0,.int .u8 0,.int .u32 0,.int .u32 0,.int .u32 0,.int .u32 0,.int .u64 0,.bool false,.au,.int .i64 0,.int .i64 0,.int .i64 0]=ds iR .au:=rfl;have K:aL (ds iR .au)=0:=rfl;have L: (ds iR .au).length=12:=rfl;have J:1+k*24+22+1<=195:=by omega
    have I:1+k*24+10+12<=195:=by omega
    have F:=λo=>cZ (o:=o) j.box
    simp(disch:=omega) only[go_sem,simprocAttr,C,B,w,l.box,Cj f,rN,↓FV f,y,s,g1,j.box,oK,T5 f,zU f,S,K,L,J,I,F,ake,rh,bI];have t:=j.FX k {(fo m k).aw k with busy:=false,c:=iR} (d k) .au (j.cv k) .au;rw[mM]at t;refine⟨f,E,h,d,ai g k .au,?_,r.step g4 (λa b=>⟨b.trans a.1,a.2⟩),(A.trans (cb.fc Q)).trans (j.fM _)⟩;rw[G,e1];exact t
 ·obtain rfl:k=8:=by omega
  exact ir.fin (v:=.aA []) u O l A r (adC _)
def T7(a:aC)(b n:Nat)(j:a.2<4294967296)(m:b<17179869184/\n<17179869184)(H:List ae)(lo:oN):
  D XC (.fn (.func 125) [] []) [.agg (aD a),.int .i64 b,.int .i64 n] ⟨H,lo⟩=some (.ret (.agg (aD (handed a b n))) ⟨H,lo⟩):=by
 refine aK Bt λN f=>?_
 have o: (aD a)[1]?=some (.int .i64 a.2):=rfl;have k: ∀r,List.take 2 (aD r)=aD r:=λ_=>rfl
 have l: ∀r,List.drop 2 (aD r)=[]:=λ_=>rfl
 have h: ∀r:aC,(aD r).length=2:=λ_=>rfl
 have g: ∀r,aL (aD r)=0:=λ_=>rfl
 unfold handed;by_cases i:0<a.2
 ·have d:decide (0< ((a.2:Nat):Int))=true:=ady (by omega);by_cases e:a.2<=n-b
  ·have c:decide (((a.2:Nat):Int)<=(n:Int)-b)=true:=ady (by omega);rw[ac6 ⟨e,i⟩];simp(disch:=omega) only[F1,go_sem,simprocAttr,Bt,f,d,c,AK];rfl
  ·have c:decide (((a.2:Nat):Int)<=(n:Int)-b)=false:=adb (by omega);rw[ac0 (λq=>e q.1)];simp(disch:=omega) only[F1,go_sem,simprocAttr,Bt,f,c,h,g,AK]
 ·have d:decide (0< ((a.2:Nat):Int))=false:=adb (by omega);rw[ac0 (λq=>i q.2)];by_cases e: ((a.2:Nat):Int)<=(n:Int)-b
  ·have c:decide (((a.2:Nat):Int)<=(n:Int)-b)=true:=ady e;simp(disch:=omega) only[F1,go_sem,simprocAttr,Bt,f,d,c,h,g,AK]
  ·have c:decide (((a.2:Nat):Int)<=(n:Int)-b)=false:=adb e;simp(disch:=omega) only[F1,go_sem,simprocAttr,Bt,f,c,h,g,AK]
def cb.aj4{n:Nat}{m:bg}{H W:List ae}(h:cb n M p q m qv ev aH aT H){e:Event}(j:dk (M+1) W v 14 m8 ((m.bz++[e]).map bo))(b: ∀ (i:Nat) (o:ae),(∀a d,o≠ae.row a 14 m8 d)->H[i]?=some o->W[i]?=some o):
  cb n M p q {m with bz:=m.bz++[e]} qv v aH aT (W.set M (.box (c8 {m with bz:=m.bz++[e]} p aH aT v) none)):=by
 have c: ∀cs tg,∀a d,ae.box cs tg≠ .row a 14 m8 d:=λ_ _ _ _ e=>by cases e
 have f:=b M _ (c _ _) h.box;have l:=h.Mq;have k:=h.co.qp;refine⟨h.nM,h.Mq,⟨h.co.mp,h.co.mq,h.co.qp,(ach (by omega)).trans (b p _ (c _ _) h.co.box),(ach (by omega)).trans (b q _ (c _ _) h.co.jr),?_⟩,cZ f,j.set f _,h.cv,h.rv⟩;exact(h.co.jt.nX λid ak all g=>b id _ (λa d e=>by cases e) g).set f _
def aj5{n:Nat}{m:bg}{H W:List ae}(h:cb n M p q m qv ev aH aT H)(j:H.length<=W.length)(k: ∀i,i<M+1->W[i]?=H[i]?)(f: ∀ (i:Nat) (o:ae),(∀a d,o≠ae.row a 14 m8 d)->H[i]?=some o->W[i]?=some o)(o:ae):Fm n [M,p,q] H (W.set M o):=by
 have g:=h.nM;refine⟨by grind,λi b=>by grind,λi o' b ho c=>?_⟩;rw[ach (by grind)];exact f i o' (λa d e=>ho (.inr ⟨a,d,e⟩)) c
def awz(t:Task)(r:bE): (sT t r).code=t.code:=by
 unfold sT;grind
def T8{n:Nat}{m:bg}{H:List ae}(f:cb n M p q m qv ev aH aT H)(Y:dt m)(t:Nat)(i:t<8)(c:Call)(rv:AV)(Lq:rv.refs=0)(run:aC)(r:bE)(hr:r.w<4294967296/\r.e<4294967296)(lo:oN):
  ∃Z,D XC (.fn (.func 124) [] []) [.ptr M 0,.int .i64 t,.agg (ds c rv),.agg (aD run),.agg (bB r)] ⟨H,lo⟩=some Z/\ir n M p q H lo (Fc m t c run r) qv ev (.aA []) Z:=by
 refine cI PK λN l=>?_
 have FZ:M<N:=by rw[<-l];exact f.lt
 have oE:p<N:=by rw[<-l];exact f.co.lt
 have hb:=λL=>bm (L:=L) f.box
 have I: (0:Int)<=t/\ (t:Int)<8:=by omega
 have K:Den.part true 6 (ds c rv) 1=some (.agg (bq c.c)):=rfl;have hlr: ∀r:aC,List.take 2 (aD r)=aD r:=λ_=>rfl
 have Sn: ∀r:aC,(aD r).length=2:=λ_=>rfl
 have hls: ∀r:bE,List.take 3 (bB r)=bB r:=λ_=>rfl
 have T: ∀c:ck,bq c=[.int .u8 c.op,.int .u32 c.r,.int .u32 c.s,.int .u32 c.a,.int .u32 c.b,.int .u64 c.v]:=λ_=>rfl
 have j: ∀r:aC,aD r=[.int .i64 r.1,.int .i64 r.2]:=λ_=>rfl
 have h: ∀r:bE,bB r=[.int .i64 r.e,.int .u64 r.v,.int .u32 r.w]:=λ_=>rfl
 have R: ∀a b:Nat,[AV.int .i64 (t:Int),.int .u8 c.c.op,.int .u32 c.c.r,.int .u32 c.c.s,.int .u32 c.c.a,.int .u32 c.c.b,.int .u64 c.c.v,.int .i64 run.1,.int .i64 run.2,.int .i64 r.e,.int .u64 r.v,.int .u32 r.w,.int .i64 a,.int .i64 b]=bo ⟨t,c.c,run,r,a,b⟩:=λ_ _=>rfl
 obtain⟨B,hB⟩: ∃B:List ae,B=[.box (ds c rv) none,.box (aD run) none,.box (bB r) none]:=⟨_,rfl⟩;have w:=f.app B;obtain⟨v',W,g1,g2,g3,g4,x,g6,g7,g8⟩:=dk.append (bytes:=96) (lo:=none) (y:=bo ⟨t,c.c,run,r,(m.aw t).fr,m.now⟩) w.rO (by have:=w.lt;omega) (by omega) rfl rfl (by rw[aeK];have:=Y.ev;unfold room;omega);have eE:m.bz.map bo++[bo ⟨t,c.c,run,r,(m.aw t).fr,m.now⟩]=(m.bz++[(⟨t,c.c,run,r,(m.aw t).fr,m.now⟩:Event)]).map bo:=by rw[aeP];rfl
 rw[eE]at g2;have u:=w.aj4 g2 x;have U:=aj5 w g3 g4 x (.box (c8 {m with bz:=m.bz++[⟨t,c.c,run,r,(m.aw t).fr,m.now⟩]} p aH aT v') none);rw[hB]at g1;rw[j,h]at g1;have S: ∀e,(bo e).length=14:=λ_=>rfl
 have het: ∀e,List.take 14 (bo e)=bo e:=λ_=>rfl
 have X: ∀cs tg,∀a d,ae.box cs tg≠ .row a 14 m8 d:=λ_ _ _ _ e=>by cases e
 have V:=x M _ (X _ _) w.box;have wr:=x (N+2) _ (X _ _) (show(H++B)[N+2]?=some (.box (bB r) none) by rw[hB,bM l];rfl);rw[h]at wr;have J:=λo=>cZ (o:=o) V
 have z: ∀o,(W.set M o)[N+2]?=_:=λo=>(ach (by omega)).trans wr
 have E: ¬v'.refs<=M+1:=by omega
 have G: ∀H lo,D XC (.fn (.func 145) [] []) [.agg (dn (m.aw t).t (aH t)),.agg [.int .i64 r.e,.int .u64 r.v,.int .u32 r.w]] ⟨H,lo⟩=some (.ret (.agg (dn (sT (m.aw t).t r) (aH t))) ⟨H,lo⟩):=λH lo=>c0 (av7 (f.cv t) (Y.t t) r hr H lo)
 have k:=dy (f.cv t) (bL (λ_=>rfl) _);have F:=λt'=>FO (t:=t') k
 have hz: [AV.int .i64 0,.int .u8 0,.int .u32 0,.int .u32 0,.int .u32 0,.int .u32 0,.int .u64 0,.bool false,.au,.int .i64 0,.int .i64 0,.int .i64 0]=ds iR .au:=rfl;have A:aL (ds iR .au)=0:=rfl;have C: (ds iR .au).length=12:=rfl;have Q:1+t*24+10<=195:=by omega
 have P:1+t*24+22+1<=195:=by omega
 have O:1+t*24+10+12<=195:=by omega
 simp only[go_sem,simprocAttr,PK,l,I,hb,Ci,T4,awv i,↓K,T,j,h,R,S,het,g1,g6,g7,E,V,z,J,ajY,oK,↓LG i,G,F,ajZ i,T5 i,zU i,hz,A,C,Q,P,O,ake,rh,bI,xG];have g:=u.FX t {m.aw t with t:=sT (m.aw t).t r,busy:=false,c:=iR} (aH t) .au (by rw[awz];exact f.cv t) .au;rw[mM,ake]at g;have s:=(Fm.app B (by have:=f.nM;omega)).trans (U.trans (u.fM (.box (c8 {m with bz:=m.bz++[⟨t,c.c,run,r,(m.aw t).fr,m.now⟩],aw:=ai m.aw t {m.aw t with t:=sT (m.aw t).t r,busy:=false,c:=iR}} p aH (ai aT t .au) v') none)));rw[ake]at s;exact ir.fin (v:=.aA []) f l g s (.inr ⟨M,by have:=f.Mq;have:=f.co.qp;omega,rfl⟩) (adC _)
def xI(m:bg)(t:Nat):bg:={m with av:=(ee m.av (m.aw t).c).x,aw:=ai m.aw t {m.aw t with c:=(ee m.av (m.aw t).c).c}}
def T9(m:bg)(t:Nat):aC:=if(ee m.av (m.aw t).c).r.e≠0\/ (ee m.av (m.aw t).c).c.c.op≠2 then(0,0)else(m.aw t).c.run
theorem aj6(m:bg)(t:Nat):pT m t=if(ee m.av (m.aw t).c).ended then Fc (xI m t) t (ee m.av (m.aw t).c).c (handed (T9 m t) m.av.Q.length (ee m.av (m.aw t).c).x.Q.length) (ee m.av (m.aw t).c).r else xI m t:=rfl
def aj7{n:Nat}{m:bg}{H:List ae}(hD: ∀op,oG op)(g:cb n M p q m qv ev aH aT H)(hm:dt m)(t:Nat)(j:t<8)(hQ:m.av.Q.length<2147483648)
  (hd:rM (bN (fa ⟨m.av,(m.aw t).c,bu,false⟩).x.S (fa ⟨m.av,(m.aw t).c,bu,false⟩).c.aa (fa ⟨m.av,(m.aw t).c,bu,false⟩).c.c (fa ⟨m.av,(m.aw t).c,bu,false⟩).c.run) (m.aw t).c.c)
  (B:dt (xI m t)) (hr: (ee m.av (m.aw t).c).r.w<4294967296/\ (ee m.av (m.aw t).c).r.e<4294967296) (oW: (ee m.av (m.aw t).c).c.c.op<256) (lo:oN):
  ∃cr,D XC (.fn (.func 95) [] []) [.ptr M 0,.int .i64 t] ⟨H,lo⟩=some cr/\ir n M p q H lo (pT m t) qv ev (.aA []) cr:=by
 refine cI Br λN z=>?_
 have FZ:M<N:=by rw[<-z];exact g.lt
 have oE:p<N:=by rw[<-z];exact g.co.lt
 have hMq:=g.Mq;have TW:=g.co.qp;have Ua:=g.nM;have P: (0:Int)<=t/\ (t:Int)<8:=by omega
 have hb:=λL=>bm (L:=L) g.box
 have hcb:=λL=>bm (L:=L) g.co.box
 have M7:=λL lo=>((g.app L).co.jt.rd (lo:=lo)).bZ
 have hrz:=dy (g.rv t) (bL (λ_=>rfl) _);obtain⟨cr,g1,qv2,h,W,G,rfl,g2,g3,g4,g5⟩:=av5 hD (g.co.app [.box (aD (m.aw t).c.run) none,.box vU none,.box nN none]) hm.av (hm.c t) (g.rv t) hd hQ none;rw[aj6];have R: ∀r:aC,(aD r).length=2:=λ_=>rfl
 have Ub: ∀r:aC,List.take 2 (aD r)=aD r:=λ_=>rfl
 have r8: ∀r:aC,List.drop 2 (aD r)=[]:=λ_=>rfl
 have Q: ∀r:aC,aL (aD r)=0:=λ_=>rfl
 have O: [AV.int .i64 0,.int .u8 0,.int .u32 0,.int .u32 0,.int .u32 0,.int .u32 0,.int .u64 0,.bool false,.au,.int .i64 0,.int .i64 0,.int .i64 0]=vU:=rfl;have I: [AV.int .i64 0,.int .u64 0,.int .u32 0]=nN:=rfl;generalize hs:ee m.av (m.aw t).c=s at*;have e:=λlo=>(g.co.jt.rd (lo:=lo)).bZ
 have nM1:N∉[p,q]:=by simp;omega
 have nM2:N+1∉[p,q]:=by simp;omega
 have nM3:N+2∉[p,q]:=by simp;omega
 have v0:=g4.own nM1 (by rw[dB z];rfl);have v1:=g4.own nM2 (by rw[bM z];rfl);have v2:=g4.own nM3 (by rw[bM z];rfl);have hA:=(g.app [.box (aD (m.aw t).c.run) none,.box vU none,.box nN none]).av g2 g4;have J:vU.length=12:=rfl;have l:nN.length=3:=rfl;have K:List.drop 12 vU=[]:=rfl;have u:List.drop 3 nN=[]:=rfl;have Z: ∀c rv,(ds c rv).length=12:=λ_ _=>rfl
 have X: ∀c rv,List.take 12 (ds c rv)=ds c rv:=λ_ _=>rfl
 have w:=dy g3 (bL (λ_=>rfl) _);have Y:=TM s.c w;have s1:=λo=>cZ (o:=o) v1
 have y: ∀o,(W.set (N+1) o)[N+2]?=_:=λo=>(ach (by omega)).trans v2
 have vM: ∀o o',((W.set (N+1) o).set (N+2) o')[M]?=_:=λo o'=>(ach (by omega)).trans ((ach (by omega)).trans hA.box)
 have A: ∀o o':ae,((W.set (N+1) o).set (N+2) o')[N+1]?=some o:=λo o'=>(ach (by omega)).trans (s1 o)
 have T:1+t*24+10+12<=195:=by omega
 have LJ:=((hA.other v1 (by omega) (by omega) (by omega) (.box (ds s.c h) none)).other (y _) (by omega) (by omega) (by omega) (.box (bB s.r) none));have k:=LJ.FX t {m.aw t with c:=s.c} (aH t) h (g.cv t) g3;rw[mM]at k;have F:Fm n [M,p,q] H (((W.set (N+1) (.box (ds s.c h) none)).set (N+2) (.box (bB s.r) none)).set M (.box (c8 {m with av:=s.x,aw:=ai m.aw t {m.aw t with c:=s.c}} p aH (ai aT t h) ev) none)):=by
  have h1:=((cb.fc (M:=M) g4).pre (by omega)).out (i:=N+1) (by omega) (by omega) (.box (ds s.c h) none);exact(h1.out (i:=N+2) (by omega) (by omega) (.box (bB s.r) none)).trans (LJ.fM _)
 have S:ga (qv2=qv/\ev=ev) p G:=(gR.n g5).imp (λq=>⟨q.1,q.2,rfl⟩) id;obtain⟨W3,C⟩: ∃W3,W3=((W.set (N+1) (.box (ds s.c h) none)).set (N+2) (.box (bB s.r) none)).set M (.box (c8 {m with av:=s.x,aw:=ai m.aw t {m.aw t with c:=s.c}} p aH (ai aT t h) ev) none):=⟨_,rfl⟩;have x:=C.symm;have Cl:N+1+1=N+2:=rfl;have w0:W3[N]?=some (.box (aD (m.aw t).c.run) none):=by rw[C,ach (by omega),ach (by omega),ach (by omega)];exact v0
 have w1:W3[N+1]?=some (.box (ds s.c h) none):=by rw[C,ach (by omega)];exact A _ _
 have w2:W3[N+2]?=some (.box (bB s.r) none):=by rw[C,ach (by omega)];exact cZ (y _)
 rw[<-C]at k F;have Cm: (bB s.r)[0]?=some (.int .i64 s.r.e):=rfl;have hc1: (ds s.c h)[1]?=some (.int .u8 s.c.c.op):=rfl;have eM:xI m t={m with av:=s.x,aw:=ai m.aw t {m.aw t with c:=s.c}}:=by unfold xI;rw[hs]
 have eR:T9 m t=if s.r.e≠0\/s.c.c.op≠2 then(0,0)else(m.aw t).c.run:=by unfold T9;rw[hs]
 rw[eM]at B⊢;rw[eR];have hqb:s.x.Q.length<8589934592:=B.av.Ql;have An:=hm.run t;cases U:s.ended with
 |false=>
  simp only[go_sem,simprocAttr,Br,z,P,g.box,g.co.box,hb,rN,KL,↓KL,e,↓LH j,R,Q,↓FV j,O,I,g1,v1,y,vM,A,J,l,K,u,Z,X,Y,s9,qg,oK,zU j,T,U,Cl,x];exact ir.fin (v:=.aA []) g z k F S (adC _)
 |true=>
  by_cases he:s.r.e=0
  ·have V:decide (((s.r.e:Nat):Int)=0)=true:=ady (by omega);by_cases ho:s.c.c.op=2
   ·have Uc:decide (((s.c.c.op:Nat):Int)=2)=true:=ady (by omega);rw[ac6 rfl,ac0 (by omega)];have f:=k;have E:=F;have d:=λlo=>(f.co.jt.rd (lo:=lo)).bZ
    have hh:=λH lo=>T7 (m.aw t).c.run m.av.Q.length s.x.Q.length (by skip;omega) (by omega) H lo
    obtain⟨cr,g6,qv6,ev6,akc,akd,W6,lo6,rfl,g7,g8,g9⟩:=T8 f B t j s.c h w (handed (m.aw t).c.run m.av.Q.length s.x.Q.length) s.r hr G;simp only[go_sem,simprocAttr,Br,z,P,g.box,g.co.box,hb,rN,KL,↓KL,e,↓LH j,R,Q,↓FV j,O,I,g1,v1,y,vM,A,J,l,K,u,Z,X,Y,s9,xD,qg,oK,zU j,T,U,Cl,x,w0,w1,w2,Cm,hc1,V,Uc,k.box,f.co.box,d,hh,g6];exact ir.fin (v:=.aA []) g z g7 (E.trans g8) (S.step g9 λa b=>⟨b.1.trans a.1,b.2.trans a.2⟩) (adC _)
   ·have Uc:decide (((s.c.c.op:Nat):Int)=2)=false:=adb (by omega);rw[ac6 rfl,ac6 (.inr ho)];have f:=k.other w0 (by omega) (by omega) (by omega) (.box [.int .i64 0,.int .i64 0] none);have E:=F.out (i:=N) (by omega) (by omega) (.box [.int .i64 0,.int .i64 0] none);have u0:=λo=>cZ (o:=o) w0
    have u1: ∀o,(W3.set N o)[N+1]?=_:=λo=>(ach (by omega)).trans w1
    have u2: ∀o,(W3.set N o)[N+2]?=_:=λo=>(ach (by omega)).trans w2
    have d:=λlo=>(f.co.jt.rd (lo:=lo)).bZ
    have hh: ∀H lo,D XC (.fn (.func 125) [] []) [.agg [.int .i64 0,.int .i64 0],.int .i64 m.av.Q.length,.int .i64 s.x.Q.length] ⟨H,lo⟩=some (.ret (.agg (aD (handed (0,0) m.av.Q.length s.x.Q.length))) ⟨H,lo⟩):=λH lo=>T7 (0,0) m.av.Q.length s.x.Q.length (by show 0<4294967296;omega) (by omega) H lo
    obtain⟨cr,g6,qv6,ev6,akc,akd,W6,lo6,rfl,g7,g8,g9⟩:=T8 f B t j s.c h w (handed (0,0) m.av.Q.length s.x.Q.length) s.r hr G;simp only[go_sem,simprocAttr,Br,z,P,g.box,g.co.box,hb,rN,KL,↓KL,e,↓LH j,R,r8,Q,↓FV j,O,I,g1,v1,y,vM,A,J,l,K,u,Z,X,Y,s9,xD,qg,oK,zU j,T,U,Cl,x,w0,w1,w2,Cm,hc1,V,Uc,u0,u1,u2,f.box,f.co.box,d,hh,g6];exact ir.fin (v:=.aA []) g z g7 (E.trans g8) (S.step g9 λa b=>⟨b.1.trans a.1,b.2.trans a.2⟩) (adC _)
  ·have V:decide (((s.r.e:Nat):Int)=0)=false:=adb (by omega);rw[ac6 rfl,ac6 (.inl he)];have f:=k.other w0 (by omega) (by omega) (by omega) (.box [.int .i64 0,.int .i64 0] none);have E:=F.out (i:=N) (by omega) (by omega) (.box [.int .i64 0,.int .i64 0] none);have u0:=λo=>cZ (o:=o) w0
   have u1: ∀o,(W3.set N o)[N+1]?=_:=λo=>(ach (by omega)).trans w1
   have u2: ∀o,(W3.set N o)[N+2]?=_:=λo=>(ach (by omega)).trans w2
   have d:=λlo=>(f.co.jt.rd (lo:=lo)).bZ
   have hh: ∀H lo,D XC (.fn (.func 125) [] []) [.agg [.int .i64 0,.int .i64 0],.int .i64 m.av.Q.length,.int .i64 s.x.Q.length] ⟨H,lo⟩=some (.ret (.agg (aD (handed (0,0) m.av.Q.length s.x.Q.length))) ⟨H,lo⟩):=λH lo=>T7 (0,0) m.av.Q.length s.x.Q.length (by show 0<4294967296;omega) (by omega) H lo
   obtain⟨cr,g6,qv6,ev6,akc,akd,W6,lo6,rfl,g7,g8,g9⟩:=T8 f B t j s.c h w (handed (0,0) m.av.Q.length s.x.Q.length) s.r hr G;simp only[go_sem,simprocAttr,Br,z,P,g.box,g.co.box,hb,rN,KL,↓KL,e,↓LH j,R,r8,Q,↓FV j,O,I,g1,v1,y,vM,A,J,l,K,u,Z,X,Y,s9,xD,qg,oK,zU j,T,U,Cl,x,w0,w2,Cm,V,u0,u1,u2,f.box,f.co.box,d,hh,g6];exact ir.fin (v:=.aA []) g z g7 (E.trans g8) (S.step g9 λa b=>⟨b.1.trans a.1,b.2.trans a.2⟩) (adC _)
structure akf(m:bg)(t:Nat):Prop where
 d:rM (bN (fa ⟨m.av,(m.aw t).c,bu,false⟩).x.S (fa ⟨m.av,(m.aw t).c,bu,false⟩).c.aa (fa ⟨m.av,(m.aw t).c,bu,false⟩).c.c (fa ⟨m.av,(m.aw t).c,bu,false⟩).c.run) (m.aw t).c.c
 m':dt (xI m t)
 r: (ee m.av (m.aw t).c).r.w<4294967296/\ (ee m.av (m.aw t).c).r.e<4294967296
 op: (ee m.av (m.aw t).c).c.c.op<256
def awE{t:Task}(h:lL t):gB (jn t).1:=by
 unfold jn;split
 ·exact⟨by decide,by decide,by decide,by decide,by decide,by decide⟩
 ·rename_i x a;have ho:=FT h a;split
  ·exact⟨by decide,by decide,by decide,by decide,by decide,by decide⟩
  ·split
   ·exact aj1
   ·have c:=ho.op;have b:=ho.n;exact⟨by grind,anr _ (by omega),anr _ (by omega),anr _ (by omega),by grind,h.ba 5⟩
def awF(t:Task): (nA t).code=t.code:=by
 unfold nA
 grind
def vV(m:bg)(t:Nat):bg:={m with aw:=ai m.aw t {m.aw t with c:={iR with aa:=t,c:=(jn (m.aw t).t).1},busy:=true,fr:=m.now}}
def dt.wanted{m:bg}(h:dt m){t:Nat}(a:t<8):dt (vV m t):=by
 refine⟨h.av,λj=>?_,λj=>?_,λj=>?_,h.now,h.ev,λj=>?_⟩
 ·show lL (ai m.aw t _ j).t;unfold ai;split
  ·exact h.t t
  ·exact h.t j
 ·show fR (ai m.aw t _ j).c;unfold ai;split
  ·exact⟨by grind,awE (h.t t),Ck.ba,Ck.run,Ck.fx⟩
  ·exact h.c j
 ·show(ai m.aw t _ j).fr<_;unfold ai;split
  ·exact h.now
  ·exact h.fr j
 ·show(ai m.aw t _ j).c.run.1<=64/\ (ai m.aw t _ j).c.run.2<=64;unfold ai;split
  ·exact⟨by show 0<=64;omega,by show 0<=64;omega⟩
  ·exact h.run j
def awG{n:Nat}{m:bg}{H:List ae}(hD: ∀op,oG op)(b:cb n M p q m qv ev aH aT H)(y:dt m)(t:Nat)(d:t<8)(F:m.av.Q.length<2147483648)
  (A: ∀m,dt m->m.av.Q.length<2147483648->akf m t) (lo:oN):
  ∃s,D XC (.fn (.func 62) [] []) [.ptr M 0,.int .i64 t] ⟨H,lo⟩=some s/\ir n M p q H lo (pU m t) qv ev (.aA []) s:=by
 refine cI Er λN i=>?_
 have FZ:M<N:=by rw[<-i];exact b.lt
 have oE:p<N:=by rw[<-i];exact b.co.lt
 have Ua:=b.nM;have k: (0:Int)<=t/\ (t:Int)<8:=by omega
 have E:=λL=>bm (L:=L) b.box
 have hw:=λH lo=>c0 (T1 (b.cv t) (y.t t) H lo)
 have j: [AV.int .u8 0,.int .u32 0,.int .u32 0,.int .u32 0,.int .u32 0,.int .u64 0]=bq gP:=rfl;have Y: ∀c,(bq c).length=6:=λ_=>rfl
 have Z: ∀c,List.drop 6 (bq c)=[]:=λ_=>rfl
 have ct: ∀c,List.take 6 (bq c)=bq c:=λ_=>rfl
 have s: ∀c,aL (bq c)=0:=λ_=>rfl
 have z:=dy (b.cv t) (bL (λ_=>rfl) _);have B:=b.app [.box (bq (jn (m.aw t).t).1) none];unfold pU;dsimp only;cases h: (m.aw t).busy with
 |true=>
  have g:=A m y F;obtain⟨X,g1,G,W,C,u,W6,I,rfl,V,U,T⟩:=aj7 hD B y t d F g.d g.m' g.r g.op none;simp only[go_sem,simprocAttr,Er,i,k,b.box,E,↓LG d,Cj d,h,hw,j,Y,Z,s,g1];exact ir.fin (v:=.aA []) b i V (U.pre (by omega)) (gR.n T) (adC _)
 |false=>
  cases w: (jn (m.aw t).t).2 with
  |true=>
   rw[w]at hw;have x:=y.wanted d;have g:=A (vV m t) x F;have a:=B.FX t {m.aw t with c:={iR with aa:=t,c:=(jn (m.aw t).t).1},busy:=true,fr:=m.now} (aH t) .au (b.cv t) .au;rw[mM]at a;obtain⟨X,g1,G,W,C,u,W6,I,rfl,V,U,T⟩:=aj7 hD a x t d F g.d g.m' g.r g.op none;have P:1+t*24+10+12<=195:=by omega
   have Q:1+t*24+22+1<=195:=by omega
   have l:1+t*24+23+1<=195:=by omega
   have O:=λL o=>cZ (o:=o) (E L)
   have r:AV.int .i64 (t:Int):: (bq (jn (m.aw t).t).1++[.bool false,.au,.int .i64 0,.int .i64 0,.int .i64 0])=ds {iR with aa:=t,c:=(jn (m.aw t).t).1} .au:=rfl;have R: ∀c,aL (ds c .au)=0:=λ_=>rfl
   have S: ∀c,(ds c .au).length=12:=λ_=>rfl
   have f:AV.bool (m.aw t).busy= .bool false:=by rw[h]
   simp only[go_sem,simprocAttr,Er,i,k,b.box,E,Ci,↓LG d,Cj d,f,hw,j,Y,Z,ct,s,O,ake,r,R,S,zU d,T5 d,aww d,rh,bI,oK,l,Q,P,g1];have hf:Fm n [M,p,q] H ((H++[ae.box (bq (jn (m.aw t).t).1) none]).set M (ae.box (c8 (vV m t) p aH (ai aT t .au) ev) none)):=(Fm.app _ (by omega)).trans (B.fM _);exact ir.fin (v:=.aA []) b i V (hf.trans U) (gR.n T) (adC _)
  |false=>
   rw[w]at hw;have K:=λH lo=>c0 (awg (b.cv t) (y.t t) H lo)
   have a:=B.FX t {m.aw t with t:=nA (m.aw t).t} (aH t) (aT t) (by rw[awF];exact b.cv t) (b.rv t);rw[mM,mM]at a;have J:=λt'=>FO (t:=t') z
   have l:1+t*24+10<=195:=by omega
   have f:AV.bool (m.aw t).busy= .bool false:=by rw[h]
   simp only[go_sem,simprocAttr,Er,i,k,b.box,E,↓LG d,Cj d,f,hw,j,Y,Z,s,K,J,ajZ d,oK,l,xG];have e: (⟨nA (m.aw t).t,(m.aw t).c,false,(m.aw t).fr⟩:Runner)={m.aw t with t:=nA (m.aw t).t}:=by rw[<-h]
   rw[e];exact ir.fin (v:=.aA []) b i a ((Fm.app _ (by omega)).trans (B.fM _)) (ga.no ⟨rfl,rfl⟩) (adC _)
def dR.awH{n:Nat}{H W:List ae}(h:dR n p q x qv H)(r:dk (p+1) W v 1 o6 ((x.Q++[k]).map jH))(s:H.length<=W.length)(t: ∀i,i<p+1->W[i]?=H[i]?)(b: ∀ (i:Nat) (o:ae),(∀a d,o≠ae.row a 1 o6 d)->H[i]?=some o->W[i]?=some o):
  dR n p q {x with Q:=x.Q++[k]} v (W.set p (.box (c7 x q v) none))/\Fq n [p,q] H (W.set p (.box (c7 x q v) none)):=by
 have c: ∀cs tg,∀a d,ae.box cs tg≠ .row a 1 o6 d:=λ_ _ _ _ e=>by cases e
 have f:=b p _ (c _ _) h.box;have g:=h.qp;have j:=h.mp;refine⟨⟨h.mp,h.mq,h.qp,cZ f,(ach (by omega)).trans (b q _ (c _ _) h.jr),r.set f _⟩,⟨by grind,λi l=>?_,λi o l ho m=>?_⟩⟩
 ·grind
 ·rw[ach (by grind)];exact b i o (λa d e=>ho ⟨a,d,e⟩) m
theorem akg: ∀ (l:List aC) (x:Core) (s:aZ),l.foldl bT {x with S:=s}={l.foldl bT x with S:=s}
 | [],_,_=>rfl
 |r::l,x,s=>akg l (bT x r) s
def gb:ck:={gP with op:=20}
def kn(m:bg)(d:aZ×bE×List aC)(k:Nat):Core:=(d.2.2.take k).foldl bT {m.av with S:=d.1}
def awI{n:Nat}{m:bg}{H:List ae}(hD: ∀op,oG op)(x:cb n M p q m qv ev aH aT H)(hm:dt m)(t:Nat)(ht:t<8)(hQ:m.av.Q.length<2147483648)
  (hd:rM (bN m.av.S t gb (0,0)) gb) (lo:oN):
  ∃cr,D XC (.fn (.func 61) [] []) [.ptr M 0,.int .i64 t] ⟨H,lo⟩=some cr/\ir n M p q H lo (vE m t) qv ev (.aA []) cr:=by
 refine cI Pg λN hN=>?_
 have FZ:M<N:=by rw[<-hN];exact x.lt
 have oE:p<N:=by rw[<-hN];exact x.co.lt
 have Ua:=x.nM;have hMq:=x.Mq;have TW:=x.co.qp;have hb:=λL=>bm (L:=L) x.box
 have hcb:=λL=>bm (L:=L) x.co.box
 have hcx:gB gb:=⟨by decide,by decide,by decide,by decide,by decide,by decide⟩;obtain⟨bv,d1,d2⟩:=Lm m.av.S hm.av.S t (by omega) gb hcx (0,0) ⟨show 0<4294967296 by omega,show 0<4294967296 by omega⟩ (hD _) (H++[.box (bq gb) none,.box m9 none,.box nN none]) none;have d1:=cB d1;have eS:vE m t={m with av:=kn m (bN m.av.S t gb (0,0)) (bN m.av.S t gb (0,0)).2.2.length,bz:=m.bz++[⟨t,gb,(0,0),(bN m.av.S t gb (0,0)).2.1,m.now,m.now⟩]}:=by
  unfold kn;rw[aeQ,akg];rfl
 rw[eS];generalize bN m.av.S t gb (0,0)=d at*;have hz: [AV.int .u8 20,.int .u32 0,.int .u32 0,.int .u32 0,.int .u32 0,.int .u64 0]=bq gb:=rfl;have Cm:aD (0,0)=[.int .i64 0,.int .i64 0]:=rfl;rw[Cm]at d1;have hzr: [AV.int .i64 0,.int .u64 0,.int .u32 0]=nN:=rfl;have cl: ∀c,(bq c).length=6:=λ_=>rfl
 have cd: ∀c,List.drop 6 (bq c)=[]:=λ_=>rfl
 have ct: ∀c,List.take 6 (bq c)=bq c:=λ_=>rfl
 have cr: ∀c,aL (bq c)=0:=λ_=>rfl
 have U:nN.length=3:=rfl;have V:List.drop 3 nN=[]:=rfl;have hA:=(x.app [.box (bq gb) none,.box (bn d.1) none,.box (bB d.2.1) none]);have I:=hA.av (hA.co.aiY d.1) (hA.co.fp _);have G:=cb.fc (M:=M) (hA.co.fp (.box (c7 {m.av with S:=d.1} q qv) none));have Cl:N+1+1=N+2:=rfl;simp only[go_sem,simprocAttr,Pg,hN,Cl,hb,hcb,rN,KL,↓KL,KS,hz,hzr,cl,ct,cr,d1,DZ,kH,qg,U,V,d2.bZ];refine gZ d.2.2.length (λk e W aj=> ∃o,e 0= .ptr M 0/\e 1= .int .i64 t/\e 4= .ptr N 0/\e 6= .ptr (N+2) 0/\e 34=bv/\e 35= .int .i64 d.2.2.length/\e 36= .int .i64 k/\cb n M p q {m with av:=kn m d k} o ev aH aT W/\ga (o=qv/\ev=ev) p aj/\W[N]?=some (.box (bq gb) none)/\W[N+2]?=some (.box (bB d.2.1) none)/\Fm n [M,p,q] H W) 0 (by omega) ?_ ?_
 ·refine⟨qv,?_⟩;simp(disch:=omega) only[go_sem,simprocAttr];exact⟨I,ga.no trivial,(Fm.app _ (by omega)).trans G⟩
 rintro k hk e W aj ⟨o,B,e1,R,e6,l,i,h,s,g,J,K,P⟩ nn hn;simp only[cm,go_sem,simprocAttr,adR,B,l,i,h];refine⟨λhh=>?_,λhh=>?_⟩
 ·have w:k<d.2.2.length:=by omega
  generalize F:d.2.2.getD k default=f at*;have An:=hd.runs f (by rw[<-F];exact fX w);have uJ: ∀r:aC,(aD r).length=2:=λ_=>rfl
  have AI: ∀r,aL (aD r)=0:=λ_=>rfl
  have Ub: ∀r,List.take 2 (aD r)=aD r:=λ_=>rfl
  have r8: ∀r,List.drop 2 (aD r)=[]:=λ_=>rfl
  have Ol: (aD f)[1]?=some (.int .i64 f.2):=rfl;have aB0: (aD f)[0]?=some (.int .i64 f.1):=rfl;simp(disch:=omega) only[go_sem,simprocAttr,d2.cn,d2.cE,F,hn,uJ,AI];have X:=Ce (d.2.2.take k) {m.av with S:=d.1} (λz hz=>(hd.runs z (ahW hz)).2);have X: (kn m d k).Q.length<=m.av.Q.length+64*(d.2.2.take k).length:=X;have Ts: (d.2.2.take k).length<=k:=by simp;omega
  have hdl:=hd.len;refine⟨by omega,?_⟩;refine gZ f.2 (λj e T E=> ∃u,e 0= .ptr M 0/\e 1= .int .i64 t/\e 4= .ptr N 0/\e 6= .ptr (N+2) 0/\e 34=bv/\e 35= .int .i64 d.2.2.length/\e 36= .int .i64 k/\e 9= .ptr nn 0/\e 41= .int .i64 f.2/\e 42= .int .i64 j/\cb n M p q {m with av:=jI (kn m d k) f j} u ev aH aT T/\ga (u=qv/\ev=ev) p E/\T[nn]?=some (.box (aD f) none)/\T[N]?=some (.box (bq gb) none)/\T[N+2]?=some (.box (bB d.2.1) none)/\Fm n [M,p,q] H T) 0 (by omega) ?_ ?_
  ·refine⟨o,?_⟩;simp(disch:=omega) only[go_sem,simprocAttr,B,e1,R,e6,l,i,h];refine⟨?_,by simpa using g,bm J,bm K,P.trans (Fm.app _ (by have:=s.lt;omega))⟩;have e1:jI (kn m d k) f 0=kn m d k:=by unfold jI;simp
   rw[e1];exact s.app _
  have hK0:=s.co.box;have aB3:p<nn:=by rw[<-hn];exact s.co.lt
  clear g J K B e1 R e6 l i h s P hn;rintro j hj e T E ⟨u,B,e1,R,e6,l,i,h,e9,e41,e42,C,g,wn,J,K,P⟩ n2 hn2;simp(disch:=omega) only[cm,go_sem,simprocAttr,adQ,B,e1,R,e6,l,i,h,e41,e42];refine⟨λhh=>?_,λhh=>?_⟩
  ·have Y:j<f.2:=by omega
   have hwl:=C.co.lt;have M7: (jI (kn m d k) f j).Q.length<=m.av.Q.length+64*k+f.2:=by
    have: (jI (kn m d k) f j).Q.length=(kn m d k).Q.length+((gy f).take j).length:=by simp[jI]
    have h2: ((gy f).take j).length<=f.2:=by simp[gy];omega
    omega
   obtain⟨v',W3,g1,g2,g3,g4,A,g6,g7,g8⟩:=dk.append (bytes:=8) (lo:=E) (y:=[.int .i64 ((f.1:Int)+j)]) C.co.jt (by omega) (by omega) rfl rfl (by rw[aeK];unfold room;show((jI (kn m d k) f j).Q.length+1)*8<=_;omega);have eQ: (jI (kn m d k) f j).Q.map jH++[[.int .i64 ((f.1:Int)+j)]]=((jI (kn m d k) f j).Q++[f.1+j]).map jH:=by rw[aeP];rfl
   rw[eQ]at g2;obtain⟨c1,c2⟩:=C.co.awH g2 g3 g4 A;have Z:=C.av c1 c2;have eT: {jI (kn m d k) f j with Q:=(jI (kn m d k) f j).Q++[f.1+j]}=jI (kn m d k) f (j+1):=by
    unfold jI;rw[ai0 Y,<-ac8]
   rw[eT]at Z;have O: ∀cs tg,∀a d,ae.box cs tg≠ .row a 1 o6 d:=λ_ _ _ _ e=>by cases e
   have wp':=A p _ (O _ _) C.co.box;have g8': ¬v'.refs<=p+1:=by omega
   simp(disch:=omega) only[go_sem,simprocAttr,B,e1,R,e6,l,i,h,e9,e41,e42,C.box,C.co.box,rN,KL,↓KL,wn,g1,wp',KS,g6,g7,g8'];refine⟨Y,v',Z,?_,A nn _ (O _ _) wn,A N _ (O _ _) J,A (N+2) _ (O _ _) K,P.trans (cb.fc c2)⟩;rcases g with⟨rfl,_⟩| ⟨j2,hj2,rfl⟩
   ·exact .inr ⟨p,adA _,rfl⟩
   ·exact .inr ⟨min p j2,by omega,rfl⟩
  ·obtain rfl:j=f.2:=by omega
   have B:kn m d (k+1)=jI (kn m d k) f f.2:=by
    rw[aiZ];unfold kn;rw[<-F,agn,ac7 w,ang,aeN,ac7 w];rfl
   exact⟨w,u,by rw[B];exact C,g.imp (λq=>⟨q.1,q.2.1⟩) id,J,K,P⟩
 ·obtain rfl:k=d.2.2.length:=by omega
  have g:ga (o=qv/\ev=ev) p aj:=g;obtain⟨v',W3,g1,g2,g3,g4,A,g6,g7,g8⟩:=dk.append (bytes:=96) (lo:=aj) (y:=bo ⟨t,gb,(0,0),d.2.1,m.now,m.now⟩) s.rO (by have:=s.lt;omega) (by omega) rfl rfl (by rw[aeK];unfold room;have:=hm.ev;show(m.bz.length+1)*96<=_;omega);have eE:m.bz.map bo++[bo ⟨t,gb,(0,0),d.2.1,m.now,m.now⟩]=(m.bz++[(⟨t,gb,(0,0),d.2.1,m.now,m.now⟩:Event)]).map bo:=by rw[aeP];rfl
  have g2:dk (M+1) W3 v' 14 m8 ((m.bz++[(⟨t,gb,(0,0),d.2.1,m.now,m.now⟩:Event)]).map bo):=eE ▸ g2;have I:=s.aj4 g2 A;have G:=aj5 s g3 g4 A (.box (c8 {m with bz:=m.bz++[⟨t,gb,(0,0),d.2.1,m.now,m.now⟩]} p aH aT v') none);have O: ∀cs tg,∀a d,ae.box cs tg≠ .row a 14 m8 d:=λ_ _ _ _ e=>by cases e
  have wM:=A M _ (O _ _) s.box;have hv': ¬v'.refs<=M+1:=by omega
  have SQ: ∀c:ck,bq c=[.int .u8 c.op,.int .u32 c.r,.int .u32 c.s,.int .u32 c.a,.int .u32 c.b,.int .u64 c.v]:=λ_=>rfl
  have hse: ∀r:bE,bB r=[.int .i64 r.e,.int .u64 r.v,.int .u32 r.w]:=λ_=>rfl
  have hev: ∀a b:Nat,[AV.int .i64 (t:Int),.int .u8 gb.op,.int .u32 gb.r,.int .u32 gb.s,.int .u32 gb.a,.int .u32 gb.b,.int .u64 gb.v,.int .i64 0,.int .i64 0,.int .i64 d.2.1.e,.int .u64 d.2.1.v,.int .u32 d.2.1.w,.int .i64 a,.int .i64 b]=bo ⟨t,gb,(0,0),d.2.1,a,b⟩:=λ_ _=>rfl
  have qA: ∀e,(bo e).length=14:=λ_=>rfl
  have het: ∀e,List.take 14 (bo e)=bo e:=λ_=>rfl
  simp only[go_sem,simprocAttr,s.box,B,e1,R,e6,Ci,T4,J,K,SQ,hse,hev,qA,het,g1,g6,g7,hv',wM,ajY,oK];refine ir.fin (v:=.aA []) x hN I (P.trans G) ?_ (adC _);rcases g with⟨rfl,_⟩| ⟨j2,hj2,rfl⟩
  ·exact .inr ⟨M,by omega,rfl⟩
  ·exact .inr ⟨min M j2,by omega,rfl⟩
end Go.Proofs.YteplichagkpciaaGreatDoor
