/- Variables and arguments of the law. -/
import Derived.Test.YteplichagkpciaaGreatDoorM3
import Derived.Test.YteplichagkpciaaGreatDoorK3
import Derived.Test.YteplichagkpciaaGreatDoorD2
import Derived.Test.YteplichagkpciaaGreatDoorTie
import Derived.Test.YteplichagkpciaaGreatDoorCards
import Derived.ProofKit
import Derived.Lay
import Derived.LaidMore
import Derived.ChangeShapes
import Derived.SevenTiedAt
import Derived.Stop.Joined
set_option linter.all false
set_option maxRecDepth 10000
set_option maxHeartbeats 1000000
namespace Go.Proofs.YteplichagkpciaaGreatDoor
open Go Go.Den Go.RowKit Go.ChangeShapes Go.WideShapes Go.ChangeAt Go.Proofs.YteplichagkpciaaGreatDoor
variable{f:Nat}
section
set_option maxRecDepth 100000
theorem own:ownKnob Tryz.prog.godebug=none:=by rfl
theorem NN{α:Type}{k:Nat}{v:α}: ∀ {l:List (Nat×α)},l.lookup k=some v->(k,v)∈l
 | [],h=>by cases h
 | (a,b)::l,h=>by
   rw[List.lookup_cons]at h;split at h
   ·grind
   ·exact aiF _ (NN h)
noncomputable def anX(a:lB):lN:=(List.range Tryz.prog.funcs.size).filter λf=>(Tryz.prog.funcs[f]?).any (·.name.toUTF8.data.toList==a)
def aB5:xf.all (λx=>anX x.2.1==[x.2.2])=true:=by kernel_rfl
theorem aB6:xf.all (λx=>!x.2.1.isEmpty)=true:=by rfl
def aB7:xf.Pairwise λx y=>x.1≠y.1:=by decide
def aB8:xe.all (λx=>anX x.2.1==[x.2.2])=true:=by kernel_rfl
theorem aB9:xe.all (λx=>!x.2.1.isEmpty)=true:=by rfl
def aCa:xe.Pairwise λx y=>x.1≠y.1:=by decide
abbrev Laid(W:World):Prop:=laidMetH Tryz.prog Rows.schedGoodRow.laid W
abbrev NO(W:World)(g:Nat)(es:List (AV×AV)):Prop:=g<W.heap.size/\ ∃a r ms clock,r<W.heap.size/\W.cell? ⟨g,0,none⟩=some (.map (some r))/\W.heap[r]?=some (.map ms clock)/\eN (G0 W.heap.size W) a ms.toList/\ ∀k v,dS k es=some v->dS k a=some v
theorem aCb{W:World}(h:Laid W):NO W uS (qM xf):=
 afz (h.funcs amM) rfl (by rfl) (t:=244) (by rfl) Tryz.underlying244 Tryz.underlying5 Tryz.underlying242
  (λx a=>by have:=ahp.1 aB5 x a;exact au5.1 this) (λx a e=>by have:=ahp.1 aB6 x a;grind) aB7
theorem aCc{W:World}(h:Laid W):NO W uR (qM xe):=
 afz (h.funcs (aiF _ amM)) rfl (by rfl) (t:=168) (by rfl) Tryz.underlying168 Tryz.underlying5 Tryz.underlying166
  (λx a=>by have:=ahp.1 aB8 x a;exact au5.1 this) (λx a e=>by have:=ahp.1 aB9 x a;grind) aCa
def aCd{W:World}{g:Nat}{es:List (AV×AV)}(h:NO W g es):g<W.heap.size/\ ∃vs:List Value,(∀ (j:Nat) v,vs[j]?=some v->W.cell? ⟨g,j,none⟩=some v)/\Den.Leaves vs/\Den.aD (G0 W.heap.size W) [AV.jb g] vs:=by
 obtain⟨b,c,r,ms,clock,l,k,i,f,e⟩:=h;refine⟨b,[.map (some r)],λj v m=>?_,λv a=>by simp at a;subst a;rfl,aD.single.2 ⟨⟨r,rfl⟩,?_⟩⟩
 ·grind
 ·show(if g<W.heap.size then W.cell? ⟨g,0,none⟩else none)=_
  grind
theorem anY{W:World}(h:Laid W): ∀g t,B8.lookup g=some t->NO W g (qM t):=λg t hg=>by
 have hm:=NN hg;simp only[B8,ai2,arE,List.mem_nil_iff,or_false]at hm;rcases hm with⟨rfl,rfl⟩| ⟨rfl,rfl⟩
 ·exact aCc h
 ·exact aCb h
def anZ{W:World}(h:Laid W):fo X0 W.heap.size W:=by
 refine⟨λg cs hg=>?_,λg es hg=>?_⟩
 ·obtain⟨t,a,rfl⟩:=ahg.1 (show(B8.lookup g).map (λ_=>[AV.jb g])=some cs from hg);exact aCd (anY h g t a)
 ·obtain⟨t,a,rfl⟩:=ahg.1 (show(B8.lookup g).map qM=some es from hg);exact anY h g t a
theorem qu:o7 Tryz.prog X0:=λf pf h=>by
 have a: (if kL.contains f then none else zo.lookup f)=some pf:=h;split at a
 ·grind
 ·exact ag3 _ (NN a)
theorem cP{pf:PF}(h:zo.lookup f=some pf):eO Tryz.prog f pf:=ag3 _ (NN h)
theorem Xx:PB Tryz.prog xJ:=λg pr h=>by
 have a: (if g=yK then some xb else if g=A7 then some w8 else none)=some pr:=h;split at a
 ·rename_i e;cases a;subst e;exact⟨false,Tryz.f308,Tryz.func308,ass⟩
 split at a
 ·rename_i e;cases a;subst e;exact⟨false,Tryz.f115,Tryz.func115,asp⟩
 grind
section
variable{B:Nat}{w:World}
def eK{g:Nat}{p q:lA->AS->Option aS}{R:Option (lA->AS->Option aS)}(b:gb Tryz.prog B w g q)(a:R=some p->gb Tryz.prog B w f p)(h: (if f=g then some q else R)=some p):gb Tryz.prog B w f p:=by grind
abbrev uo(B:Nat)(w:World)(X:Ctx):Prop:= ∀f p,X.bU f=some p->gb Tryz.prog B w f p
variable(hg:fo X0 B w)
include hg
theorem Ae:gb Tryz.prog B w iH mb:=wA hg qu (λf p h=>by cases h) (cP (by rfl))
theorem aCe:uo B w X1:=λf p h=>eK (Ae hg) (λh=>by cases h) h
theorem C9:gb Tryz.prog B w j9 nG:=wA (X:=X1) hg qu (aCe hg) (cP (by rfl))
theorem aCf:uo B w X2:=λf p h=>eK (Ae hg) (eK (C9 hg) (λh=>by cases h)) h
theorem He:gb Tryz.prog B w mw qf:=wA (X:=X2) hg qu (aCf hg) (cP (by rfl))
theorem aCg:uo B w X3:=λf p h=>eK (Ae hg) (eK (C9 hg) (eK (He hg) (λh=>by cases h))) h
theorem NP:gb Tryz.prog B w m6 rJ:=wA (X:=X3) hg qu (aCg hg) (cP (by rfl))
theorem aCh:uo B w X4:=λf p h=>eK (Ae hg) (eK (C9 hg) (eK (He hg) (eK (NP hg) (λh=>by cases h)))) h
theorem Xy:gb Tryz.prog B w qP xv:=wA (X:=X4) hg qu (aCh hg) (cP (by rfl))
theorem aCi:uo B w X5:=λf p h=>eK (Ae hg) (eK (C9 hg) (eK (He hg) (eK (NP hg) (eK (Xy hg) (λh=>by cases h))))) h
theorem an0:gb Tryz.prog B w sr zO:=wA (X:=X5) hg qu (aCi hg) (cP (by rfl))
theorem aCj:uo B w X6:=λf p h=>eK (Ae hg) (eK (C9 hg) (eK (He hg) (eK (NP hg) (eK (Xy hg) (eK (an0 hg) (λh=>by cases h)))))) h
theorem aCk:gb Tryz.prog B w pC Cp:=wA (X:=X6) hg qu (aCj hg) (cP (by rfl))
theorem Xz:uo B w X:=λf p h=>eK (Ae hg) (eK (C9 hg) (eK (He hg) (eK (NP hg) (eK (Xy hg) (eK (an0 hg) (eK (aCk hg) (λh=>by cases h))))))) h
theorem aCl:gb Tryz.prog B w yI Cz:=PI (X:=X) hg qu (Xz hg) Xx Tryz.func307 asr
theorem aCm:gb Tryz.prog B w yG CA:=PI (X:=X) hg qu (Xz hg) Xx Tryz.func275 asq
theorem an1:uo B w XA:=λf p h=>eK (aCl hg) (eK (aCm hg) (Xz hg f p)) h
theorem aCn:gb Tryz.prog B w wD GD:=PI (X:=XA) hg qu (an1 hg) Xx Tryz.func91 aso
theorem an2:uo B w XB:=λf p h=>eK (aCn hg) (an1 hg f p) h
theorem aCo:gb Tryz.prog B w pA GJ:=wA (X:=XB) hg qu (an2 hg) (cP (by rfl))
theorem aCp:uo B w XC:=λf p h=>eK (aCo hg) (eK (aB4 B w) (an2 hg f p)) h
end
def aCq{W:World}(g:Laid W){f:FuncId}{fn:Func}(c:Tryz.prog.funcs[f]?=some fn)(l:fn.body.isSome=true)(b: (fn.name== "runtime.NumGoroutine")=false)
  {args:lA} {a:Array Value} (j:aD (Gh.start W) args a.toList) (h: ∃E,D XC (.fn (.func f) [] []) args ⟨[],none⟩=some (.ret (.bool true) E)):
  Calls Tryz.prog f a W λe w'=>e= .returned (.bool true)/\Below W.heap.size W w':=by
 obtain⟨E,h⟩:=h;refine(aql (X:=XC) (anZ g) qu (aCp (anZ g)) c l b j h).mono ?_;rintro e w' ⟨G,v',rfl,i,k⟩;obtain rfl:v'= .bool true:=i
 grind
theorem aCr(os:Os)(args:Array Value):Laid ((World.doorLaid Tryz.prog 600 os).forCall (λ_ _=>0) ⟨#[],args,[]⟩).memory:=
 laidMetH_of_parts3 (fuel:=8) (laidMet_of_run' 8 (by kernel_rfl) (by kernel_rfl)) (by kernel_rfl) (by kernel_rfl)
section
variable{H:Type}{enc:TypeId×Value->H}{W:World}{sp:Nat->Bool}{held:Bool}{base:Nat}{v:Value}{d:DataW H}{ps:List MemPlace}
def aCs{t:Nat}{k:IntKind}{b:lA}{lo a:Int}(c:Tryz.prog.underlying t=some (.int k))(h:gR Tryz.prog (f+1) t d b)(e: ∀n,(Lit.int k n).wf=true->lo<=n/\n<=a): ∃n:Int,b=[.int k n]/\lo<=n/\n<=a:=by
 unfold gR at h
 grind
def wf8(n:Int)(h: (Lit.int .u8 n).wf=true):0<=n/\n<=255:=by simpa[Lit.wf,IntKind.min,IntKind.max,IntKind.signed,IntKind.bits]using h
def aCt(n:Int)(h: (Lit.int .u16 n).wf=true):0<=n/\n<=65535:=by simpa[Lit.wf,IntKind.min,IntKind.max,IntKind.signed,IntKind.bits]using h
def wfi(n:Int)(h: (Lit.int .i64 n).wf=true): -9223372036854775808<=n/\n<=9223372036854775807:=by simpa[Lit.wf,IntKind.min,IntKind.max,IntKind.signed,IntKind.bits]using h
def aCv{α:Type}{e sz:Nat}{g:α->lA}{p:α->Prop}{es:List (DataW H)}{af:List lA}(j:es.length=af.length)(h: ∀ (i:Nat) (a:DataW H) (b:lA),es[i]?=some a->af[i]?=some b->b.length=sz/\gR Tryz.prog f e a b)
  (hg: ∀ (a:DataW H) b,gR Tryz.prog f e a b-> ∃x,b=g x/\p x): ∃l:List α,af=l.map g/\ ∀x∈l,p x:=by
 induction af generalizing es with
 |nil=>simp
 |cons b af c=>
  cases es with
  |nil=>grind
  |cons a es=>
   obtain⟨l,rfl,k⟩:=c (by simpa using j) λi a b o k=>h (i+1) a b (by grind) (by grind)
   obtain⟨x,rfl,n⟩:=hg a b (h 0 a b rfl rfl).2;exact⟨x::l,rfl,λy m=>by grind⟩
def aCw(a:Value.okWide Tryz.prog W .any base 107 v)(h:DataW.Trod enc Tryz.prog W 0 sp held 107 v d ps): ∃n:Nat,v= .int .u16 n/\n<65536:=by
 obtain⟨n,rfl,_,_,hw⟩:=open_int Tryz.underlying107 a h;have:=aCt n hw;exact⟨n.toNat,by grind,by omega⟩
def u8op(a:Value.okWide Tryz.prog W .any base 5 v)(h:DataW.Trod enc Tryz.prog W 0 sp held 5 v d ps): ∃n:Nat,v= .int .u8 n/\n<256:=by
 obtain⟨n,rfl,_,_,hw⟩:=open_int Tryz.underlying5 a h;have:=wf8 n hw;exact⟨n.toNat,by grind,by omega⟩
def aCx{b:lA}{d:DataW H}(h:gR Tryz.prog (f+2) 22 d b): ∃ (pv:AV) (l:List lB),b=[pv]/\Rv pv 1 (l.map sC):=by
 unfold gR at h;rcases h with⟨_,rfl⟩| ⟨es,rest,af,_,rfl,c,_,h⟩
 ·exact⟨_,[],rfl,.ai⟩
 ·obtain⟨l,rfl,_⟩:=aCv (α:=lB) (g:=sC) (p:=λ_=>True) c h (λa b h=>by
    unfold gR at h;obtain⟨s,_,rfl,_⟩:=h;exact⟨s.data.toList,rfl,trivial⟩)
  exact⟨_,l,rfl,.sl λel h=>by obtain⟨x,_,rfl⟩:=ahk.1 h;rfl⟩
def aCy(b:Value.okWide Tryz.prog W .any base 24 v)(h:DataW.Trod enc Tryz.prog W 0 sp held 24 v d ps):
  ∃ (aM:Int) (aC:List lB) (aW:lB) (pv:AV),an (Gh.start W) (.agg (dY aM pv aW)) v/\Nz aM aC aW pv:=by
 obtain⟨xs,e,a,k⟩:=asm (f:=8) Tryz.underlying24 (by rfl) b h;unfold gR at a;obtain⟨l,_,a⟩:=a;obtain⟨_,_,_,_,_,rfl,i,_,_,_,_,_,rfl,g,_,_,_,_,_,rfl,c,_,rfl⟩:=a;obtain⟨aM,rfl,j⟩:=aCs Tryz.underlying3 i wfi;obtain⟨pv,aC,rfl,hr⟩:=aCx g;unfold gR at c;obtain⟨s,_,rfl,_⟩:=c;exact⟨aM,aC,s.data.toList,pv,e,⟨by omega,hr⟩⟩
end
end
end Go.Proofs.YteplichagkpciaaGreatDoor
