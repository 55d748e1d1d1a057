/- Variables and arguments of the law. -/
import Derived.Test.YteplichagkpciaaGreatDoorM4
import Derived.Test.YteplichagkpciaaGreatDoorK3
import Derived.Test.YteplichagkpciaaGreatDoorTie
import Derived.Test.YteplichagkpciaaGreatDoorCards
import Derived.ProofKit
import Derived.Lay
import Derived.LaidMore
import Derived.ChangeShapes
import Derived.SevenTiedAt
import Derived.Stop.Joined
set_option linter.all false
set_option maxRecDepth 10000
set_option maxHeartbeats 1000000
namespace Go.Proofs.YteplichagkpciaaGreatDoor
open Go Go.Den Go.RowKit Go.ChangeShapes Go.WideShapes Go.ChangeAt Go.Proofs.YteplichagkpciaaGreatDoor
variable{f:Nat}
section
set_option maxRecDepth 100000
theorem own:ownKnob Tryz.prog.godebug=none:=by rfl
theorem Lz{α:Type}{k:Nat}{v:α}: ∀ {l:List (Nat×α)},l.lookup k=some v->(k,v)∈l
 | [],h=>by cases h
 | (a,b)::l,h=>by
   rw[List.lookup_cons]at h;split at h
   ·grind
   ·exact aew _ (Lz h)
noncomputable def axH(a:lB):lN:=(List.range Tryz.prog.funcs.size).filter λf=>(Tryz.prog.funcs[f]?).any (·.name.toUTF8.data.toList==a)
def axI:we.all (λx=>axH x.2.1==[x.2.2])=true:=by kernel_rfl
theorem axJ:we.all (λx=>!x.2.1.isEmpty)=true:=by rfl
def axK:we.Pairwise λx y=>x.1≠y.1:=by decide
abbrev Laid(W:World):Prop:=laidMetH Tryz.prog Rows.machineAgainRow.laid W
abbrev Ub(W:World)(g:Nat)(es:List (AV×AV)):Prop:=g<W.heap.size/\ ∃a r ms clock,r<W.heap.size/\W.cell? ⟨g,0,none⟩=some (.map (some r))/\W.heap[r]?=some (.map ms clock)/\fB (G0 W.heap.size W) a ms.toList/\ ∀k v,dU k es=some v->dU k a=some v
def axL{W:World}(h:Laid W):Ub W ub (rI we):=
 aoC (h.funcs ahM) rfl (by rfl) (t:=244) (by rfl) Tryz.underlying244 Tryz.underlying5 Tryz.underlying242
  (λx a=>by have:=aes.1 axI x a;exact aul.1 this) (λx a e=>by have:=aes.1 axJ x a;grind) axK
def axM{W:World}{g:Nat}{es:List (AV×AV)}(h:Ub W g es):g<W.heap.size/\ ∃vs:List Value,(∀ (j:Nat) v,vs[j]?=some v->W.cell? ⟨g,j,none⟩=some v)/\Den.Leaves vs/\Den.aG (G0 W.heap.size W) [AV.kZ g] vs:=by
 obtain⟨b,c,r,ms,clock,l,k,i,f,e⟩:=h;refine⟨b,[.map (some r)],λj v m=>?_,λv a=>by simp at a;subst a;rfl,aG.single.2 ⟨⟨r,rfl⟩,?_⟩⟩
 ·grind
 ·show(if g<W.heap.size then W.cell? ⟨g,0,none⟩else none)=_
  grind
def akI{W:World}(h:Laid W): ∀g t,Ba.lookup g=some t->Ub W g (rI t):=λg t hg=>by
 have hm:=Lz hg;simp only[Ba,aeB,aof,List.mem_nil_iff,or_false]at hm;obtain⟨rfl,rfl⟩:=hm;exact axL h
def akJ{W:World}(h:Laid W):fk X0 W.heap.size W:=by
 refine⟨λg cs hg=>?_,λg es hg=>?_⟩
 ·obtain⟨t,a,rfl⟩:=aeh.1 (show(Ba.lookup g).map (λ_=>[AV.kZ g])=some cs from hg);exact axM (akI h g t a)
 ·obtain⟨t,a,rfl⟩:=aeh.1 (show(Ba.lookup g).map rI=some es from hg);exact akI h g t a
def pF:ow Tryz.prog X0:=λf pf h=>by
 have a: (if kL.contains f then none else yx.lookup f)=some pf:=h;split at a
 ·grind
 ·exact aed _ (Lz a)
def cU{pf:PF}(h:yx.lookup f=some pf):ko Tryz.prog f pf:=aed _ (Lz h)
def Uc:Nr Tryz.prog wV:=λg pr h=>by
 have a: (if g=308 then some wa else if g=115 then some v7 else none)=some pr:=h;split at a
 ·rename_i e;cases a;subst e;exact⟨false,Tryz.f308,Tryz.func308,ao7⟩
 split at a
 ·rename_i e;cases a;subst e;exact⟨false,Tryz.f115,Tryz.func115,ao4⟩
 grind
section
variable{B:Nat}{w:World}
def eL{g:Nat}{p q:lA->AS->Option aT}{R:Option (lA->AS->Option aT)}(b:gg Tryz.prog B w g q)(a:R=some p->gg Tryz.prog B w f p)(h: (if f=g then some q else R)=some p):gg Tryz.prog B w f p:=by grind
abbrev sL(B:Nat)(w:World)(X:Ctx):Prop:= ∀f p,X.bU f=some p->gg Tryz.prog B w f p
variable(hg:fk X0 B w)
include hg
theorem zy:gg Tryz.prog B w 56 lD:=vE hg pF (λf p h=>by cases h) (cU (by rfl))
theorem axN:sL B w X1:=λf p h=>eL (zy hg) (λh=>by cases h) h
theorem B6:gg Tryz.prog B w 19 m4:=vE (X:=X1) hg pF (axN hg) (cU (by rfl))
theorem axO:sL B w X2:=λf p h=>eL (zy hg) (eL (B6 hg) (λh=>by cases h)) h
theorem FM:gg Tryz.prog B w 193 o8:=vE (X:=X2) hg pF (axO hg) (cU (by rfl))
theorem axP:sL B w X3:=λf p h=>eL (zy hg) (eL (B6 hg) (eL (FM hg) (λh=>by cases h))) h
theorem LA:gg Tryz.prog B w 190 qR:=vE (X:=X3) hg pF (axP hg) (cU (by rfl))
theorem axQ:sL B w X4:=λf p h=>eL (zy hg) (eL (B6 hg) (eL (FM hg) (eL (LA hg) (λh=>by cases h)))) h
theorem Ud:gg Tryz.prog B w 188 wG:=vE (X:=X4) hg pF (axQ hg) (cU (by rfl))
theorem axR:sL B w X5:=λf p h=>eL (zy hg) (eL (B6 hg) (eL (FM hg) (eL (LA hg) (eL (Ud hg) (λh=>by cases h))))) h
theorem akK:gg Tryz.prog B w 182 zd:=vE (X:=X5) hg pF (axR hg) (cU (by rfl))
theorem axS:sL B w X6:=λf p h=>eL (zy hg) (eL (B6 hg) (eL (FM hg) (eL (LA hg) (eL (Ud hg) (eL (akK hg) (λh=>by cases h)))))) h
theorem axT:gg Tryz.prog B w 167 Bw:=vE (X:=X6) hg pF (axS hg) (cU (by rfl))
theorem Ue:sL B w X:=λf p h=>eL (zy hg) (eL (B6 hg) (eL (FM hg) (eL (LA hg) (eL (Ud hg) (eL (akK hg) (eL (axT hg) (λh=>by cases h))))))) h
theorem axU:gg Tryz.prog B w 307 BF:=Nw (X:=X) hg pF (Ue hg) Uc Tryz.func307 ao6
theorem axV:gg Tryz.prog B w 275 BG:=Nw (X:=X) hg pF (Ue hg) Uc Tryz.func275 ao5
theorem akL:sL B w XA:=λf p h=>eL (axU hg) (eL (axV hg) (Ue hg f p)) h
theorem axW:gg Tryz.prog B w 91 Fa:=Nw (X:=XA) hg pF (akL hg) Uc Tryz.func91 ao3
theorem akM:sL B w XB:=λf p h=>eL (axW hg) (akL hg f p) h
theorem axX:gg Tryz.prog B w 166 Ff:=vE (X:=XB) hg pF (akM hg) (cU (by rfl))
theorem axY:sL B w XC:=λf p h=>eL (axX hg) (eL (axG B w) (akM hg f p)) h
end
def axZ{W:World}(g:Laid W){f:FuncId}{fn:Func}(c:Tryz.prog.funcs[f]?=some fn)(l:fn.body.isSome=true)(b: (fn.name== "runtime.NumGoroutine")=false)
  {args:lA} {a:Array Value} (j:aG (Gh.start W) args a.toList) (h: ∃E,D XC (.fn (.func f) [] []) args ⟨[],none⟩=some (.ret (.bool true) E)):
  Calls Tryz.prog f a W λe w'=>e= .returned (.bool true)/\Below W.heap.size W w':=by
 obtain⟨E,h⟩:=h;refine(am5 (X:=XC) (akJ g) pF (axY (akJ g)) c l b j h).mono ?_;rintro e w' ⟨G,v',rfl,i,k⟩;obtain rfl:v'= .bool true:=i
 grind
def ax0(os:Os)(args:Array Value):Laid ((World.doorLaid Tryz.prog 600 os).forCall (λ_ _=>0) ⟨#[],args,[]⟩).memory:=
 laidMetH_of_parts3 (fuel:=8) (laidMet_of_run' 8 (by kernel_rfl) (by kernel_rfl)) (by kernel_rfl) (by kernel_rfl)
section
variable{H:Type}{enc:TypeId×Value->H}{W:World}{sp:Nat->Bool}{held:Bool}{base:Nat}{v:Value}{d:DataW H}{ps:List MemPlace}
def ax1{t:Nat}{k:IntKind}{b:lA}{lo a:Int}(c:Tryz.prog.underlying t=some (.int k))(h:gU Tryz.prog (f+1) t d b)(e: ∀n,(Lit.int k n).wf=true->lo<=n/\n<=a): ∃n:Int,b=[.int k n]/\lo<=n/\n<=a:=by
 unfold gU at h
 grind
def wfi(n:Int)(h: (Lit.int .i64 n).wf=true): -9223372036854775808<=n/\n<=9223372036854775807:=by simpa[Lit.wf,IntKind.min,IntKind.max,IntKind.signed,IntKind.bits]using h
def ax3{α:Type}{e sz:Nat}{g:α->lA}{p:α->Prop}{es:List (DataW H)}{af:List lA}(j:es.length=af.length)(h: ∀ (i:Nat) (a:DataW H) (b:lA),es[i]?=some a->af[i]?=some b->b.length=sz/\gU Tryz.prog f e a b)
  (hg: ∀ (a:DataW H) b,gU Tryz.prog f e a b-> ∃x,b=g x/\p x): ∃l:List α,af=l.map g/\ ∀x∈l,p x:=by
 induction af generalizing es with
 |nil=>simp
 |cons b af c=>
  cases es with
  |nil=>grind
  |cons a es=>
   obtain⟨l,rfl,k⟩:=c (by simpa using j) λi a b o k=>h (i+1) a b (by grind) (by grind)
   obtain⟨x,rfl,n⟩:=hg a b (h 0 a b rfl rfl).2;exact⟨x::l,rfl,λy m=>by grind⟩
def ax4{b:lA}{d:DataW H}(h:gU Tryz.prog (f+2) 22 d b): ∃ (pv:AV) (l:List lB),b=[pv]/\Rv pv 1 (l.map sC):=by
 unfold gU at h;rcases h with⟨_,rfl⟩| ⟨es,rest,af,_,rfl,c,_,h⟩
 ·exact⟨_,[],rfl,.an⟩
 ·obtain⟨l,rfl,_⟩:=ax3 (α:=lB) (g:=sC) (p:=λ_=>True) c h (λa b h=>by
    unfold gU at h;obtain⟨s,_,rfl,_⟩:=h;exact⟨s.data.toList,rfl,trivial⟩)
  exact⟨_,l,rfl,.sl λel h=>by obtain⟨x,_,rfl⟩:=ael.1 h;rfl⟩
def ax5(b:Value.okWide Tryz.prog W .any base 24 v)(h:DataW.Trod enc Tryz.prog W 0 sp held 24 v d ps):
  ∃ (aU:Int) (aC:List lB) (aE:lB) (pv:AV),ak (Gh.start W) (.agg (dL aU pv aE)) v/\Lq aU aC aE pv:=by
 obtain⟨xs,g,a,l⟩:=ao1 (f:=8) Tryz.underlying24 (by rfl) b h;unfold gU at a;obtain⟨m,_,a⟩:=a;obtain⟨_,_,_,_,_,rfl,j,_,_,_,_,_,rfl,i,_,_,_,_,_,rfl,c,_,rfl⟩:=a;obtain⟨aU,rfl,k⟩:=ax1 Tryz.underlying3 j wfi;obtain⟨pv,aC,rfl,e⟩:=ax4 i;unfold gU at c;obtain⟨s,_,rfl,_⟩:=c;exact⟨aU,aC,s.data.toList,pv,g,⟨by omega,e⟩⟩
end
end
end Go.Proofs.YteplichagkpciaaGreatDoor
