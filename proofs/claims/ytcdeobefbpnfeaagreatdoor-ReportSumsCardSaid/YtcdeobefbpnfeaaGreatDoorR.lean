/- A part. -/
import Derived.Test.YtcdeobefbpnfeaaGreatDoorM4
import Derived.Test.YtcdeobefbpnfeaaGreatDoorK3
import Derived.Test.YtcdeobefbpnfeaaGreatDoorTie
import Derived.Test.YtcdeobefbpnfeaaGreatDoorCards
import Derived.ProofKit
import Derived.Lay
import Derived.LaidMore
import Derived.ChangeShapes
import Derived.SevenTiedAt
import Derived.Stop.Joined
set_option linter.all false
set_option maxRecDepth 10000
set_option maxHeartbeats 1000000
namespace Go.Proofs.YtcdeobefbpnfeaaGreatDoor
open Go Go.Den Go.RowKit Go.ChangeShapes Go.WideShapes Go.ChangeAt Go.Proofs.YtcdeobefbpnfeaaGreatDoor
variable{f:Nat}
section
set_option maxRecDepth 100000
theorem own:ownKnob Tryz.prog.godebug=none:=by rfl
theorem MY{α:Type}{k:Nat}{v:α}: ∀ {l:List (Nat×α)},l.lookup k=some v->(k,v)∈l
 | [],h=>by cases h
 | (a,b)::l,h=>by
   rw[List.lookup_cons]at h;split at h
   ·grind
   ·exact afU _ (MY h)
noncomputable def aA0(a:lB):lN:=(List.range Tryz.prog.funcs.size).filter λf=>(Tryz.prog.funcs[f]?).any (·.name.toUTF8.data.toList==a)
def aA1:wU.all (λx=>aA0 x.2.1==[x.2.2])=true:=by kernel_rfl
theorem aA2:wU.all (λx=>!x.2.1.isEmpty)=true:=by rfl
def aA3:wU.Pairwise λx y=>x.1≠y.1:=by decide
abbrev Laid(W:World):Prop:=laidMetH Tryz.prog Rows.reportSumsRow.laid W
abbrev Vt(W:World)(g:Nat)(es:List (AV×AV)):Prop:=g<W.heap.size/\ ∃a r ms clock,r<W.heap.size/\W.cell? ⟨g,0,none⟩=some (.map (some r))/\W.heap[r]?=some (.map ms clock)/\fJ (G0 W.heap.size W) a ms.toList/\ ∀k v,eg k es=some v->eg k a=some v
def aA4{W:World}(h:Laid W):Vt W uR (sg wU):=
 aqM (h.funcs ai4) rfl (by rfl) (t:=290) (by rfl) Tryz.underlying290 Tryz.underlying5 Tryz.underlying288
  (λx a=>by have:=afQ.1 aA1 x a;exact au6.1 this) (λx a e=>by have:=afQ.1 aA2 x a;grind) aA3
def aA5{W:World}{g:Nat}{es:List (AV×AV)}(h:Vt W g es):g<W.heap.size/\ ∃vs:List Value,(∀ (j:Nat) v,vs[j]?=some v->W.cell? ⟨g,j,none⟩=some v)/\Den.Leaves vs/\Den.aG (G0 W.heap.size W) [AV.lG g] vs:=by
 obtain⟨b,c,r,ms,clock,l,k,i,f,e⟩:=h;refine⟨b,[.map (some r)],λj v m=>?_,λv a=>by simp at a;subst a;rfl,aG.single.2 ⟨⟨r,rfl⟩,?_⟩⟩
 ·grind
 ·show(if g<W.heap.size then W.cell? ⟨g,0,none⟩else none)=_
  grind
def amT{W:World}(h:Laid W): ∀g t,B1.lookup g=some t->Vt W g (sg t):=λg t hg=>by
 have hm:=MY hg;simp only[B1,ag6,aqb,List.mem_nil_iff,or_false]at hm;obtain⟨rfl,rfl⟩:=hm;exact aA4 h
def amU{W:World}(h:Laid W):fz X0 W.heap.size W:=by
 refine⟨λg cs hg=>?_,λg es hg=>?_⟩
 ·obtain⟨t,a,rfl⟩:=afE.1 (show(B1.lookup g).map (λ_=>[AV.lG g])=some cs from hg);exact aA5 (amT h g t a)
 ·obtain⟨t,a,rfl⟩:=afE.1 (show(B1.lookup g).map sg=some es from hg);exact amT h g t a
def qo:oX Tryz.prog X0:=λf pf h=>by
 have a: (if kL.contains f then none else zp.lookup f)=some pf:=h;split at a
 ·grind
 ·exact afA _ (MY a)
def cZ{pf:PF}(h:zp.lookup f=some pf):kO Tryz.prog f pf:=afA _ (MY h)
def Vu:ON Tryz.prog xx:=λg pr h=>by
 have a: (if g=325 then some wR else if g=160 then some wO else none)=some pr:=h;split at a
 ·rename_i e;cases a;subst e;exact⟨false,Tryz.f325,Tryz.func325,arf⟩
 split at a
 ·rename_i e;cases a;subst e;exact⟨false,Tryz.f160,Tryz.func160,arc⟩
 grind
section
variable{B:Nat}{w:World}
def eW{g:Nat}{p q:lA->AS->Option aX}{R:Option (lA->AS->Option aX)}(b:gz Tryz.prog B w g q)(a:R=some p->gz Tryz.prog B w f p)(h: (if f=g then some q else R)=some p):gz Tryz.prog B w f p:=by grind
abbrev uz(B:Nat)(w:World)(X:Ctx):Prop:= ∀f p,X.b8 f=some p->gz Tryz.prog B w f p
variable(hg:fz X0 B w)
include hg
theorem Av:gz Tryz.prog B w 46 mf:=wo hg qo (λf p h=>by cases h) (cZ (by rfl))
theorem aA6:uz B w X1:=λf p h=>eW (Av hg) (λh=>by cases h) h
theorem CT:gz Tryz.prog B w 19 mg:=wo (X:=X1) hg qo (aA6 hg) (cZ (by rfl))
theorem aA7:uz B w X2:=λf p h=>eW (Av hg) (eW (CT hg) (λh=>by cases h)) h
theorem GM:gz Tryz.prog B w 179 p9:=wo (X:=X2) hg qo (aA7 hg) (cZ (by rfl))
theorem aA8:uz B w X3:=λf p h=>eW (Av hg) (eW (CT hg) (eW (GM hg) (λh=>by cases h))) h
theorem MZ:gz Tryz.prog B w 158 rE:=wo (X:=X3) hg qo (aA8 hg) (cZ (by rfl))
theorem aA9:uz B w X4:=λf p h=>eW (Av hg) (eW (CT hg) (eW (GM hg) (eW (MZ hg) (λh=>by cases h)))) h
theorem Vv:gz Tryz.prog B w 156 xk:=wo (X:=X4) hg qo (aA9 hg) (cZ (by rfl))
theorem aBa:uz B w X5:=λf p h=>eW (Av hg) (eW (CT hg) (eW (GM hg) (eW (MZ hg) (eW (Vv hg) (λh=>by cases h))))) h
theorem amV:gz Tryz.prog B w 108 zW:=wo (X:=X5) hg qo (aBa hg) (cZ (by rfl))
theorem aBb:uz B w X6:=λf p h=>eW (Av hg) (eW (CT hg) (eW (GM hg) (eW (MZ hg) (eW (Vv hg) (eW (amV hg) (λh=>by cases h)))))) h
theorem aBc:gz Tryz.prog B w 73 Ch:=wo (X:=X6) hg qo (aBb hg) (cZ (by rfl))
theorem Vw:uz B w X:=λf p h=>eW (Av hg) (eW (CT hg) (eW (GM hg) (eW (MZ hg) (eW (Vv hg) (eW (amV hg) (eW (aBc hg) (λh=>by cases h))))))) h
theorem aBd:gz Tryz.prog B w 324 Cp:=OR (X:=X) hg qo (Vw hg) Vu Tryz.func324 are
theorem aBe:gz Tryz.prog B w 300 Cq:=OR (X:=X) hg qo (Vw hg) Vu Tryz.func300 ard
theorem amW:uz B w XA:=λf p h=>eW (aBd hg) (eW (aBe hg) (Vw hg f p)) h
theorem aBf:gz Tryz.prog B w 115 F7:=OR (X:=XA) hg qo (amW hg) Vu Tryz.func115 arb
theorem amX:uz B w XB:=λf p h=>eW (aBf hg) (amW hg f p) h
theorem aBg:gz Tryz.prog B w 207 Gc:=wo (X:=XB) hg qo (amX hg) (cZ (by rfl))
theorem aBh:uz B w XC:=λf p h=>eW (aBg hg) (eW (aAZ B w) (amX hg f p)) h
end
def aBi{W:World}(g:Laid W){f:FuncId}{fn:Func}(c:Tryz.prog.funcs[f]?=some fn)(l:fn.body.isSome=true)(b: (fn.name== "runtime.NumGoroutine")=false)
  {args:lA} {a:Array Value} (j:aG (Gh.start W) args a.toList) (h: ∃E,D XC (.fn (.func f) [] []) args ⟨[],none⟩=some (.ret (.bool true) E)):
  Calls Tryz.prog f a W λe w'=>e= .returned (.bool true)/\Below W.heap.size W w':=by
 obtain⟨E,h⟩:=h;refine(apg (X:=XC) (amU g) qo (aBh (amU g)) c l b j h).mono ?_;rintro e w' ⟨G,v',rfl,i,k⟩;obtain rfl:v'= .bool true:=i
 grind
def aBj(os:Os)(args:Array Value):Laid ((World.doorLaid Tryz.prog 600 os).forCall (λ_ _=>0) ⟨#[],args,[]⟩).memory:=
 laidMetH_of_parts3 (fuel:=8) (laidMet_of_run' 8 (by kernel_rfl) (by kernel_rfl)) (by kernel_rfl) (by kernel_rfl)
section
variable{H:Type}{enc:TypeId×Value->H}{W:World}{sp:Nat->Bool}{held:Bool}{base:Nat}{v:Value}{d:DataW H}{ps:List MemPlace}
def aBk{t:Nat}{k:IntKind}{b:lA}{lo a:Int}(c:Tryz.prog.underlying t=some (.int k))(h:ij Tryz.prog (f+1) t d b)(e: ∀n,(Lit.int k n).wf=true->lo<=n/\n<=a): ∃n:Int,b=[.int k n]/\lo<=n/\n<=a:=by
 unfold ij at h
 grind
def wfi(n:Int)(h: (Lit.int .i64 n).wf=true): -9223372036854775808<=n/\n<=9223372036854775807:=by simpa[Lit.wf,IntKind.min,IntKind.max,IntKind.signed,IntKind.bits]using h
def aBm{α:Type}{e sz:Nat}{g:α->lA}{p:α->Prop}{es:List (DataW H)}{af:List lA}(j:es.length=af.length)(h: ∀ (i:Nat) (a:DataW H) (b:lA),es[i]?=some a->af[i]?=some b->b.length=sz/\ij Tryz.prog f e a b)
  (hg: ∀ (a:DataW H) b,ij Tryz.prog f e a b-> ∃x,b=g x/\p x): ∃l:List α,af=l.map g/\ ∀x∈l,p x:=by
 induction af generalizing es with
 |nil=>simp
 |cons b af c=>
  cases es with
  |nil=>grind
  |cons a es=>
   obtain⟨l,rfl,k⟩:=c (by simpa using j) λi a b o k=>h (i+1) a b (by grind) (by grind)
   obtain⟨x,rfl,n⟩:=hg a b (h 0 a b rfl rfl).2;exact⟨x::l,rfl,λy m=>by grind⟩
def aBn{b:lA}{d:DataW H}(h:ij Tryz.prog (f+2) 22 d b): ∃ (pv:AV) (l:List lB),b=[pv]/\Rv pv 1 (l.map sC):=by
 unfold ij at h;rcases h with⟨_,rfl⟩| ⟨es,rest,af,_,rfl,c,_,h⟩
 ·exact⟨_,[],rfl,.aq⟩
 ·obtain⟨l,rfl,_⟩:=aBm (α:=lB) (g:=sC) (p:=λ_=>True) c h (λa b h=>by
    unfold ij at h;obtain⟨s,_,rfl,_⟩:=h;exact⟨s.data.toList,rfl,trivial⟩)
  exact⟨_,l,rfl,.sl λel h=>by obtain⟨x,_,rfl⟩:=afJ.1 h;rfl⟩
def aBo(b:Value.okWide Tryz.prog W .any base 24 v)(h:DataW.Trod enc Tryz.prog W 0 sp held 24 v d ps):
  ∃ (aM:Int) (aE:List lB) (aJ:lB) (pv:AV),an (Gh.start W) (.agg (fg aM pv aJ)) v/\U6 aM aE aJ pv:=by
 obtain⟨xs,g,a,l⟩:=aq9 (f:=8) Tryz.underlying24 (by rfl) b h;unfold ij at a;obtain⟨m,_,a⟩:=a;obtain⟨_,_,_,_,_,rfl,j,_,_,_,_,_,rfl,i,_,_,_,_,_,rfl,c,_,rfl⟩:=a;obtain⟨aM,rfl,k⟩:=aBk Tryz.underlying3 j wfi;obtain⟨pv,aE,rfl,e⟩:=aBn i;unfold ij at c;obtain⟨s,_,rfl,_⟩:=c;exact⟨aM,aE,s.data.toList,pv,g,⟨by omega,e⟩⟩
end
end
end Go.Proofs.YtcdeobefbpnfeaaGreatDoor
