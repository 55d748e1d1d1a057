/- Variables and arguments of the law. -/
import Derived.Test.YteplichagkpciaaGreatDoorM4
import Derived.Test.YteplichagkpciaaGreatDoorK3
import Derived.Test.YteplichagkpciaaGreatDoorTie
import Derived.Test.YteplichagkpciaaGreatDoorCards
import Derived.ProofKit
import Derived.Lay
import Derived.LaidMore
import Derived.ChangeShapes
import Derived.SevenTiedAt
import Derived.Stop.Joined
set_option linter.all false
set_option maxRecDepth 10000
set_option maxHeartbeats 1000000
namespace Go.Proofs.YteplichagkpciaaGreatDoor
open Go Go.Den Go.RowKit Go.ChangeShapes Go.WideShapes Go.ChangeAt Go.Proofs.YteplichagkpciaaGreatDoor
variable{f:Nat}
section
set_option maxRecDepth 100000
theorem own:ownKnob Tryz.prog.godebug=none:=by rfl
theorem MH{α:Type}{k:Nat}{v:α}: ∀ {l:List (Nat×α)},l.lookup k=some v->(k,v)∈l
 | [],h=>by cases h
 | (a,b)::l,h=>by
   rw[List.lookup_cons]at h;split at h
   ·grind
   ·exact afv _ (MH h)
noncomputable def aA9(a:lB):lN:=(List.range Tryz.prog.funcs.size).filter λf=>(Tryz.prog.funcs[f]?).any (·.name.toUTF8.data.toList==a)
def aBa:xj.all (λx=>aA9 x.2.1==[x.2.2])=true:=by kernel_rfl
theorem aBb:xj.all (λx=>!x.2.1.isEmpty)=true:=by rfl
def aBc:xj.Pairwise λx y=>x.1≠y.1:=by decide
abbrev Laid(W:World):Prop:=laidMetH Tryz.prog Rows.partsAllRow.laid W
abbrev Vj(W:World)(g:Nat)(es:List (AV×AV)):Prop:=g<W.heap.size/\ ∃a r ms clock,r<W.heap.size/\W.cell? ⟨g,0,none⟩=some (.map (some r))/\W.heap[r]?=some (.map ms clock)/\gg (G0 W.heap.size W) a ms.toList/\ ∀k v,eB k es=some v->eB k a=some v
def aBd{W:World}(h:Laid W):Vj W uS (sv xj):=
 aqq (h.funcs afG) rfl (by rfl) (t:=244) (by rfl) Tryz.underlying244 Tryz.underlying5 Tryz.underlying242
  (λx a=>by have:=afy.1 aBa x a;exact asw.1 this) (λx a e=>by have:=afy.1 aBb x a;grind) aBc
def aBe{W:World}{g:Nat}{es:List (AV×AV)}(h:Vj W g es):g<W.heap.size/\ ∃vs:List Value,(∀ (j:Nat) v,vs[j]?=some v->W.cell? ⟨g,j,none⟩=some v)/\Den.Leaves vs/\Den.aF (G0 W.heap.size W) [AV.lP g] vs:=by
 obtain⟨b,c,r,ms,clock,l,k,i,f,e⟩:=h;refine⟨b,[.map (some r)],λj v m=>?_,λv a=>by simp at a;subst a;rfl,aF.single.2 ⟨⟨r,rfl⟩,?_⟩⟩
 ·grind
 ·show(if g<W.heap.size then W.cell? ⟨g,0,none⟩else none)=_
  grind
def amx{W:World}(h:Laid W): ∀g t,BW.lookup g=some t->Vj W g (sv t):=λg t hg=>by
 have hm:=MH hg;simp only[BW,afJ,apL,List.mem_nil_iff,or_false]at hm;obtain⟨rfl,rfl⟩:=hm;exact aBd h
def amy{W:World}(h:Laid W):fQ X0 W.heap.size W:=by
 refine⟨λg cs hg=>?_,λg es hg=>?_⟩
 ·obtain⟨t,a,rfl⟩:=afn.1 (show(BW.lookup g).map (λ_=>[AV.lP g])=some cs from hg);exact aBe (amx h g t a)
 ·obtain⟨t,a,rfl⟩:=afn.1 (show(BW.lookup g).map sv=some es from hg);exact amx h g t a
def qw:oV Tryz.prog X0:=λf pf h=>by
 have a: (if kL.contains f then none else zt.lookup f)=some pf:=h;split at a
 ·grind
 ·exact afj _ (MH a)
def df{pf:PF}(h:zt.lookup f=some pf):lZ Tryz.prog f pf:=afj _ (MH h)
def Vk:Oz Tryz.prog xJ:=λg pr h=>by
 have a: (if g=308 then some xg else if g=115 then some xd else none)=some pr:=h;split at a
 ·rename_i e;cases a;subst e;exact⟨false,Tryz.f308,Tryz.func308,aqT⟩
 split at a
 ·rename_i e;cases a;subst e;exact⟨false,Tryz.f115,Tryz.func115,aqQ⟩
 grind
section
variable{B:Nat}{w:World}
def fA{g:Nat}{p q:lA->AS->Option aV}{R:Option (lA->AS->Option aV)}(b:gP Tryz.prog B w g q)(a:R=some p->gP Tryz.prog B w f p)(h: (if f=g then some q else R)=some p):gP Tryz.prog B w f p:=by grind
abbrev uz(B:Nat)(w:World)(X:Ctx):Prop:= ∀f p,X.bW f=some p->gP Tryz.prog B w f p
variable(hg:fQ X0 B w)
include hg
theorem An:gP Tryz.prog B w 56 me:=wG hg qw (λf p h=>by cases h) (df (by rfl))
theorem aBf:uz B w X1:=λf p h=>fA (An hg) (λh=>by cases h) h
theorem CN:gP Tryz.prog B w 19 mM:=wG (X:=X1) hg qw (aBf hg) (df (by rfl))
theorem aBg:uz B w X2:=λf p h=>fA (An hg) (fA (CN hg) (λh=>by cases h)) h
theorem GF:gP Tryz.prog B w 193 qa:=wG (X:=X2) hg qw (aBg hg) (df (by rfl))
theorem aBh:uz B w X3:=λf p h=>fA (An hg) (fA (CN hg) (fA (GF hg) (λh=>by cases h))) h
theorem MI:gP Tryz.prog B w 190 rK:=wG (X:=X3) hg qw (aBh hg) (df (by rfl))
theorem aBi:uz B w X4:=λf p h=>fA (An hg) (fA (CN hg) (fA (GF hg) (fA (MI hg) (λh=>by cases h)))) h
theorem Vl:gP Tryz.prog B w 188 xx:=wG (X:=X4) hg qw (aBi hg) (df (by rfl))
theorem aBj:uz B w X5:=λf p h=>fA (An hg) (fA (CN hg) (fA (GF hg) (fA (MI hg) (fA (Vl hg) (λh=>by cases h))))) h
theorem amz:gP Tryz.prog B w 182 zS:=wG (X:=X5) hg qw (aBj hg) (df (by rfl))
theorem aBk:uz B w X6:=λf p h=>fA (An hg) (fA (CN hg) (fA (GF hg) (fA (MI hg) (fA (Vl hg) (fA (amz hg) (λh=>by cases h)))))) h
theorem aBl:gP Tryz.prog B w 167 Ca:=wG (X:=X6) hg qw (aBk hg) (df (by rfl))
theorem Vm:uz B w X:=λf p h=>fA (An hg) (fA (CN hg) (fA (GF hg) (fA (MI hg) (fA (Vl hg) (fA (amz hg) (fA (aBl hg) (λh=>by cases h))))))) h
theorem aBm:gP Tryz.prog B w 307 Cj:=OE (X:=X) hg qw (Vm hg) Vk Tryz.func307 aqS
theorem aBn:gP Tryz.prog B w 275 Ck:=OE (X:=X) hg qw (Vm hg) Vk Tryz.func275 aqR
theorem amA:uz B w XA:=λf p h=>fA (aBm hg) (fA (aBn hg) (Vm hg f p)) h
theorem aBo:gP Tryz.prog B w 91 F0:=OE (X:=XA) hg qw (amA hg) Vk Tryz.func91 aqP
theorem amB:uz B w XB:=λf p h=>fA (aBo hg) (amA hg f p) h
theorem aBp:gP Tryz.prog B w 166 F6:=wG (X:=XB) hg qw (amB hg) (df (by rfl))
theorem aBq:uz B w XC:=λf p h=>fA (aBp hg) (fA (aA8 B w) (amB hg f p)) h
end
def aBr{W:World}(g:Laid W){f:FuncId}{fn:Func}(c:Tryz.prog.funcs[f]?=some fn)(l:fn.body.isSome=true)(b: (fn.name== "runtime.NumGoroutine")=false)
  {args:lA} {a:Array Value} (j:aF (Gh.start W) args a.toList) (h: ∃E,D XC (.fn (.func f) [] []) args ⟨[],none⟩=some (.ret (.bool true) E)):
  Calls Tryz.prog f a W λe w'=>e= .returned (.bool true)/\Below W.heap.size W w':=by
 obtain⟨E,h⟩:=h;refine(aoV (X:=XC) (amy g) qw (aBq (amy g)) c l b j h).mono ?_;rintro e w' ⟨G,v',rfl,i,k⟩;obtain rfl:v'= .bool true:=i
 grind
def aBs(os:Os)(args:Array Value):Laid ((World.doorLaid Tryz.prog 600 os).forCall (λ_ _=>0) ⟨#[],args,[]⟩).memory:=
 laidMetH_of_parts3 (fuel:=8) (laidMet_of_run' 8 (by kernel_rfl) (by kernel_rfl)) (by kernel_rfl) (by kernel_rfl)
section
variable{H:Type}{enc:TypeId×Value->H}{W:World}{sp:Nat->Bool}{held:Bool}{base:Nat}{v:Value}{d:DataW H}{ps:List MemPlace}
def aBt{t:Nat}{k:IntKind}{b:lA}{lo a:Int}(c:Tryz.prog.underlying t=some (.int k))(h:iI Tryz.prog (f+1) t d b)(e: ∀n,(Lit.int k n).wf=true->lo<=n/\n<=a): ∃n:Int,b=[.int k n]/\lo<=n/\n<=a:=by
 unfold iI at h
 grind
def wfi(n:Int)(h: (Lit.int .i64 n).wf=true): -9223372036854775808<=n/\n<=9223372036854775807:=by simpa[Lit.wf,IntKind.min,IntKind.max,IntKind.signed,IntKind.bits]using h
def aBv{α:Type}{e sz:Nat}{g:α->lA}{p:α->Prop}{es:List (DataW H)}{af:List lA}(j:es.length=af.length)(h: ∀ (i:Nat) (a:DataW H) (b:lA),es[i]?=some a->af[i]?=some b->b.length=sz/\iI Tryz.prog f e a b)
  (hg: ∀ (a:DataW H) b,iI Tryz.prog f e a b-> ∃x,b=g x/\p x): ∃l:List α,af=l.map g/\ ∀x∈l,p x:=by
 induction af generalizing es with
 |nil=>simp
 |cons b af c=>
  cases es with
  |nil=>grind
  |cons a es=>
   obtain⟨l,rfl,k⟩:=c (by simpa using j) λi a b o k=>h (i+1) a b (by grind) (by grind)
   obtain⟨x,rfl,n⟩:=hg a b (h 0 a b rfl rfl).2;exact⟨x::l,rfl,λy m=>by grind⟩
def aBw{b:lA}{d:DataW H}(h:iI Tryz.prog (f+2) 22 d b): ∃ (pv:AV) (l:List lB),b=[pv]/\Rv pv 1 (l.map sC):=by
 unfold iI at h;rcases h with⟨_,rfl⟩| ⟨es,rest,af,_,rfl,c,_,h⟩
 ·exact⟨_,[],rfl,.av⟩
 ·obtain⟨l,rfl,_⟩:=aBv (α:=lB) (g:=sC) (p:=λ_=>True) c h (λa b h=>by
    unfold iI at h;obtain⟨s,_,rfl,_⟩:=h;exact⟨s.data.toList,rfl,trivial⟩)
  exact⟨_,l,rfl,.sl λel h=>by obtain⟨x,_,rfl⟩:=afq.1 h;rfl⟩
def aBx(b:Value.okWide Tryz.prog W .any base 24 v)(h:DataW.Trod enc Tryz.prog W 0 sp held 24 v d ps):
  ∃ (aM:Int) (aK:List lB) (aX:lB) (pv:AV),an (Gh.start W) (.agg (dX aM pv aX)) v/\Gs aM aK aX pv:=by
 obtain⟨xs,g,a,l⟩:=aqN (f:=8) Tryz.underlying24 (by rfl) b h;unfold iI at a;obtain⟨m,_,a⟩:=a;obtain⟨_,_,_,_,_,rfl,j,_,_,_,_,_,rfl,i,_,_,_,_,_,rfl,c,_,rfl⟩:=a;obtain⟨aM,rfl,k⟩:=aBt Tryz.underlying3 j wfi;obtain⟨pv,aK,rfl,e⟩:=aBw i;unfold iI at c;obtain⟨s,_,rfl,_⟩:=c;exact⟨aM,aK,s.data.toList,pv,g,⟨by omega,e⟩⟩
end
end
end Go.Proofs.YteplichagkpciaaGreatDoor
