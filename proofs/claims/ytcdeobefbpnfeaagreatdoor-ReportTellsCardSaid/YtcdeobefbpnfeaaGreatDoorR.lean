/- A part. -/
import Derived.Test.YtcdeobefbpnfeaaGreatDoorM4
import Derived.Test.YtcdeobefbpnfeaaGreatDoorK3
import Derived.Test.YtcdeobefbpnfeaaGreatDoorTie
import Derived.Test.YtcdeobefbpnfeaaGreatDoorCards
import Derived.ProofKit
import Derived.Lay
import Derived.LaidMore
import Derived.ChangeShapes
import Derived.SevenTiedAt
import Derived.Stop.Joined
set_option linter.all false
set_option maxRecDepth 10000
set_option maxHeartbeats 1000000
namespace Go.Proofs.YtcdeobefbpnfeaaGreatDoor
open Go Go.Den Go.RowKit Go.ChangeShapes Go.WideShapes Go.ChangeAt Go.Proofs.YtcdeobefbpnfeaaGreatDoor
variable{f:Nat}
section
set_option maxRecDepth 100000
theorem own:ownKnob Tryz.prog.godebug=none:=by rfl
theorem Ny{α:Type}{k:Nat}{v:α}: ∀ {l:List (Nat×α)},l.lookup k=some v->(k,v)∈l
 | [],h=>by cases h
 | (a,b)::l,h=>by
   rw[List.lookup_cons]at h;split at h
   ·grind
   ·exact agE _ (Ny h)
noncomputable def aAW(a:lB):lN:=(List.range Tryz.prog.funcs.size).filter λf=>(Tryz.prog.funcs[f]?).any (·.name.toUTF8.data.toList==a)
def aAX:xa.all (λx=>aAW x.2.1==[x.2.2])=true:=by kernel_rfl
theorem aAY:xa.all (λx=>!x.2.1.isEmpty)=true:=by rfl
def aAZ:xa.Pairwise λx y=>x.1≠y.1:=by decide
abbrev Laid(W:World):Prop:=laidMetH Tryz.prog Rows.reportTellsRow.laid W
abbrev Wc(W:World)(g:Nat)(es:List (AV×AV)):Prop:=g<W.heap.size/\ ∃a r ms clock,r<W.heap.size/\W.cell? ⟨g,0,none⟩=some (.map (some r))/\W.heap[r]?=some (.map ms clock)/\fN (G0 W.heap.size W) a ms.toList/\ ∀k v,eu k es=some v->eu k a=some v
def aA0{W:World}(h:Laid W):Wc W uR (sj xa):=
 aq5 (h.funcs alc) rfl (by rfl) (t:=290) (by rfl) Tryz.underlying290 Tryz.underlying5 Tryz.underlying288
  (λx a=>by have:=agx.1 aAX x a;exact atT.1 this) (λx a e=>by have:=agx.1 aAY x a;grind) aAZ
def aA1{W:World}{g:Nat}{es:List (AV×AV)}(h:Wc W g es):g<W.heap.size/\ ∃vs:List Value,(∀ (j:Nat) v,vs[j]?=some v->W.cell? ⟨g,j,none⟩=some v)/\Den.Leaves vs/\Den.aG (G0 W.heap.size W) [AV.lR g] vs:=by
 obtain⟨b,c,r,ms,clock,l,k,i,f,e⟩:=h;refine⟨b,[.map (some r)],λj v m=>?_,λv a=>by simp at a;subst a;rfl,aG.single.2 ⟨⟨r,rfl⟩,?_⟩⟩
 ·grind
 ·show(if g<W.heap.size then W.cell? ⟨g,0,none⟩else none)=_
  grind
def ani{W:World}(h:Laid W): ∀g t,B7.lookup g=some t->Wc W g (sj t):=λg t hg=>by
 have hm:=Ny hg;simp only[B7,agF,aqs,List.mem_nil_iff,or_false]at hm;obtain⟨rfl,rfl⟩:=hm;exact aA0 h
def anj{W:World}(h:Laid W):fC X0 W.heap.size W:=by
 refine⟨λg cs hg=>?_,λg es hg=>?_⟩
 ·obtain⟨t,a,rfl⟩:=agj.1 (show(B7.lookup g).map (λ_=>[AV.lR g])=some cs from hg);exact aA1 (ani h g t a)
 ·obtain⟨t,a,rfl⟩:=agj.1 (show(B7.lookup g).map sj=some es from hg);exact ani h g t a
def qA:py Tryz.prog X0:=λf pf h=>by
 have a: (if kL.contains f then none else zu.lookup f)=some pf:=h;split at a
 ·grind
 ·exact agf _ (Ny a)
def cZ{pf:PF}(h:zu.lookup f=some pf):k5 Tryz.prog f pf:=agf _ (Ny h)
def Wd:Pm Tryz.prog xB:=λg pr h=>by
 have a: (if g=325 then some w5 else if g=160 then some wY else none)=some pr:=h;split at a
 ·rename_i e;cases a;subst e;exact⟨false,Tryz.f325,Tryz.func325,arC⟩
 split at a
 ·rename_i e;cases a;subst e;exact⟨false,Tryz.f160,Tryz.func160,arz⟩
 grind
section
variable{B:Nat}{w:World}
def fh{g:Nat}{p q:lA->AS->Option aX}{R:Option (lA->AS->Option aX)}(b:gB Tryz.prog B w g q)(a:R=some p->gB Tryz.prog B w f p)(h: (if f=g then some q else R)=some p):gB Tryz.prog B w f p:=by grind
abbrev uz(B:Nat)(w:World)(X:Ctx):Prop:= ∀f p,X.cg f=some p->gB Tryz.prog B w f p
variable(hg:fC X0 B w)
include hg
theorem Aw:gB Tryz.prog B w 46 mm:=wE hg qA (λf p h=>by cases h) (cZ (by rfl))
theorem aA2:uz B w X1:=λf p h=>fh (Aw hg) (λh=>by cases h) h
theorem Dd:gB Tryz.prog B w 19 mn:=wE (X:=X1) hg qA (aA2 hg) (cZ (by rfl))
theorem aA3:uz B w X2:=λf p h=>fh (Aw hg) (fh (Dd hg) (λh=>by cases h)) h
theorem Hj:gB Tryz.prog B w 179 qk:=wE (X:=X2) hg qA (aA3 hg) (cZ (by rfl))
theorem aA4:uz B w X3:=λf p h=>fh (Aw hg) (fh (Dd hg) (fh (Hj hg) (λh=>by cases h))) h
theorem Nz:gB Tryz.prog B w 158 rH:=wE (X:=X3) hg qA (aA4 hg) (cZ (by rfl))
theorem aA5:uz B w X4:=λf p h=>fh (Aw hg) (fh (Dd hg) (fh (Hj hg) (fh (Nz hg) (λh=>by cases h)))) h
theorem We:gB Tryz.prog B w 156 xo:=wE (X:=X4) hg qA (aA5 hg) (cZ (by rfl))
theorem aA6:uz B w X5:=λf p h=>fh (Aw hg) (fh (Dd hg) (fh (Hj hg) (fh (Nz hg) (fh (We hg) (λh=>by cases h))))) h
theorem ank:gB Tryz.prog B w 108 zY:=wE (X:=X5) hg qA (aA6 hg) (cZ (by rfl))
theorem aA7:uz B w X6:=λf p h=>fh (Aw hg) (fh (Dd hg) (fh (Hj hg) (fh (Nz hg) (fh (We hg) (fh (ank hg) (λh=>by cases h)))))) h
theorem aA8:gB Tryz.prog B w 73 Cy:=wE (X:=X6) hg qA (aA7 hg) (cZ (by rfl))
theorem Wg:uz B w X:=λf p h=>fh (Aw hg) (fh (Dd hg) (fh (Hj hg) (fh (Nz hg) (fh (We hg) (fh (ank hg) (fh (aA8 hg) (λh=>by cases h))))))) h
theorem aA9:gB Tryz.prog B w 324 CH:=Pr (X:=X) hg qA (Wg hg) Wd Tryz.func324 arB
theorem aBa:gB Tryz.prog B w 300 CI:=Pr (X:=X) hg qA (Wg hg) Wd Tryz.func300 arA
theorem anl:uz B w XA:=λf p h=>fh (aA9 hg) (fh (aBa hg) (Wg hg f p)) h
theorem aBb:gB Tryz.prog B w 115 Gz:=Pr (X:=XA) hg qA (anl hg) Wd Tryz.func115 ary
theorem anm:uz B w XB:=λf p h=>fh (aBb hg) (anl hg f p) h
theorem aBc:gB Tryz.prog B w 207 GF:=wE (X:=XB) hg qA (anm hg) (cZ (by rfl))
theorem aBd:uz B w XC:=λf p h=>fh (aBc hg) (fh (aAV B w) (anm hg f p)) h
end
def aBe{W:World}(g:Laid W){f:FuncId}{fn:Func}(c:Tryz.prog.funcs[f]?=some fn)(l:fn.body.isSome=true)(b: (fn.name== "runtime.NumGoroutine")=false)
  {args:lA} {a:Array Value} (j:aG (Gh.start W) args a.toList) (h: ∃E,D XC (.fn (.func f) [] []) args ⟨[],none⟩=some (.ret (.bool true) E)):
  Calls Tryz.prog f a W λe w'=>e= .returned (.bool true)/\Below W.heap.size W w':=by
 obtain⟨E,h⟩:=h;refine(apB (X:=XC) (anj g) qA (aBd (anj g)) c l b j h).mono ?_;rintro e w' ⟨G,v',rfl,i,k⟩;obtain rfl:v'= .bool true:=i
 grind
def aBf(os:Os)(args:Array Value):Laid ((World.doorLaid Tryz.prog 600 os).forCall (λ_ _=>0) ⟨#[],args,[]⟩).memory:=
 laidMetH_of_parts3 (fuel:=8) (laidMet_of_run' 8 (by kernel_rfl) (by kernel_rfl)) (by kernel_rfl) (by kernel_rfl)
section
variable{H:Type}{enc:TypeId×Value->H}{W:World}{sp:Nat->Bool}{held:Bool}{base:Nat}{v:Value}{d:DataW H}{ps:List MemPlace}
def aBg{t:Nat}{k:IntKind}{b:lA}{lo a:Int}(c:Tryz.prog.underlying t=some (.int k))(h:ik Tryz.prog (f+1) t d b)(e: ∀n,(Lit.int k n).wf=true->lo<=n/\n<=a): ∃n:Int,b=[.int k n]/\lo<=n/\n<=a:=by
 unfold ik at h
 grind
def wfi(n:Int)(h: (Lit.int .i64 n).wf=true): -9223372036854775808<=n/\n<=9223372036854775807:=by simpa[Lit.wf,IntKind.min,IntKind.max,IntKind.signed,IntKind.bits]using h
def aBi{α:Type}{e sz:Nat}{g:α->lA}{p:α->Prop}{es:List (DataW H)}{af:List lA}(j:es.length=af.length)(h: ∀ (i:Nat) (a:DataW H) (b:lA),es[i]?=some a->af[i]?=some b->b.length=sz/\ik Tryz.prog f e a b)
  (hg: ∀ (a:DataW H) b,ik Tryz.prog f e a b-> ∃x,b=g x/\p x): ∃l:List α,af=l.map g/\ ∀x∈l,p x:=by
 induction af generalizing es with
 |nil=>simp
 |cons b af c=>
  cases es with
  |nil=>grind
  |cons a es=>
   obtain⟨l,rfl,k⟩:=c (by simpa using j) λi a b o k=>h (i+1) a b (by grind) (by grind)
   obtain⟨x,rfl,n⟩:=hg a b (h 0 a b rfl rfl).2;exact⟨x::l,rfl,λy m=>by grind⟩
def aBj{b:lA}{d:DataW H}(h:ik Tryz.prog (f+2) 22 d b): ∃ (pv:AV) (l:List lB),b=[pv]/\Rv pv 1 (l.map sC):=by
 unfold ik at h;rcases h with⟨_,rfl⟩| ⟨es,rest,af,_,rfl,c,_,h⟩
 ·exact⟨_,[],rfl,.aq⟩
 ·obtain⟨l,rfl,_⟩:=aBi (α:=lB) (g:=sC) (p:=λ_=>True) c h (λa b h=>by
    unfold ik at h;obtain⟨s,_,rfl,_⟩:=h;exact⟨s.data.toList,rfl,trivial⟩)
  exact⟨_,l,rfl,.sl λel h=>by obtain⟨x,_,rfl⟩:=ago.1 h;rfl⟩
def aBk(b:Value.okWide Tryz.prog W .any base 24 v)(h:DataW.Trod enc Tryz.prog W 0 sp held 24 v d ps):
  ∃ (aL:Int) (aF:List lB) (aK:lB) (pv:AV),an (Gh.start W) (.agg (fu aL pv aK)) v/\Nh aL aF aK pv:=by
 obtain⟨xs,g,a,l⟩:=arv (f:=8) Tryz.underlying24 (by rfl) b h;unfold ik at a;obtain⟨m,_,a⟩:=a;obtain⟨_,_,_,_,_,rfl,j,_,_,_,_,_,rfl,i,_,_,_,_,_,rfl,c,_,rfl⟩:=a;obtain⟨aL,rfl,k⟩:=aBg Tryz.underlying3 j wfi;obtain⟨pv,aF,rfl,e⟩:=aBj i;unfold ik at c;obtain⟨s,_,rfl,_⟩:=c;exact⟨aL,aF,s.data.toList,pv,g,⟨by omega,e⟩⟩
end
end
end Go.Proofs.YtcdeobefbpnfeaaGreatDoor
