/- Variables and arguments of the law. -/
import Derived.Test.YteplichagkpciaaGreatDoorM4
import Derived.Test.YteplichagkpciaaGreatDoorK3
import Derived.Test.YteplichagkpciaaGreatDoorTie
import Derived.Test.YteplichagkpciaaGreatDoorCards
import Derived.ProofKit
import Derived.Lay
import Derived.LaidMore
import Derived.ChangeShapes
import Derived.SevenTiedAt
import Derived.Stop.Joined
set_option linter.all false
set_option maxRecDepth 10000
set_option maxHeartbeats 1000000
namespace Go.Proofs.YteplichagkpciaaGreatDoor
open Go Go.Den Go.RowKit Go.ChangeShapes Go.WideShapes Go.ChangeAt Go.Proofs.YteplichagkpciaaGreatDoor
variable{f:Nat}
section
set_option maxRecDepth 100000
theorem own:ownKnob Tryz.prog.godebug=none:=by rfl
theorem L9{α:Type}{k:Nat}{v:α}: ∀ {l:List (Nat×α)},l.lookup k=some v->(k,v)∈l
 | [],h=>by cases h
 | (a,b)::l,h=>by
   rw[List.lookup_cons]at h;split at h
   ·grind
   ·exact aeR _ (L9 h)
noncomputable def azT(a:lB):lN:=(List.range Tryz.prog.funcs.size).filter λf=>(Tryz.prog.funcs[f]?).any (·.name.toUTF8.data.toList==a)
def azU:wY.all (λx=>azT x.2.1==[x.2.2])=true:=by kernel_rfl
theorem azV:wY.all (λx=>!x.2.1.isEmpty)=true:=by rfl
def azW:wY.Pairwise λx y=>x.1≠y.1:=by decide
abbrev Laid(W:World):Prop:=laidMetH Tryz.prog Rows.traceAgreesRow.laid W
abbrev UH(W:World)(g:Nat)(es:List (AV×AV)):Prop:=g<W.heap.size/\ ∃a r ms clock,r<W.heap.size/\W.cell? ⟨g,0,none⟩=some (.map (some r))/\W.heap[r]?=some (.map ms clock)/\gh (G0 W.heap.size W) a ms.toList/\ ∀k v,ew k es=some v->ew k a=some v
def azX{W:World}(h:Laid W):UH W uM (sg wY):=
 apx (h.funcs aeX) rfl (by rfl) (t:=244) (by rfl) Tryz.underlying244 Tryz.underlying5 Tryz.underlying242
  (λx a=>by have:=aeT.1 azU x a;exact awJ.1 this) (λx a e=>by have:=aeT.1 azV x a;grind) azW
def azY{W:World}{g:Nat}{es:List (AV×AV)}(h:UH W g es):g<W.heap.size/\ ∃vs:List Value,(∀ (j:Nat) v,vs[j]?=some v->W.cell? ⟨g,j,none⟩=some v)/\Den.Leaves vs/\Den.aG (G0 W.heap.size W) [AV.lM g] vs:=by
 obtain⟨b,c,r,ms,clock,l,k,i,f,e⟩:=h;refine⟨b,[.map (some r)],λj v m=>?_,λv a=>by simp at a;subst a;rfl,aG.single.2 ⟨⟨r,rfl⟩,?_⟩⟩
 ·grind
 ·show(if g<W.heap.size then W.cell? ⟨g,0,none⟩else none)=_
  grind
def alC{W:World}(h:Laid W): ∀g t,BD.lookup g=some t->UH W g (sg t):=λg t hg=>by
 have hm:=L9 hg;simp only[BD,aeZ,apA,List.mem_nil_iff,or_false]at hm;obtain⟨rfl,rfl⟩:=hm;exact azX h
def alD{W:World}(h:Laid W):fP X0 W.heap.size W:=by
 refine⟨λg cs hg=>?_,λg es hg=>?_⟩
 ·obtain⟨t,a,rfl⟩:=aeL.1 (show(BD.lookup g).map (λ_=>[AV.lM g])=some cs from hg);exact azY (alC h g t a)
 ·obtain⟨t,a,rfl⟩:=aeL.1 (show(BD.lookup g).map sg=some es from hg);exact alC h g t a
def qm:oU Tryz.prog X0:=λf pf h=>by
 have a: (if kL.contains f then none else zb.lookup f)=some pf:=h;split at a
 ·grind
 ·exact aeD _ (L9 a)
def dg{pf:PF}(h:zb.lookup f=some pf):lY Tryz.prog f pf:=aeD _ (L9 h)
def UI:NX Tryz.prog xy:=λg pr h=>by
 have a: (if g=308 then some wV else if g=115 then some wS else none)=some pr:=h;split at a
 ·rename_i e;cases a;subst e;exact⟨false,Tryz.f308,Tryz.func308,ap3⟩
 split at a
 ·rename_i e;cases a;subst e;exact⟨false,Tryz.f115,Tryz.func115,ap0⟩
 grind
section
variable{B:Nat}{w:World}
def fu{g:Nat}{p q:lA->AS->Option aU}{R:Option (lA->AS->Option aU)}(b:gX Tryz.prog B w g q)(a:R=some p->gX Tryz.prog B w f p)(h: (if f=g then some q else R)=some p):gX Tryz.prog B w f p:=by grind
abbrev uo(B:Nat)(w:World)(X:Ctx):Prop:= ∀f p,X.cg f=some p->gX Tryz.prog B w f p
variable(hg:fP X0 B w)
include hg
theorem z5:gX Tryz.prog B w 56 mh:=wu hg qm (λf p h=>by cases h) (dg (by rfl))
theorem azZ:uo B w X1:=λf p h=>fu (z5 hg) (λh=>by cases h) h
theorem Cs:gX Tryz.prog B w 19 mi:=wu (X:=X1) hg qm (azZ hg) (dg (by rfl))
theorem az0:uo B w X2:=λf p h=>fu (z5 hg) (fu (Cs hg) (λh=>by cases h)) h
theorem Gd:gX Tryz.prog B w 193 pW:=wu (X:=X2) hg qm (az0 hg) (dg (by rfl))
theorem az1:uo B w X3:=λf p h=>fu (z5 hg) (fu (Cs hg) (fu (Gd hg) (λh=>by cases h))) h
theorem Ma:gX Tryz.prog B w 190 rE:=wu (X:=X3) hg qm (az1 hg) (dg (by rfl))
theorem az2:uo B w X4:=λf p h=>fu (z5 hg) (fu (Cs hg) (fu (Gd hg) (fu (Ma hg) (λh=>by cases h)))) h
theorem UJ:gX Tryz.prog B w 188 xj:=wu (X:=X4) hg qm (az2 hg) (dg (by rfl))
theorem az3:uo B w X5:=λf p h=>fu (z5 hg) (fu (Cs hg) (fu (Gd hg) (fu (Ma hg) (fu (UJ hg) (λh=>by cases h))))) h
theorem alE:gX Tryz.prog B w 182 zv:=wu (X:=X5) hg qm (az3 hg) (dg (by rfl))
theorem az4:uo B w X6:=λf p h=>fu (z5 hg) (fu (Cs hg) (fu (Gd hg) (fu (Ma hg) (fu (UJ hg) (fu (alE hg) (λh=>by cases h)))))) h
theorem az5:gX Tryz.prog B w 167 BT:=wu (X:=X6) hg qm (az4 hg) (dg (by rfl))
theorem UK:uo B w X:=λf p h=>fu (z5 hg) (fu (Cs hg) (fu (Gd hg) (fu (Ma hg) (fu (UJ hg) (fu (alE hg) (fu (az5 hg) (λh=>by cases h))))))) h
theorem az6:gX Tryz.prog B w 307 B2:=N4 (X:=X) hg qm (UK hg) UI Tryz.func307 ap2
theorem az7:gX Tryz.prog B w 275 B3:=N4 (X:=X) hg qm (UK hg) UI Tryz.func275 ap1
theorem alF:uo B w XA:=λf p h=>fu (az6 hg) (fu (az7 hg) (UK hg f p)) h
theorem az8:gX Tryz.prog B w 91 FC:=N4 (X:=XA) hg qm (alF hg) UI Tryz.func91 apZ
theorem alG:uo B w XB:=λf p h=>fu (az8 hg) (alF hg f p) h
theorem az9:gX Tryz.prog B w 166 FG:=wu (X:=XB) hg qm (alG hg) (dg (by rfl))
theorem aAa:uo B w XC:=λf p h=>fu (az9 hg) (fu (azS B w) (alG hg f p)) h
end
def aAb{W:World}(g:Laid W){f:FuncId}{fn:Func}(c:Tryz.prog.funcs[f]?=some fn)(l:fn.body.isSome=true)(b: (fn.name== "runtime.NumGoroutine")=false)
  {args:lA} {a:Array Value} (j:aG (Gh.start W) args a.toList) (h: ∃E,D XC (.fn (.func f) [] []) args ⟨[],none⟩=some (.ret (.bool true) E)):
  Calls Tryz.prog f a W λe w'=>e= .returned (.bool true)/\Below W.heap.size W w':=by
 obtain⟨E,h⟩:=h;refine(an3 (X:=XC) (alD g) qm (aAa (alD g)) c l b j h).mono ?_;rintro e w' ⟨G,v',rfl,i,k⟩;obtain rfl:v'= .bool true:=i
 grind
def aAc(os:Os)(args:Array Value):Laid ((World.doorLaid Tryz.prog 600 os).forCall (λ_ _=>0) ⟨#[],args,[]⟩).memory:=
 laidMetH_of_parts3 (fuel:=8) (laidMet_of_run' 8 (by kernel_rfl) (by kernel_rfl)) (by kernel_rfl) (by kernel_rfl)
section
variable{H:Type}{enc:TypeId×Value->H}{W:World}{sp:Nat->Bool}{held:Bool}{base:Nat}{v:Value}{d:DataW H}{ps:List MemPlace}
def aAd{t:Nat}{k:IntKind}{b:lA}{lo a:Int}(c:Tryz.prog.underlying t=some (.int k))(h:iH Tryz.prog (f+1) t d b)(e: ∀n,(Lit.int k n).wf=true->lo<=n/\n<=a): ∃n:Int,b=[.int k n]/\lo<=n/\n<=a:=by
 unfold iH at h
 grind
def wfi(n:Int)(h: (Lit.int .i64 n).wf=true): -9223372036854775808<=n/\n<=9223372036854775807:=by simpa[Lit.wf,IntKind.min,IntKind.max,IntKind.signed,IntKind.bits]using h
def aAf{α:Type}{e sz:Nat}{g:α->lA}{p:α->Prop}{es:List (DataW H)}{af:List lA}(j:es.length=af.length)(h: ∀ (i:Nat) (a:DataW H) (b:lA),es[i]?=some a->af[i]?=some b->b.length=sz/\iH Tryz.prog f e a b)
  (hg: ∀ (a:DataW H) b,iH Tryz.prog f e a b-> ∃x,b=g x/\p x): ∃l:List α,af=l.map g/\ ∀x∈l,p x:=by
 induction af generalizing es with
 |nil=>simp
 |cons b af c=>
  cases es with
  |nil=>grind
  |cons a es=>
   obtain⟨l,rfl,k⟩:=c (by simpa using j) λi a b o k=>h (i+1) a b (by grind) (by grind)
   obtain⟨x,rfl,n⟩:=hg a b (h 0 a b rfl rfl).2;exact⟨x::l,rfl,λy m=>by grind⟩
def aAg{b:lA}{d:DataW H}(h:iH Tryz.prog (f+2) 22 d b): ∃ (pv:AV) (l:List lB),b=[pv]/\Rv pv 1 (l.map sC):=by
 unfold iH at h;rcases h with⟨_,rfl⟩| ⟨es,rest,af,_,rfl,c,_,h⟩
 ·exact⟨_,[],rfl,.au⟩
 ·obtain⟨l,rfl,_⟩:=aAf (α:=lB) (g:=sC) (p:=λ_=>True) c h (λa b h=>by
    unfold iH at h;obtain⟨s,_,rfl,_⟩:=h;exact⟨s.data.toList,rfl,trivial⟩)
  exact⟨_,l,rfl,.sl λel h=>by obtain⟨x,_,rfl⟩:=aeO.1 h;rfl⟩
def aAh(b:Value.okWide Tryz.prog W .any base 24 v)(h:DataW.Trod enc Tryz.prog W 0 sp held 24 v d ps):
  ∃ (aS:Int) (aF:List lB) (bh:lB) (pv:AV),an (Gh.start W) (.agg (fA aS pv bh)) v/\Ug aS aF bh pv:=by
 obtain⟨xs,g,a,l⟩:=apX (f:=8) Tryz.underlying24 (by rfl) b h;unfold iH at a;obtain⟨m,_,a⟩:=a;obtain⟨_,_,_,_,_,rfl,j,_,_,_,_,_,rfl,i,_,_,_,_,_,rfl,c,_,rfl⟩:=a;obtain⟨aS,rfl,k⟩:=aAd Tryz.underlying3 j wfi;obtain⟨pv,aF,rfl,e⟩:=aAg i;unfold iH at c;obtain⟨s,_,rfl,_⟩:=c;exact⟨aS,aF,s.data.toList,pv,g,⟨by omega,e⟩⟩
end
end
end Go.Proofs.YteplichagkpciaaGreatDoor
