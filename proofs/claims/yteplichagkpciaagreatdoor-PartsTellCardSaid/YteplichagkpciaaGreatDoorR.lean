/- Variables and arguments of the law. -/
import Derived.Test.YteplichagkpciaaGreatDoorM3
import Derived.Test.YteplichagkpciaaGreatDoorK3
import Derived.Test.YteplichagkpciaaGreatDoorD2
import Derived.Test.YteplichagkpciaaGreatDoorTie
import Derived.Test.YteplichagkpciaaGreatDoorCards
import Derived.ProofKit
import Derived.Lay
import Derived.LaidMore
import Derived.ChangeShapes
import Derived.SevenTiedAt
import Derived.Stop.Joined
set_option linter.all false
set_option maxRecDepth 10000
set_option maxHeartbeats 1000000
namespace Go.Proofs.YteplichagkpciaaGreatDoor
open Go Go.Den Go.RowKit Go.ChangeShapes Go.WideShapes Go.ChangeAt Go.Proofs.YteplichagkpciaaGreatDoor
variable{f:Nat}
section
set_option maxRecDepth 100000
def own:ownKnob Tryz.prog.godebug=none:=by kernel_rfl
theorem MY{α:Type}{k:Nat}{v:α}: ∀ {l:List (Nat×α)},l.lookup k=some v->(k,v)∈l
 | [],h=>by cases h
 | (a,b)::l,h=>by
   rw[List.lookup_cons]at h;split at h
   ·rename_i c;cases h;rw[asa.1 c];exact ahi
   ·exact afO _ (MY h)
noncomputable def aBv(a:lB):lN:=(List.range Tryz.prog.funcs.size).filter λf=>(Tryz.prog.funcs[f]?).any (·.name.toUTF8.data.toList==a)
def aBw:xK.all (λx=>aBv x.2.1==[x.2.2])=true:=by kernel_rfl
def aBx:xK.all (λx=>!x.2.1.isEmpty)=true:=by kernel_rfl
def aBy:xK.Pairwise λx y=>x.1≠y.1:=by decide
abbrev Laid(W:World):Prop:=laidMetH Tryz.prog Rows.partsTellRow.laid W
abbrev VB(W:World)(g:Nat)(es:List (AV×AV)):Prop:=g<W.heap.size/\ ∃a r ms clock,r<W.heap.size/\W.cell? ⟨g,0,none⟩=some (.map (some r))/\W.heap[r]?=some (.map ms clock)/\fR (G0 W.heap.size W) a ms.toList/\ ∀k v,eC k es=some v->eC k a=some v
def aBz{W:World}(h:Laid W):VB W vO (sT xK):=
 aqt (h.funcs ahi) rfl (by kernel_rfl) (t:=244) (by kernel_rfl) Tryz.underlying244 Tryz.underlying5 Tryz.underlying242
  (λx a=>by have:=afP.1 aBw x a;exact asa.1 this) (λx a e=>by have:=afP.1 aBx x a;rw[e]at this;cases this) aBy
def aBA{W:World}{g:Nat}{es:List (AV×AV)}(h:VB W g es):g<W.heap.size/\ ∃vs:List Value,(∀ (j:Nat) v,vs[j]?=some v->W.cell? ⟨g,j,none⟩=some v)/\Den.Leaves vs/\Den.aF (G0 W.heap.size W) [AV.mb g] vs:=by
 obtain⟨e,f,r,ms,clock,m,b,l,k,i⟩:=h;refine⟨e,[.map (some r)],λj v a=>?_,λv c=>by simp at c;subst c;rfl,aF.single.2 ⟨⟨r,rfl⟩,?_⟩⟩
 ·match j,a with
  |0,a=>cases a;exact b
 ·show(if g<W.heap.size then W.cell? ⟨g,0,none⟩else none)=_;rw[adY e];exact b
def amB{W:World}(h:Laid W): ∀g t,Cf.lookup g=some t->VB W g (sT t):=λg t hg=>by
 have hm:=MY hg;simp only[Cf,ag7,ap1,List.mem_nil_iff,or_false]at hm;obtain⟨rfl,rfl⟩:=hm;exact aBz h
def amC{W:World}(h:Laid W):fH X0 W.heap.size W:=by
 refine⟨λg cs hg=>?_,λg es hg=>?_⟩
 ·obtain⟨t,a,rfl⟩:=afF.1 (show(Cf.lookup g).map (λ_=>[AV.mb g])=some cs from hg);exact aBA (amB h g t a)
 ·obtain⟨t,a,rfl⟩:=afF.1 (show(Cf.lookup g).map sT=some es from hg);exact amB h g t a
def qR:pV Tryz.prog X0:=λf pf h=>by
 have a: (if kL.contains f then none else zT.lookup f)=some pf:=h;split at a
 ·cases a
 ·exact afx _ (MY a)
def db{pf:PF}(h:zT.lookup f=some pf):mm Tryz.prog f pf:=afx _ (MY h)
def VC:OQ Tryz.prog yc:=λg pr h=>by
 have a: (if g=308 then some xH else if g=115 then some xE else none)=some pr:=h;split at a
 ·rename_i e;cases a;subst e;exact⟨false,Tryz.f308,Tryz.func308,aqX⟩
 split at a
 ·rename_i e;cases a;subst e;exact⟨false,Tryz.f115,Tryz.func115,aqU⟩
 ·cases a
section
variable{B:Nat}{w:World}
def ft{g:Nat}{p q:lA->AS->Option aU}{R:Option (lA->AS->Option aU)}(b:gJ Tryz.prog B w g q)(a:R=some p->gJ Tryz.prog B w f p)(h: (if f=g then some q else R)=some p):gJ Tryz.prog B w f p:=by
 split at h
 ·rename_i e;cases h;subst e;exact b
 ·exact a h
abbrev vm(B:Nat)(w:World)(X:Ctx):Prop:= ∀f p,X.bW f=some p->gJ Tryz.prog B w f p
variable(hg:fH X0 B w)
include hg
theorem AI:gJ Tryz.prog B w 56 mQ:=xd hg qR (λf p h=>by cases h) (db (by kernel_rfl))
theorem aBB:vm B w X1:=λf p h=>ft (AI hg) (λh=>by cases h) h
theorem C6:gJ Tryz.prog B w 19 mR:=xd (X:=X1) hg qR (aBB hg) (db (by kernel_rfl))
theorem aBC:vm B w X2:=λf p h=>ft (AI hg) (ft (C6 hg) (λh=>by cases h)) h
theorem Hb:gJ Tryz.prog B w 193 qD:=xd (X:=X2) hg qR (aBC hg) (db (by kernel_rfl))
theorem aBD:vm B w X3:=λf p h=>ft (AI hg) (ft (C6 hg) (ft (Hb hg) (λh=>by cases h))) h
theorem MZ:gJ Tryz.prog B w 190 r8:=xd (X:=X3) hg qR (aBD hg) (db (by kernel_rfl))
theorem aBE:vm B w X4:=λf p h=>ft (AI hg) (ft (C6 hg) (ft (Hb hg) (ft (MZ hg) (λh=>by cases h)))) h
theorem VD:gJ Tryz.prog B w 188 xV:=xd (X:=X4) hg qR (aBE hg) (db (by kernel_rfl))
theorem aBF:vm B w X5:=λf p h=>ft (AI hg) (ft (C6 hg) (ft (Hb hg) (ft (MZ hg) (ft (VD hg) (λh=>by cases h))))) h
theorem amD:gJ Tryz.prog B w 182 Aj:=xd (X:=X5) hg qR (aBF hg) (db (by kernel_rfl))
theorem aBG:vm B w X6:=λf p h=>ft (AI hg) (ft (C6 hg) (ft (Hb hg) (ft (MZ hg) (ft (VD hg) (ft (amD hg) (λh=>by cases h)))))) h
theorem aBH:gJ Tryz.prog B w 167 Cx:=xd (X:=X6) hg qR (aBG hg) (db (by kernel_rfl))
theorem VE:vm B w X:=λf p h=>ft (AI hg) (ft (C6 hg) (ft (Hb hg) (ft (MZ hg) (ft (VD hg) (ft (amD hg) (ft (aBH hg) (λh=>by cases h))))))) h
theorem aBI:gJ Tryz.prog B w 307 CH:=OV (X:=X) hg qR (VE hg) VC Tryz.func307 aqW
theorem aBJ:gJ Tryz.prog B w 275 CI:=OV (X:=X) hg qR (VE hg) VC Tryz.func275 aqV
theorem amE:vm B w XA:=λf p h=>ft (aBI hg) (ft (aBJ hg) (VE hg f p)) h
theorem aBK:gJ Tryz.prog B w 91 Gn:=OV (X:=XA) hg qR (amE hg) VC Tryz.func91 aqT
theorem amF:vm B w XB:=λf p h=>ft (aBK hg) (amE hg f p) h
theorem aBL:gJ Tryz.prog B w 166 Gs:=xd (X:=XB) hg qR (amF hg) (db (by kernel_rfl))
theorem aBM:vm B w XC:=λf p h=>ft (aBL hg) (ft (aBu B w) (amF hg f p)) h
end
def aBN{W:World}(i:Laid W){f:FuncId}{fn:Func}(c:Tryz.prog.funcs[f]?=some fn)(l:fn.body.isSome=true)(b: (fn.name== "runtime.NumGoroutine")=false)
  {args:lA} {a:Array Value} (k:aF (Gh.start W) args a.toList) (h: ∃E,D XC (.fn (.func f) [] []) args ⟨[],none⟩=some (.ret (.bool true) E)):
  Calls Tryz.prog f a W λe w'=>e= .returned (.bool true)/\Below W.heap.size W w':=by
 obtain⟨E,h⟩:=h;refine(aoY (X:=XC) (amC i) qR (aBM (amC i)) c l b k h).mono ?_;rintro e w' ⟨G,v',rfl,j,g⟩;obtain rfl:v'= .bool true:=j;exact⟨rfl,g⟩
def aBO(os:Os)(args:Array Value):Laid ((World.doorLaid Tryz.prog 600 os).forCall (λ_ _=>0) ⟨#[],args,[]⟩).memory:=
 laidMetH_of_parts3 (fuel:=8) (laidMet_of_run' 8 (by kernel_rfl) (by kernel_rfl)) (by kernel_rfl) (by kernel_rfl)
section
variable{H:Type}{enc:TypeId×Value->H}{W:World}{sp:Nat->Bool}{held:Bool}{base:Nat}{v:Value}{d:DataW H}{ps:List MemPlace}
def aBP{t:Nat}{k:IntKind}{b:lA}{lo a:Int}(c:Tryz.prog.underlying t=some (.int k))(h:im Tryz.prog (f+1) t d b)(e: ∀n,(Lit.int k n).wf=true->lo<=n/\n<=a): ∃n:Int,b=[.int k n]/\lo<=n/\n<=a:=by
 unfold im at h;rw[c]at h;obtain⟨n,_,rfl,hw⟩:=h;exact⟨n,rfl,e n hw⟩
def wfi(n:Int)(h: (Lit.int .i64 n).wf=true): -9223372036854775808<=n/\n<=9223372036854775807:=by simpa[Lit.wf,IntKind.min,IntKind.max,IntKind.signed,IntKind.bits]using h
def aBR{α:Type}{e sz:Nat}{g:α->lA}{p:α->Prop}{es:List (DataW H)}{af:List lA}(k:es.length=af.length)(h: ∀ (i:Nat) (a:DataW H) (b:lA),es[i]?=some a->af[i]?=some b->b.length=sz/\im Tryz.prog f e a b)
  (hg: ∀ (a:DataW H) b,im Tryz.prog f e a b-> ∃x,b=g x/\p x): ∃l:List α,af=l.map g/\ ∀x∈l,p x:=by
 induction af generalizing es with
 |nil=>exact⟨[],rfl,λx h=>by cases h⟩
 |cons b af m=>
  cases es with
  |nil=>cases k
  |cons a es=>
   obtain⟨l,rfl,j⟩:=m (by simpa using k) λi a b o j=>h (i+1) a b (by simpa using o) (by simpa using j)
   obtain⟨x,rfl,n⟩:=hg a b (h 0 a b rfl rfl).2;exact⟨x::l,rfl,λy c=>by
    rcases ag7.1 c with rfl|c
    ·exact n
    ·exact j y c⟩
def aBS{b:lA}{d:DataW H}(h:im Tryz.prog (f+2) 22 d b): ∃ (pv:AV) (l:List lB),b=[pv]/\Rv pv 1 (l.map sC):=by
 unfold im at h;rw[Tryz.underlying22]at h;rcases h with⟨_,rfl⟩| ⟨es,rest,af,_,rfl,c,_,h⟩
 ·exact⟨_,[],rfl,.aq⟩
 ·obtain⟨l,rfl,_⟩:=aBR (α:=lB) (g:=sC) (p:=λ_=>True) c h (λa b h=>by
    unfold im at h;rw[Tryz.underlying9]at h;obtain⟨s,_,rfl,_⟩:=h;exact⟨s.data.toList,rfl,trivial⟩)
  exact⟨_,l,rfl,.sl λel h=>by obtain⟨x,_,rfl⟩:=afH.1 h;rfl⟩
def aBT(b:Value.okWide Tryz.prog W .any base 24 v)(h:DataW.Trod enc Tryz.prog W 0 sp held 24 v d ps):
  ∃ (aI:Int) (aD:List lB) (bb:lB) (pv:AV),an (Gh.start W) (.agg (eA aI pv bb)) v/\MH aI aD bb pv:=by
 obtain⟨xs,g,a,l⟩:=aqR (f:=8) Tryz.underlying24 (by kernel_rfl) b h;unfold im at a;rw[Tryz.underlying24]at a;obtain⟨m,_,a⟩:=a;obtain⟨_,_,_,_,_,rfl,j,_,_,_,_,_,rfl,i,_,_,_,_,_,rfl,c,_,rfl⟩:=a;obtain⟨aI,rfl,k⟩:=aBP Tryz.underlying3 j wfi;obtain⟨pv,aD,rfl,e⟩:=aBS i;unfold im at c;rw[Tryz.underlying9]at c;obtain⟨s,_,rfl,_⟩:=c;exact⟨aI,aD,s.data.toList,pv,g,⟨by omega,e⟩⟩
end
end
end Go.Proofs.YteplichagkpciaaGreatDoor
