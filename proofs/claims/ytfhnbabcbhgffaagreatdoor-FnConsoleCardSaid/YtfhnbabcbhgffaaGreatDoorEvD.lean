import Derived.Test.YtfhnbabcbhgffaaGreatDoorEvC
import Derived.Test.YtfhnbabcbhgffaaGreatDoorEvB
import Derived.ChangeArms
import Derived.ChangeShapes
import Derived.ChangeOld
import Derived.WideShapes
import Derived.Carry
set_option linter.unusedVariables false
set_option linter.unusedSimpArgs false
set_option linter.defProp false
namespace Go.Proofs.YtfhnbabcbhgffaaGreatDoor.Am
open Go
mutual
def Ud(m:Nat):AV→Prop
 |.sl j=>j<m
 |.ptr j _ _=>j<m
 |.agg cs=>N6 m cs
 |.tup cs=>N6 m cs
 |.clo _ cs=>N6 m cs
 |_=>True
def N6(m:Nat):List AV→Prop
 |[]=>True
 |c::cs=>Ud m c∧N6 m cs
end
section
variable{w:World}{O O':Nat→Prop}{E E':EI}
mutual
theorem vk:∀(a:AV) {v:Value} {nb:List Nat},XR w O E a v nb→Ud E.sz a
 |.sl j,v,nb,h=>by simp only[XR]at h;simp only[Ud];exact h.2.1
 |.ptr j i o,v,nb,h=>by simp only[XR]at h;simp only[Ud];exact h.2.1
 |.agg cs,v,nb,h=>by simp only[XR]at h;obtain⟨vs,_,h⟩:=h;simp only[Ud];exact cO cs h
 |.tup cs,v,nb,h=>by simp only[XR]at h;obtain⟨vs,_,h⟩:=h;simp only[Ud];exact cO cs h
 |.clo g cs,v,nb,h=>by simp only[XR]at h;obtain⟨_,vs,_,h⟩:=h;simp only[Ud];exact cO cs h
 |.u,v,nb,h=>by simp[Ud]
 |.b _,v,nb,h=>by simp[Ud]
 |.i _ _,v,nb,h=>by simp[Ud]
 |.s _,v,nb,h=>by simp[Ud]
 |.nil,v,nb,h=>by simp[Ud]
 |.z,v,nb,h=>by simp[Ud]
 |.imm _ _,v,nb,h=>by simp[Ud]
 |.own _ _,v,nb,h=>by simp[Ud]
 |.iptr _ _ _ _,v,nb,h=>by simp[Ud]
theorem cO:∀(cs:List AV) {vs:List Value} {nb:List Nat},XRs w O E cs vs nb→N6 E.sz cs
 |[],vs,nb,h=>by simp[N6]
 |c::cs,vs,nb,h=>by
  simp only[XRs]at h;obtain⟨v,vs',n1,n2,_,_,h1,h2⟩:=h;simp only[N6];exact⟨vk c h1,cO cs h2⟩
end
def Qbo:∀(cs:List AV) {bl o:Nat} {nb:List Nat},CR w O E bl o cs nb→N6 E.sz cs
 |[],bl,o,nb,h=>by simp[N6]
 |c::cs,bl,o,nb,h=>by
  simp only[CR]at h;obtain⟨v,n1,n2,_,_,h1,h2⟩:=h;simp only[N6];exact⟨vk c h1,Qbo cs h2⟩
mutual
theorem jK(hO:∀b,O' b→O b)(hE:∀j p,E'.of j=some p→E.of j=some p):∀(a:AV) {v:Value} {nb:List Nat},Ud E'.sz a→XR w O E a v nb→XR w O' E' a v nb
 |.sl j,v,nb,hw,h=>by
  simp only[XR]at h ⊢;simp only[Ud]at hw;exact⟨h.1,hw,λn len he=>h.2.2.1 n len (hE _ _ he),λbl n len he=>h.2.2.2 bl n len (hE _ _ he)⟩
 |.ptr j i o,v,nb,hw,h=>by
  simp only[XR]at h ⊢;simp only[Ud]at hw;exact⟨h.1,hw,λn len he=>h.2.2.1 n len (hE _ _ he),λbl n len he=>h.2.2.2 bl n len (hE _ _ he)⟩
 |.agg cs,v,nb,hw,h=>by
  simp only[XR]at h ⊢;simp only[Ud]at hw;obtain⟨vs,h1,h2⟩:=h;exact⟨vs,h1,UE hO hE cs hw h2⟩
 |.tup cs,v,nb,hw,h=>by
  simp only[XR]at h ⊢;simp only[Ud]at hw;obtain⟨vs,h1,h2⟩:=h;exact⟨vs,h1,UE hO hE cs hw h2⟩
 |.clo g cs,v,nb,hw,h=>by
  simp only[XR]at h ⊢;simp only[Ud]at hw;obtain⟨h0,vs,h1,h2⟩:=h;exact⟨h0,vs,h1,UE hO hE cs hw h2⟩
 |.u,v,nb,hw,h=>by simpa only[XR]using h
 |.b _,v,nb,hw,h=>by simpa only[XR]using h
 |.i _ _,v,nb,hw,h=>by simpa only[XR]using h
 |.s _,v,nb,hw,h=>by simpa only[XR]using h
 |.nil,v,nb,hw,h=>by simpa only[XR]using h
 |.z,v,nb,hw,h=>by simpa only[XR]using h
 |.imm n rows,v,nb,hw,h=>by
  have h1:XR w O EN (.imm n rows) v nb:=by simpa only[XR]using h
  have:=XR.mono _ (Same.weak hO) v nb (λ_ _=>rfl) h1
  simpa only[XR]using this
 |.own n rows,v,nb,hw,h=>by
  have h1:XR w O EN (.own n rows) v nb:=by simpa only[XR]using h
  have:=XR.mono _ (Same.weak hO) v nb (λ_ _=>rfl) h1
  simpa only[XR]using this
 |.iptr n rows i o,v,nb,hw,h=>by
  have h1:XR w O EN (.iptr n rows i o) v nb:=by simpa only[XR]using h
  have:=XR.mono _ (Same.weak hO) v nb (λ_ _=>rfl) h1
  simpa only[XR]using this
theorem UE(hO:∀b,O' b→O b)(hE:∀j p,E'.of j=some p→E.of j=some p):∀(cs:List AV) {vs:List Value} {nb:List Nat},N6 E'.sz cs→XRs w O E cs vs nb→XRs w O' E' cs vs nb
 |[],vs,nb,hw,h=>by simpa only[XRs]using h
 |c::cs,vs,nb,hw,h=>by
  simp only[XRs]at h ⊢;simp only[N6]at hw;obtain⟨v,vs',n1,n2,h1,h2,h3,h4⟩:=h;exact⟨v,vs',n1,n2,h1,h2,jK hO hE c hw.1 h3,UE hO hE cs hw.2 h4⟩
end
def uo(hO:∀b,O' b→O b)(hE:∀j p,E'.of j=some p→E.of j=some p):∀(cs:List AV) {bl o:Nat} {nb:List Nat},N6 E'.sz cs→CR w O E bl o cs nb→CR w O' E' bl o cs nb
 |[],bl,o,nb,hw,h=>by simpa only[CR]using h
 |c::cs,bl,o,nb,hw,h=>by
  simp only[CR]at h ⊢;simp only[N6]at hw;obtain⟨v,n1,n2,h1,h2,h3,h4⟩:=h;exact⟨v,n1,n2,h1,h2,jK hO hE c hw.1 h3,uo hO hE cs hw.2 h4⟩
end
section
variable{P:Program}{n:NE}{Y:Nat→Prop}{w0:World}{F0:Nat→Prop}{ρ:Dl}{f:Fr}{K:KS}{a:Act}{w:World}
def Sim.cut[Wd]{K':KS}{f' g:Fr}(hS:Sim n Y w0 F0 ρ f' K' a w)(h1:Keeps K K')(h3:n.E.sz≤K.length)(h4:∀t,g t=.u∨(g t=f' t∧Ud K.length (g t)))
  (h5:∀j cs,kg K j=some (.box cs)→N6 K.length cs):Sim n Y w0 F0 ρ g K a w:=by
 have hO:∀b,OO K ρ Y b→OO K' ρ Y b:=by
  rintro b (h|⟨j,e,hj,hb⟩)
  ·exact .inl h
  ·exact .inr ⟨j,e,h1 j e hj,hb⟩
 have hE:∀j p,(EK K ρ).of j=some p→(EK K' ρ).of j=some p:=λj p hp=>by
  simp only[EK]at hp ⊢;obtain⟨e,he,hp⟩:=Option.map_eq_some_iff.1 hp;rw[h1 j e he,←hp];rfl
 refine⟨hS.defers,hS.size,⟨h3,λj p hj hp=>hS.keep.2 j p hj (hE j p hp)⟩,λt=>?_,⟨λj e hj=>?_,λj e hj=>hS.sees.nd j e (h1 j e hj),λj e b hj=>hS.sees.lt j e b (h1 j e hj),λj e k e' b hj hk=>hS.sees.dj j e k e' b (h1 j e hj) (h1 k e' hk)⟩,
  hS.ext,λj e b hj=>hS.new j e b (h1 j e hj),hS.yl⟩
 ·rcases h4 t with h|⟨h,hw⟩
  ·rw[h];simp[XR]
  ·have:=hS.fr t
   rw[←h]at this;exact jK hO hE _ hw this
 ·have hr:=hS.sees.reg j e (h1 j e hj)
  cases hb:(ρ j).1 with
  |none=>rw[hb]at hr;exact hr
  |some b =>
   rw[hb]at hr;refine⟨hr.1,?_,hr.2.2⟩;cases e with
   |box cs =>
    have hw:=h5 j cs hj;have:=hr.2.1;simp only[QE.E,QE.rows,QE.n,RR]at this ⊢;obtain⟨n1,n2,q1,q2,q3,q4⟩:=this;exact⟨n1,n2,q1,q2,uo hO hE cs hw q3,q4⟩
   |lst m rows=>exact RR.mono rows (Same.weak hO) _ _ _ rfl (λ_ _=>rfl) hr.2.1
def Sim.wf[Wd](hS:Sim n Y w0 F0 ρ f K a w)(t:Nat):Ud K.length (f t):=vk _ (hS.fr t)
def Sim.wfK[Wd](hS:Sim n Y w0 F0 ρ f K a w)(j:Nat)(cs:List AV)(h:kg K j=some (.box cs)):N6 K.length cs:=by
 have hr:=hS.sees.reg j _ h;cases hb:(ρ j).1 with
 |none=>rw[hb]at hr;have:=hr.1;simp[QE.rows]at this
 |some b =>
  rw[hb]at hr;have:=hr.2.1;simp only[QE.E,QE.rows,QE.n,RR]at this;obtain⟨n1,n2,q1,q2,q3,q4⟩:=this;exact Qbo cs q3
def qm(ds:Nat→Bool)(o:Oper):Bool:=(Gm o.op||S3 o.op)&&match o.dst with|some d=>ds d|none=>true
def SF[Wd]{ds:Nat→Bool}{ops:Array Oper}:∀(l:List Oper) {f:Fr} {K:KS} {k:Fr→KS→Prop},l.all (qm ds)=true→LN P ops l f K k→LN P ops l f K (λf' K'=>k f' K'∧(∀t,ds t=false→f' t=f t)∧Keeps K K')
 |[],f,K,k,_,h=>⟨h,λ_ _=>rfl,Keeps.refl K⟩
 |o::l,f,K,k,hc,h=>by
  simp only[List.all_cons,Bool.and_eq_true]at hc;obtain⟨hc,hl⟩:=hc;simp only[qm,Bool.and_eq_true,Bool.or_eq_true]at hc;obtain⟨hc,hd⟩:=hc;have hcalm:Yf P o.op=true:=by simp only[Yf,Bool.or_eq_true];exact .inl (hc.imp id λh=>by simp[RS,h])
  have hst:NZ P o.op=false:=by
   cases hs:NZ P o.op with
   |false=>rfl
   |true=>exfalso;cases ho:o.op<;>rw[ho]at hs hc<;>first|(cases hs;done)|(rcases hc with hc|hc<;>cases hc)
  have hut:∀v t,ds t=false→AU f o.dst v t=f t:=λv t ht=>by
   unfold AU;cases hq:o.dst with
   |none=>rfl
   |some d =>
    simp only[hq]at hd;have:t≠d:=λh=>by subst h;rw[ht]at hd;cases hd
    simp[up,this]
  unfold LN at h ⊢;have h1:=Dz.1 h;refine Dz.2 ?_;cases hg:gd ops o f with
  |none=>rw[hg]at h1;exact h1.elim
  |some b =>
   rw[hg]at h1;cases b with
   |false=>exact SB (SF l hl h1) λf' K' ⟨q1,q2,q3⟩=>⟨q1,λt ht=>(q2 t ht).trans (hut _ t ht),q3⟩
   |true =>
    refine Yy hcalm h1 λv K' hr hk=>SB (SF l hl hk) λf' K'' ⟨q1,q2,q3⟩=>⟨q1,λt ht=>(q2 t ht).trans (hut _ t ht),?_⟩
    have hK:Keeps K K':=by
     rcases hr with⟨_,rfl⟩|⟨_,hr⟩|⟨hr,_⟩
     ·exact Keeps.refl _
     ·exact hr
     ·rw[hst]at hr;cases hr
    exact λj e hj=>q3 j e (hK j e hj)
def mf(f:Fr)(π:List Nat):∀l,frl f π l=l.map λt=>(t,Am.ren π (f t))
 |[]=>rfl
 |t::l=>by simp[frl,mf f π l]
def gB{w:World}{O:Nat→Prop}{E:EI}{c':AV}:∀{cs:List AV} {vs:List Value} {o:Nat} {c:AV},cs[o]?=some c→XRs w O E cs vs []→(∀v,XR w O E c v []→XR w O E c' v [])→XRs w O E (cs.set o c') vs []
 |[],_,_,_,h,_,_=>by simp at h
 |x::cs,vs,0,c,h,hx,hc=>by
  simp only[List.getElem?_cons_zero,Option.some.injEq]at h;subst h;simp only[XRs]at hx;obtain⟨v,vs',n1,n2,h1,h2,h3,h4⟩:=hx;obtain⟨rfl,rfl⟩:=List.append_eq_nil_iff.1 h2.symm;simp only[List.set_cons_zero,XRs];exact⟨v,vs',[],[],h1,rfl,hc v h3,h4⟩
 |x::cs,vs,o+1,c,h,hx,hc=>by
  simp only[List.getElem?_cons_succ]at h;simp only[XRs]at hx;obtain⟨v,vs',n1,n2,h1,h2,h3,h4⟩:=hx;obtain⟨rfl,rfl⟩:=List.append_eq_nil_iff.1 h2.symm;simp only[List.set_cons_succ,XRs];exact⟨v,vs',[],[],h1,rfl,h3,gB h h4 hc⟩
def Wk.nilg[Wd]{z:Nat}{f:Fr}{K:KS}{cs:List AV}{o:Nat}(t m:Nat)(ht:f t=.agg cs)(hc:cs[o]?=some .nil):Wk z f K (up f t (.agg (cs.set o (.sl K.length)))) (K++[some (.lst m [])]):=λn Y w0 F0 ρ a w hz hS=>by
 obtain⟨ρ',s1,s2⟩:=hS.addNil (K1:=K) rfl (λ_ _ h=>h) m
 refine⟨ρ',s1.defers,s1.size,s1.keep,λs=>?_,s1.sees,s1.ext,s1.new,s1.yl⟩
 unfold up
 split
 ·rename_i h
  subst h;have:=s1.fr s;rw[ht]at this;simp only[XR]at this ⊢;obtain⟨vs,h1,h2⟩:=this;refine⟨vs,h1,gB hc h2 λv hv=>?_⟩
  simp only[XR]at hv;obtain⟨⟨q,hq⟩,_⟩:=hv;rw[hq];exact s2 _ q
 ·exact s1.fr s
def El[Wd]{β:Type}{r:β}{z:Nat}:∀(l:List Pt) {f:Fr} {K:KS} {π:List Nat} {k:Fr→KS→List Nat→Option β} {lk},XN l f K π k lk=some r→∃f' K' π',Wk z f K f' K'∧k f' K' π'=some r
 |[],f,K,π,k,_,h=>⟨f,K,π,Wk.refl z f K,h⟩
 |.r i::l,f,K,π,k,_,h=>El l (show XN l f K (π++[i]) k ()=some r from h)
 |.s t n::l,f,K,π,k,_,h=>by
  unfold XN at h
  split at h
  ·exact El l h
  ·exact El l h
  ·rename_i ht
   obtain⟨f',K',π',h1,h2⟩:=El l h;exact⟨f',K',π',(Wk.nil t n ht).trans h1,h2⟩
  ·cases h
 |.c q o n::l,f,K,π,k,_,h=>by
  unfold XN at h
  split at h
  ·split at h
   ·rename_i cs hj
    split at h
    ·exact El l h
    ·exact El l h
    ·rename_i hc
     obtain⟨f',K',π',h1,h2⟩:=El l h;exact⟨f',K',π',(Wk.nilc n hj hc).trans h1,h2⟩
    ·cases h
   ·cases h
  ·cases h
 |.g t o n::l,f,K,π,k,_,h=>by
  unfold XN at h
  split at h
  ·rename_i cs ht
   split at h
   ·exact El l h
   ·rename_i hc
    obtain⟨f',K',π',h1,h2⟩:=El l h;exact⟨f',K',π',(Wk.nilg t n ht hc).trans h1,h2⟩
   ·cases h
  ·cases h
def eX:∀{z π:List Nat},xy z π=true→π.take z.length=z
 |[],π,_=>by simp
 |x::z,[],h=>by cases h
 |x::z,y::π,h=>by
  simp only[xy,Bool.and_eq_true]at h;rw[List.length_cons,List.take_succ_cons,eX h.2,Nat.eq_of_beq_eq_true h.1]
def ND[Wd]{β:Type}{r:β}{z sl:List Nat}{rg:List Pt}{f:Fr}{K:KS}{k:Fr→KS→Option β}{lk}(hz:z=List.range z.length)(h:Kj z sl rg f K k lk=some r):∃f' K',Wk z.length f K f' K'∧k f' K'=some r:=by
 unfold Kj at h;obtain⟨f1,K1,π,h1,h2⟩:=El (z:=z.length) rg h;obtain⟨h3,h4⟩:=Xo h2;have h5:xy z π=true∧JZ (wH K1 π) (λK'=>k (zd f1 π sl) K') ()=some r:=by
  unfold onz at h4
  split at h4
  ·exact⟨by cases π<;>rfl,h4⟩
  ·exact Xo h4
 refine⟨_,_,h1.trans (Wk.ren π sl (Lg h3) (by rw[eX h5.1];exact hz)),?_⟩
 rw[←mf];exact h5.2
def Yg[Wd](hS:Sim n Y w0 F0 ρ f K a w):∀{rs:List ResultVar} {xs:List AV},Gt f K P rs=some xs →
  ∃vs:List Value,(rs.mapM (YL a.tmps)).run P w=.ok vs w∧XRs w (OO K ρ Y) (EK K ρ) xs vs []∧vs.length=rs.length
 |[],xs,h=>by
  simp[Gt]at h;subst h;exact⟨[],by simp,by simp[XRs],rfl⟩
 |.tmp t::rs,xs,h=>by
  simp only[Gt]at h;obtain⟨ys,h1,rfl⟩:=Option.map_eq_some_iff.1 h;obtain⟨vs,h2,h3,h4⟩:=Yg hS h1;refine⟨a.tmps.getD t undef::vs,by simp[List.mapM_cons,YL,h2],?_,by simp[h4]⟩
  simp only[XRs];exact⟨_,_,[],[],rfl,rfl,hS.fr t,h3⟩
 |.cell x t::rs,xs,h=>by
  simp only[Gt]at h;obtain⟨v,h0,h⟩:=Option.bind_eq_some_iff.1 h;obtain⟨ys,h1,rfl⟩:=Option.map_eq_some_iff.1 h;obtain⟨vs,h2,h3,h4⟩:=Yg hS h1;obtain⟨y,av,g1,g2,g3⟩:=fL (P:=P) hS (YA h0) (hS.fr x);injection g3 with g3;subst g3
  have hrun:(YL a.tmps (.cell x t)).run P w=.ok y w:=by
   generalize hv:a.tmps.getD x undef=z at g1;simp only[YL,hv];cases z<;>simp[Instr.loadAt,Instr.sureAddr,asAddr]at g1 ⊢;rename_i ad;cases ad<;>simp[Instr.loadAt,Instr.sureAddr,asAddr]at g1 ⊢;exact g1
  refine⟨y::vs,by simp[List.mapM_cons,hrun,h2],?_,by simp[h4]⟩
  simp only[XRs];exact⟨_,_,[],[],rfl,rfl,g2,h3⟩
def UQ[Wd](hS:Sim n Y w0 F0 ρ f K a w){fn:Func}{xs:List AV}(h:Gt f K P fn.results.toList=some xs) :
  ∃v,(results fn a.tmps).run P w=.ok v w∧XR w (OO K ρ Y) (EK K ρ) (LF xs) v []:=by
 obtain⟨vs,h2,h3,h4⟩:=Yg (P:=P) hS h;rw[YM,Array.mapM_eq_mapM_toList];have hl:=XP h3
 match xs,vs,h3 with
 |[x],[v],h3 =>
  simp only[XRs]at h3;obtain⟨v',vs',n1,n2,q1,q2,q3,q4,_⟩:=h3;obtain⟨rfl,rfl⟩:=List.append_eq_nil_iff.1 q2.symm;injection q1 with q1;subst q1
  exact⟨v,by simp[h2],q3⟩
 |[],[],h3=>exact⟨.tuple #[],by simp[h2],by simp only[LF,XR];exact⟨_,rfl,by simp[XRs]⟩⟩
 |x::y::xs,v::u::vs,h3=>exact⟨.tuple (v::u::vs).toArray,by simp[h2],by simp only[LF,XR];exact⟨_,rfl,h3⟩⟩
 |[],v::vs,h3=>simp at hl
 |[x],[],h3=>simp at hl
 |[x],v::u::vs,h3=>simp at hl
 |x::y::xs,[],h3=>simp at hl
 |x::y::xs,[v],h3=>simp at hl
end
end Go.Proofs.YtfhnbabcbhgffaaGreatDoor.Am
namespace Go.Proofs.YtfhnbabcbhgffaaGreatDoor.Am
open Go
def inJ(s lo hi:Nat)(t:Nat):Bool:=t==s||(Nat.ble lo t&&Nat.blt t hi)
def jOK(a:Ann)(id:Nat)(l:List Oper):Bool:=match lk a.jn id with
 |none=>true
 |some (s,lo,hi)=>l.all (qm (inJ s lo hi))
def fG(ops:Array Oper):Option (List Nat)→List Nat
 |none=>List.range ops.size
 |some is=>is
def dOK(P:Program)(a:Ann)(id:Nat)(ops:Array Oper):Bool:=match lk a.ot id with
 |some t=>I0 P ops t false (Array.replicate ops.size false)&&Nat.ble t.depth ops.size
 |none=>Y5 P ops (fG ops (lk a.ord id)) (Array.replicate ops.size false)&&Nat.ble (fG ops (lk a.ord id)).length ops.size&&jOK a id (fJ ops (lk a.ord id))
def aC(P:Program)(m:Nat)(a:Ann):Code→Bool
 |.region id ops draw=>ops.toList.all (Ba m)&&(match lk a.av id with
  |some vs=>!draw||(match lk a.ot id with
   |some t=>am vs P ops t false (Array.replicate ops.size false)&&Nat.ble t.depth ops.size
   |none=>oh vs P ops (fG ops (lk a.ord id)) (Array.replicate ops.size false)&&Nat.ble (fG ops (lk a.ord id)).length ops.size)
  |none=>match draw with
   |false=>jOK a id ops.toList
   |true=>match lk a.eb id with
    |none=>dOK P a id ops
    |some ds=>pU P ops ds&&dOK P a id (ops.map (ZS ds)))
 |.seq x y=>aC P m a x&&aC P m a y
 |.cond _ x y=>aC P m a x&&aC P m a y
 |.block _ c=>aC P m a c
 |.loop c=>aC P m a c
 |_=>true
def VU:Code→List Code
 |.seq x y=>VU x++VU y
 |.cond _ x y=>VU x++VU y
 |.block _ c=>VU c
 |.loop c=>c::VU c
 |_=>[]
def fOK(P:Program)(g:FuncId)(a:Ann):Bool:=match P.funcs[g]? with
 |some fn=>(fn.name != "runtime.NumGoroutine")&&match fn.body with
  |some c=>aC P fn.ntmps a c&&(pl ((VU c).map Ma)&&decide (a.ak=List.range a.ak.length))
  |none=>false
 |none=>false
def Tld.ok(T:Tld):Bool:=T.ann.all λp=>fOK T.P p.1 p.2
def dN:∀{c c':Code} {t:Nat},VW t c=some c'→c'∈VU c∧Ma c'=t:=by
 intro c
 induction c with
 |seq x y ihx ihy =>
  intro c' t h;simp only[VW]at h;cases hx:VW t x with
  |some z=>rw[hx]at h;simp at h;subst h;exact⟨by simp only[VU];exact List.mem_append_left _ (ihx hx).1,(ihx hx).2⟩
  |none=>rw[hx]at h;simp at h;exact⟨by simp only[VU];exact List.mem_append_right _ (ihy h).1,(ihy h).2⟩
 |cond _ x y ihx ihy =>
  intro c' t h;simp only[VW]at h;cases hx:VW t x with
  |some z=>rw[hx]at h;simp at h;subst h;exact⟨by simp only[VU];exact List.mem_append_left _ (ihx hx).1,(ihx hx).2⟩
  |none=>rw[hx]at h;simp at h;exact⟨by simp only[VU];exact List.mem_append_right _ (ihy h).1,(ihy h).2⟩
 |block _ c ih=>intro c' t h;exact ih h
 |loop c ih =>
  intro c' t h;simp only[VW]at h;cases ht:(Ma c==t)with
  |true=>rw[ht]at h;simp at h;subst h;exact⟨by simp[VU],by simpa using ht⟩
  |false=>rw[ht]at h;simp at h;exact⟨by simp only[VU];exact List.mem_cons_of_mem _ (ih h).1,(ih h).2⟩
 |_=>intro c' t h;simp[VW]at h
def T6:∀{c:Code},((VU c).map Ma).Nodup→∀{c':Code},c'∈VU c→VW (Ma c') c=some c':=by
 intro c;have app:∀{x y:Code},(∀{c':Code},((VU x).map Ma).Nodup→c'∈VU x→VW (Ma c') x=some c')→(∀{c':Code},((VU y).map Ma).Nodup→c'∈VU y→VW (Ma c') y=some c') →
   (((VU x++VU y)).map Ma).Nodup→∀{c':Code},c'∈VU x++VU y→(VW (Ma c') x).or (VW (Ma c') y)=some c':=by
  intro x y ihx ihy hn c' hm;rw[List.map_append,List.nodup_append]at hn
  rcases List.mem_append.1 hm with hm|hm
  ·rw[ihx hn.1 hm];rfl
  ·cases hx:VW (Ma c') x with
   |none=>simpa using ihy hn.2.1 hm
   |some z =>
    obtain⟨h1,h2⟩:=dN hx;exact absurd rfl (hn.2.2 (Ma c') (h2▸List.mem_map_of_mem h1) (Ma c') (List.mem_map_of_mem hm))
 induction c with
 |seq x y ihx ihy=>intro hn c' hm;exact app (λh m=>ihx h m) (λh m=>ihy h m) hn hm
 |cond _ x y ihx ihy=>intro hn c' hm;exact app (λh m=>ihx h m) (λh m=>ihy h m) hn hm
 |block _ c ih=>intro hn c' hm;exact ih hn hm
 |loop c ih =>
  intro hn c' hm;simp only[VU,List.map_cons,List.nodup_cons]at hn hm;simp only[VW]
  rcases List.mem_cons.1 hm with rfl|hm
  ·simp
  ·have hne:(Ma c==Ma c')=false:=by
    rw[Bool.eq_false_iff];intro h;exact hn.1 (by rw[beq_iff_eq.1 h];exact List.mem_map_of_mem hm)
   rw[hne];exact ih hn.2 hm
 |_=>intro hn c' hm;simp[VU]at hm
def rE{P:Program}{m:Nat}{a:Ann}:∀(c:Code),aC P m a c=true→∀{c':Code},c'∈VU c→aC P m a c'=true:=by
 intro c
 induction c with
 |seq x y ihx ihy =>
  intro h c' hm;simp only[aC,Bool.and_eq_true]at h
  rcases List.mem_append.1 hm with hm|hm
  ·exact ihx h.1 hm
  ·exact ihy h.2 hm
 |cond _ x y ihx ihy =>
  intro h c' hm;simp only[aC,Bool.and_eq_true]at h
  rcases List.mem_append.1 hm with hm|hm
  ·exact ihx h.1 hm
  ·exact ihy h.2 hm
 |block _ c ih=>intro h c' hm;exact ih h hm
 |loop c ih =>
  intro h c' hm
  rcases List.mem_cons.1 hm with rfl|hm
  ·exact h
  ·exact ih h hm
 |_=>intro h c' hm;simp[VU]at hm
def aV:∀(c:Code) {c1 c2:Code},c1∈VU c→c2∈VU c1→c2∈VU c:=by
 intro c
 induction c with
 |seq x y ihx ihy =>
  intro c1 c2 h1 h2
  rcases List.mem_append.1 h1 with h1|h1
  ·exact List.mem_append_left _ (ihx h1 h2)
  ·exact List.mem_append_right _ (ihy h1 h2)
 |cond _ x y ihx ihy =>
  intro c1 c2 h1 h2
  rcases List.mem_append.1 h1 with h1|h1
  ·exact List.mem_append_left _ (ihx h1 h2)
  ·exact List.mem_append_right _ (ihy h1 h2)
 |block _ c ih=>intro c1 c2 h1 h2;exact ih h1 h2
 |loop c ih =>
  intro c1 c2 h1 h2
  rcases List.mem_cons.1 h1 with rfl|h1
  ·exact List.mem_cons_of_mem _ h2
  ·exact List.mem_cons_of_mem _ (ih h1 h2)
 |_=>intro c1 c2 h1 h2;simp[VU]at h1
section
variable{P:Program}{n:NE}{Y:Nat→Prop}{w0:World}{F0:Nat→Prop}
def QN[Wd](n:NE)(Y:Nat→Prop)(w0:World)(F0:Nat→Prop)(R:Fr→KS→Prop):Exit→Act→World→Prop
 |.normal,a,w=>Ys n Y w0 F0 R a w
 |_,_,_=>False
def iW[Wd]{ρ:Dl}{f:Fr}{K:KS}{a:Act}{w:World}{R:Fr→KS→Prop}{id:Nat}{ops:Array Oper}{us:List Nat}(hc:ops.toList.all (Ba n.n)=true)(hS:Sim n Y w0 F0 ρ f K a w)(h:OL P ops us ops.toList f K R) :
  (Code.region id ops false).wp P (QN n Y w0 F0 R) a w :=
 wp_region (fF (λa w h=>h) _ _ _ (by
    apply List.ext_getElem?;intro i;simp only[List.getElem?_map]
    rcases Nat.lt_or_ge i ops.size with h'|h'
    ·simp[h']
    ·simp[h']) hc _ _ _ _ _ hS h)
def pf[Wd]{ρ:Dl}{f:Fr}{K:KS}{a:Act}{w:World}{R:Fr→KS→Prop}{id:Nat}{ops:Array Oper}(hc:ops.toList.all (Ba n.n)=true)(hS:Sim n Y w0 F0 ρ f K a w)(h:LN P ops ops.toList f K R) :
  (Code.region id ops false).wp P (QN n Y w0 F0 R) a w :=
 wp_region (NX (λa w h=>h) _ _ (by
    apply List.ext_getElem?;intro i;simp only[List.getElem?_map]
    rcases Nat.lt_or_ge i ops.size with h'|h'
    ·simp[h']
    ·simp[h']) hc _ _ _ _ _ hS (gR _ h))
def jI[Wd]{ρ:Dl}{f:Fr}{K:KS}{a:Act}{w:World}{R:Fr→KS→Prop}{id:Nat}{ops:Array Oper}(hc:ops.toList.all (Ba n.n)=true)(hS:Sim n Y w0 F0 ρ f K a w)(h:Og P ops ops.toList f K R ()) :
  (Code.region id ops false).wp P (QN n Y w0 F0 R) a w :=
 wp_region (NX (λa w h=>h) _ _ (by
    apply List.ext_getElem?;intro i;simp only[List.getElem?_map]
    rcases Nat.lt_or_ge i ops.size with h'|h'
    ·simp[h']
    ·simp[h']) hc _ _ _ _ _ hS h)
def nf(ops:Array Oper):(List.range ops.size).filterMap (ops[·]?)=ops.toList:=by
 have key:∀m,m≤ops.size→(List.range m).filterMap (ops[·]?)=ops.toList.take m:=by
  intro m
  induction m with
  |zero=>intro _;simp
  |succ m ih =>
   intro hm;rw[List.range_succ,List.filterMap_append,ih (by omega),List.take_succ_eq_append_getElem (by simp;omega)]
   simp[Array.getElem?_eq_getElem (show m<ops.size by omega)]
 rw[key _ (Qg _),List.take_of_length_le (by simp)]
def jC[Wd]{vs:List Nat}{ρ:Dl}{f:Fr}{K:KS}{a:Act}{w:World}{R:Fr→KS→Prop}{id:Nat}{ops:Array Oper}(hc:ops.toList.all (Ba n.n)=true)(hS:Sim n Y w0 F0 ρ f K a w)(h:RP vs P ops ops.toList f K R) :
  (Code.region id ops false).wp P (QN n Y w0 F0 R) a w :=
 wp_region (gn (λa w h=>h) _ _ (by
    apply List.ext_getElem?;intro i;simp only[List.getElem?_map]
    rcases Nat.lt_or_ge i ops.size with h'|h'
    ·simp[h']
    ·simp[h']) hc _ _ _ _ _ hS h)
def ob[Wd](hm:P.follows .mixedOrders=true){vs:List Nat}{ρ:Dl}{f:Fr}{K:KS}{a:Act}{w:World}{R:Fr→KS→Prop}{id:Nat}{ops:Array Oper}{is:List Nat}(hc:ops.toList.all (Ba n.n)=true)(ho:oh vs P ops is (Array.replicate ops.size false)=true)(hl:is.length≤ops.size)
  (hS:Sim n Y w0 F0 ρ f K a w) (h:RP vs P ops (is.filterMap (ops[·]?)) f K R):(Code.region id ops true).wp P (QN n Y w0 F0 R) a w :=
 wp_region_any hm (WX hc (λa w h=>h) _ _ ρ f K a _ hS.drawn (ia is _ _ f K ho hl h))
def si[Wd](hm:P.follows .mixedOrders=true){vs:List Nat}{ρ:Dl}{f:Fr}{K:KS}{a:Act}{w:World}{R:Fr→KS→Prop}{id:Nat}{ops:Array Oper}{t:OT}(hc:ops.toList.all (Ba n.n)=true)(ho:am vs P ops t false (Array.replicate ops.size false)=true)(hl:t.depth≤ops.size)
  (hS:Sim n Y w0 F0 ρ f K a w) (h:Hi vs P ops t f K R):(Code.region id ops true).wp P (QN n Y w0 F0 R) a w :=
 wp_region_any hm (WX hc (λa w h=>h) _ _ ρ f K a _ hS.drawn (z8 _ t _ f K ho hl h))
def NW[Wd]{β:Type}{r:β}{D:Orc}(hD:M8 P D){vs:List Nat}{ops:Array Oper}:∀(t:OT) {f:Fr} {K:KS} {k:Fr→KS→Option β} {l},FK vs P D ops t f K k l=some r→Hi vs P ops t f K (λf K=>k f K=some r)
 |.done,f,K,k,l,h=>h
 |.one i t,f,K,k,l,h=>by
  unfold FK at h;unfold Hi
  split at h
  ·rename_i o ho
   simp only[ho];exact Lx (Nm hD [o] h) λf K h=>NW hD t h
  ·cases h
 |.alt a b,f,K,k,l,h=>by
  unfold FK px at h
  split at h
  ·rename_i he
   exact⟨NW hD a h,NW hD b (by rw[←he];exact h)⟩
  ·cases h
def sn[Wd](hm:P.follows .mixedOrders=true){ρ:Dl}{f:Fr}{K:KS}{a:Act}{w:World}{R:Fr→KS→Prop}{id:Nat}{ops:Array Oper}{is:List Nat}(hc:ops.toList.all (Ba n.n)=true)(ho:Y5 P ops is (Array.replicate ops.size false)=true)(hl:is.length≤ops.size)
  (hS:Sim n Y w0 F0 ρ f K a w) (h:LN P ops (is.filterMap (ops[·]?)) f K R):(Code.region id ops true).wp P (QN n Y w0 F0 R) a w :=
 wp_region_any hm (d7 hc (λa w h=>h) _ _ ρ f K a _ hS.drawn (Th is _ _ f K ho hl h))
def y8[Wd](hm:P.follows .mixedOrders=true){ρ:Dl}{f:Fr}{K:KS}{a:Act}{w:World}{R:Fr→KS→Prop}{id:Nat}{ops:Array Oper}{t:OT}(hc:ops.toList.all (Ba n.n)=true)(ho:I0 P ops t false (Array.replicate ops.size false)=true)(hl:t.depth≤ops.size)
  (hS:Sim n Y w0 F0 ρ f K a w) (h:Ks P ops t f K R):(Code.region id ops true).wp P (QN n Y w0 F0 R) a w :=
 wp_region_any hm (d7 hc (λa w h=>h) _ _ ρ f K a _ hS.drawn (gg _ t _ f K ho hl h))
def QmX(ops:Array Oper)(m:Nat)(f:Fr):INV ops (Array.replicate m false) f:=λj o d h=>by
 rw[Array.getElem?_replicate]at h
 split at h
 ·cases h
 ·cases h
def mZ[Wd](hm:P.follows .mixedOrders=true){ρ:Dl}{f:Fr}{K:KS}{a:Act}{w:World}{R:Fr→KS→Prop}{id:Nat}{ops:Array Oper}{ds:List Nat}{is:List Nat}(hE:pU P ops ds=true)(hc:ops.toList.all (Ba n.n)=true)(ho:Y5 P (ops.map (ZS ds)) is (Array.replicate (ops.map (ZS ds)).size false)=true)(hl:is.length≤(ops.map (ZS ds)).size)
  (hS:Sim n Y w0 F0 ρ f K a w) (h:LN P (ops.map (ZS ds)) (is.filterMap ((ops.map (ZS ds))[·]?)) f K R):(Code.region id ops true).wp P (QN n Y w0 F0 R) a w:=by
 rw[Array.size_map]at ho hl;exact wp_region_any hm (Ll hE hc (λa w h=>h) _ _ ρ f K a _ hS.drawn (QmX _ _ _) (Th is _ _ f K ho hl h))
def sP[Wd](hm:P.follows .mixedOrders=true){ρ:Dl}{f:Fr}{K:KS}{a:Act}{w:World}{R:Fr→KS→Prop}{id:Nat}{ops:Array Oper}{ds:List Nat}{t:OT}(hE:pU P ops ds=true)(hc:ops.toList.all (Ba n.n)=true)(ho:I0 P (ops.map (ZS ds)) t false (Array.replicate (ops.map (ZS ds)).size false)=true)(hl:t.depth≤(ops.map (ZS ds)).size)
  (hS:Sim n Y w0 F0 ρ f K a w) (h:Ks P (ops.map (ZS ds)) t f K R):(Code.region id ops true).wp P (QN n Y w0 F0 R) a w:=by
 rw[Array.size_map]at ho hl;exact wp_region_any hm (Ll hE hc (λa w h=>h) _ _ ρ f K a _ hS.drawn (QmX _ _ _) (gg _ t _ f K ho hl h))
def Nn[Wd]{β:Type}{r:β}{D:Orc}(hD:M8 P D){ops:Array Oper}:∀(t:OT) {f:Fr} {K:KS} {k:Fr→KS→Option β} {l},Ic P D ops t f K k l=some r→Ks P ops t f K (λf K=>k f K=some r)
 |.done,f,K,k,l,h=>h
 |.one i t,f,K,k,l,h=>by
  unfold Ic at h;unfold Ks
  split at h
  ·rename_i o ho
   simp only[ho];exact K7 (RW hD [o] h) λf K h=>Nn hD t h
  ·cases h
 |.alt a b,f,K,k,l,h=>by
  unfold Ic px at h
  split at h
  ·rename_i he
   exact⟨Nn hD a h,Nn hD b (by rw[←he];exact h)⟩
  ·cases h
def RM(ops:Array Oper)(o:Option (List Nat)):fJ ops o=(fG ops o).filterMap (ops[·]?):=by
 cases o with
 |none=>exact(nf ops).symm
 |some is=>rfl
variable{D:Orc}{β:Type}
def dH[Wd](hD:M8 P D){A:Ann}{id:Nat}{ops:Array Oper}{l:List Oper}{c:Code}{ρ:Dl}{f:Fr}{K:KS}{a:Act}{w:World}(hS:Sim n Y w0 F0 ρ f K a w)
  (hrun:∀R,LN P ops l f K R→c.wp P (QN n Y w0 F0 R) a w) (hj:jOK A id l=true) {Q:KT β} {r:β} (h:WN P D A id ops l Q f K ()=some r):c.wp P (QQ n Y w0 F0 λe f K=>Q e f K=some r) a w:=by
 unfold WN at h;unfold jOK at hj
 split at h
 ·refine wp_mono (hrun _ (RW hD l h)) λe a w hq=>?_
  cases e<;>first|exact hq|exact hq.elim
 ·rename_i s lo hi hs
  simp only[hs]at hj;unfold bS at h;obtain⟨b,h1,h2⟩:=Option.bind_eq_some_iff.1 h;refine wp_mono (hrun _ (SF l hj (RW hD l h1))) λe a' w' hq=>?_
  cases e with
  |normal =>
   obtain⟨f',K',ρ',hS',h3,h4,h5⟩:=hq;have hb:f' s=.b b:=by
    cases hfs:f' s<;>rw[hfs]at h3<;>first|(cases h3;done)|skip
    simp only[asB,T0]at h3;injection h3 with h3;rw[h3]
   refine⟨up (oD lo hi f) s (.b b),K,ρ',hS'.cut h5 hS.keep.1 (λt=>?_) hS.wfK,h2⟩
   unfold up oD;by_cases ht:t=s
   ·subst ht;rw[if_pos rfl,hb];exact .inr ⟨rfl,by simp[Ud]⟩
   ·rw[if_neg ht]
    cases hr:(Nat.ble lo t&&Nat.blt t hi)with
    |true=>exact .inl rfl
    |false =>
     refine .inr ⟨(h4 t ?_).symm,hS.wf t⟩;simp only[inJ,hr,Bool.or_false];simpa using ht
  |ret=>exact hq.elim
  |exit id=>exact hq.elim
  |goto l=>exact hq.elim
  |panic l=>exact hq.elim
  |outgrown=>exact hq.elim
def Wt[Wd](P:Program)(D:Orc)(m z:Nat)(c:Code):Prop :=
 ∀(n:NE) (Y:Nat→Prop) (w0:World) (F0:Nat→Prop) (ρ:Dl) (f:Fr) (K:KS) (a:Act) (w:World) (o:XE×Fr×KS),n.n=m→n.E.sz≤z→Sim n Y w0 F0 ρ f K a w→D.l (Ma c) f K=some o →
  (Code.loop c).wp P (QQ n Y w0 F0 λe f K=>o=(e,f,K)) a w
def dw[Wd]{n:NE}{Y:Nat→Prop}{w0:World}{F0:Nat→Prop}{ρ:Dl}{a:Act}{w:World}{β:Type}{r:β}{k:Fr→KS→Option β}:∀(ss:List Nat) {f:Fr} {K:KS},Sim n Y w0 F0 ρ f K a w→dL ss f K k ()=some r →
  ∃f' K',Sim n Y w0 F0 ρ f' K' a w∧k f' K'=some r
 |[],f,K,hS,h=>⟨f,K,hS,h⟩
 |s::ss,f,K,hS,h=>by
  unfold dL wE at h
  split at h
  ·rename_i j hs
   unfold Qan at h
   split at h
   ·rename_i m rows hj
    exact dw ss (hS.freeze hs hj) h
   ·cases h
  ·cases h
def dO[Wd]{n:NE}{Y:Nat→Prop}{w0:World}{F0:Nat→Prop}{ρ:Dl}{a:Act}{w:World}{β:Type}{r:β}{k:Fr→KS→Option β}{f:Fr}:∀(ss:List (Nat×Nat)) {K:KS},Sim n Y w0 F0 ρ f K a w→cH ss f K k ()=some r →
  ∃f' K',Sim n Y w0 F0 ρ f' K' a w∧k f' K'=some r
 |[],K,hS,h=>⟨f,K,hS,h⟩
 |(s,o)::ss,K,hS,h=>by
  unfold cH yL at h
  split at h
  ·unfold xp at h
   split at h
   ·rename_i cs hb
    unfold wZ at h
    split at h
    ·rename_i j ds hd
     unfold w5 at h
     split at h
     ·rename_i m rows hj
      have hc:cs[o]?=some (.sl j):=by
       have:=congrArg (λl=>l[0]?) hd
       simpa using this
      exact dO ss (hS.freezeC hb hc hj) h
     ·cases h
    ·cases h
   ·cases h
  ·cases h
def re[Wd]{n:NE}{Y:Nat→Prop}{w0:World}{F0:Nat→Prop}{ρ:Dl}{a:Act}{w:World}{β:Type}{r:β}{k:Fr→KS→Option β}{o:Option (List Nat)}{c:Option (List (Nat×Nat))}{f:Fr}{K:KS}(hS:Sim n Y w0 F0 ρ f K a w)(h:xY o c f K k ()=some r) :
  ∃f' K',Sim n Y w0 F0 ρ f' K' a w∧k f' K'=some r:=by
 unfold xY at h
 split at h
 ·exact⟨f,K,hS,h⟩
 ·exact dO _ hS h
 ·exact dw _ hS h
 ·obtain⟨f1,K1,h1,h2⟩:=dw _ hS h
  exact dO _ h1 h2
def St[Wd](hD:M8 P D)(hm:P.follows .mixedOrders=true){A:Ann}(hz:n.E.sz≤A.ak.length)(hr:A.ak=List.range A.ak.length):∀(c:Code),aC P n.n A c=true→(∀c'∈VU c,Wt P D n.n A.ak.length c')→∀{Q:KT β} {r:β} {ρ:Dl} {f:Fr} {K:KS} {a:Act} {w:World} {l},Sim n Y w0 F0 ρ f K a w →
  Jl P D A c Q f K l=some r→c.wp P (QQ n Y w0 F0 λe f K=>Q e f K=some r) a w:=by
 intro c
 induction c with
 |skip=>intro _ _ Q r ρ f K a w l hS h;exact wp_skip ⟨f,K,ρ,hS,h⟩
 |ret=>intro _ _ Q r ρ f K a w l hS h;exact wp_ret ⟨f,K,ρ,hS,h⟩
 |exit id=>intro _ _ Q r ρ f K a w l hS h;exact wp_exit ⟨f,K,ρ,hS,h⟩
 |region id ops draw =>
  intro hc _ Q r ρ f K a w l hS h;obtain⟨f,K,hS,h⟩:∃f' K',Sim n Y w0 F0 ρ f' K' a w∧(cond draw (Sc P D A id (lk A.av id) ops Q f' K' ()) (RO P D A id (lk A.av id) ops Q f' K' ()))=some r:=by
   cases draw with
   |false=>unfold Jl at h;exact re hS h
   |true=>unfold Jl at h;exact re hS h
  simp only[aC,Bool.and_eq_true]at hc;cases hav:lk A.av id with
  |some vs =>
   rw[hav]at hc;obtain⟨hc1,hc2⟩:=hc;cases draw with
   |false =>
    have h:RO P D A id (lk A.av id) ops Q f K ()=some r:=h;unfold RO at h;rw[hav]at h;refine wp_mono (jC hc1 hS (Nm hD _ h)) λe a w hq=>?_
    cases e<;>first|exact hq|exact hq.elim
   |true =>
    simp only[Qh,Bool.false_or]at hc2;have h:Sc P D A id (lk A.av id) ops Q f K ()=some r:=h;unfold Sc at h;rw[hav]at h;have h:eU vs P D A id (lk A.ot id) ops Q f K ()=some r:=h;cases hot:lk A.ot id with
    |some t =>
     rw[hot]at hc2 h;simp only[Bool.and_eq_true]at hc2;refine wp_mono (si hm hc1 hc2.1 (by simpa[Nat.ble_eq]using hc2.2) hS (NW hD t h)) λe a w hq=>?_
     cases e<;>first|exact hq|exact hq.elim
    |none =>
     rw[hot]at hc2 h;simp only[Bool.and_eq_true]at hc2;refine wp_mono (ob hm hc1 hc2.1 (by simpa[Nat.ble_eq]using hc2.2) hS (by rw[←RM];exact Nm hD _ h)) λe a w hq=>?_
     cases e<;>first|exact hq|exact hq.elim
  |none =>
  rw[hav]at hc;simp only at hc;cases draw with
  |false =>
   have h:RO P D A id (lk A.av id) ops Q f K ()=some r:=h;unfold RO at h;rw[hav]at h;simp only at h;unfold ex fA at h
   split at h
   ·split at h
    ·exact dH hD hS (λR hR=>pf hc.1 hS hR) hc.2 h
    ·refine wp_mono (jI hc.1 hS (MY hD _ h)) λe a w hq=>?_
     cases e<;>first|exact hq|exact hq.elim
   ·refine wp_mono (iW hc.1 hS (Y3 hD _ _ h)) λe a w hq=>?_
    cases e<;>first|exact hq|exact hq.elim
  |true =>
   have h:Sc P D A id (lk A.av id) ops Q f K ()=some r:=h;unfold Sc at h;rw[hav]at h;simp only at h;unfold fe at h;obtain⟨hc1,hc2⟩:=hc;cases heb:lk A.eb id with
   |none =>
    simp only[heb]at h hc2;unfold Ns at h;unfold dOK at hc2
    split at h
    ·rename_i t ht
     simp only[ht,Bool.and_eq_true]at hc2;refine wp_mono (y8 hm hc1 hc2.1 (by simpa[Nat.ble_eq]using hc2.2) hS (Nn hD t h)) λe a w hq=>?_
     cases e<;>first|exact hq|exact hq.elim
    rename_i ht;simp only[ht,Bool.and_eq_true,←RM]at hc2;refine dH hD hS (λR hR=>sn hm hc1 hc2.1.1 (by simpa[Nat.ble_eq]using hc2.1.2) hS ?_) hc2.2 h
    rw[←RM];exact hR
   |some ds =>
    simp only[heb,Bool.and_eq_true]at h hc2;obtain⟨hE,hc2⟩:=hc2;unfold Ns at h;unfold dOK at hc2
    split at h
    ·rename_i t ht
     simp only[ht,Bool.and_eq_true]at hc2;refine wp_mono (sP hm hE hc1 hc2.1 (by simpa only[Nat.ble_eq]using hc2.2) hS (Nn hD t h)) λe a w hq=>?_
     cases e<;>first|exact hq|exact hq.elim
    rename_i ht;simp only[ht,Bool.and_eq_true,←RM]at hc2;refine dH hD hS (λR hR=>mZ hm hE hc1 hc2.1.1 (by simpa only[Nat.ble_eq]using hc2.1.2) hS ?_) hc2.2 h
    rw[←RM];exact hR
 |seq x y ihx ihy =>
  intro hc hl Q r ρ f K a w l hS h;simp only[aC,Bool.and_eq_true]at hc;refine wp_seq (wp_mono (ihx hc.1 (λc' hm=>hl c' (by simp only[VU];exact List.mem_append_left _ hm)) hS h) λe a w hq=>?_)
  cases e with
  |normal=>obtain⟨f,K,ρ,h1,h2⟩:=hq;exact ihy hc.2 (λc' hm=>hl c' (by simp only[VU];exact List.mem_append_right _ hm)) h1 h2
  |ret=>exact hq
  |exit id=>exact hq
  |goto l=>exact hq
  |panic l=>exact hq
  |outgrown=>exact hq
 |cond c x y ihx ihy =>
  intro hc hl Q r ρ f K a w l hS h;simp only[aC,Bool.and_eq_true]at hc;unfold Jl at h
  split at h
  ·rename_i b hb
   have:=hS.ev c;rw[hb]at this;simp only[XR]at this;obtain⟨h1,h2⟩:=nX h;exact wp_cond_split this.1 (λhb=>ihx hc.1 (λc' hm=>hl c' (by simp only[VU];exact List.mem_append_left _ hm)) hS (h1 hb)) (λhb=>ihy hc.2 (λc' hm=>hl c' (by simp only[VU];exact List.mem_append_right _ hm)) hS (h2 hb))
  ·cases h
 |block id c ih =>
  intro hc hl Q r ρ f K a w l hS h;refine wp_block (wp_mono (ih hc hl hS h) λe a w hq=>?_)
  cases e with
  |exit id' =>
   obtain⟨f1,K1,ρ1,q1,q2⟩:=hq;simp only[pp]at q2;simp only[Exit.inBlock]
   split
   ·rename_i he;rw[he]at q2;simp at q2;exact⟨f1,K1,ρ1,q1,q2⟩
   ·rename_i he
    have:(id'==id)=false:=by simpa using he
    rw[this]at q2;exact⟨f1,K1,ρ1,q1,q2⟩
  |normal=>exact hq
  |ret=>exact hq
  |goto l=>exact hq
  |panic l=>exact hq
  |outgrown=>exact hq
 |loop c ih =>
  intro hc hl Q r ρ f K a w l hS h;unfold Jl at h
  split at h
  ·rename_i la hla
   obtain⟨f',K',h1,h2⟩:=ND hr h;unfold Aj at h2;obtain⟨o,h3,h4⟩:=Option.bind_eq_some_iff.1 h2;obtain⟨ρ',hS'⟩:=h1 n Y w0 F0 ρ a w hz hS;refine wp_mono (hl c (by simp[VU]) n Y w0 F0 ρ' f' K' a w o rfl hz hS' h3) λe a w hq=>?_
   cases e with
   |normal=>obtain⟨f1,K1,ρ1,q1,q2⟩:=hq;subst q2;exact⟨f1,K1,ρ1,q1,h4⟩
   |ret=>obtain⟨f1,K1,ρ1,q1,q2⟩:=hq;subst q2;exact⟨f1,K1,ρ1,q1,h4⟩
   |exit id=>obtain⟨f1,K1,ρ1,q1,q2⟩:=hq;subst q2;exact⟨f1,K1,ρ1,q1,h4⟩
   |goto l=>exact hq.elim
   |panic l=>exact hq.elim
   |outgrown=>exact hq.elim
  ·cases h
 |rangeFunc _ _ _ _ _ _=>intro _ _ Q r ρ f K a w l hS h;unfold Jl at h;cases h
 |scope _ _=>intro _ _ Q r ρ f K a w l hS h;unfold Jl at h;cases h
 |label _=>intro _ _ Q r ρ f K a w l hS h;unfold Jl at h;cases h
 |goto _=>intro _ _ Q r ρ f K a w l hS h;unfold Jl at h;cases h
 |refuse _=>intro _ _ Q r ρ f K a w l hS h;unfold Jl at h;cases h
def wm[Wd](hD:M8 P D)(hm:P.follows .mixedOrders=true){A:Ann}{c:Code}{la rt:LA}(hz:n.E.sz≤A.ak.length)(hr:A.ak=List.range A.ak.length)(hok:aC P n.n A c=true)(hl:∀c'∈VU c,Wt P D n.n A.ak.length c')
  {ρ:Dl} {f:Fr} {K:KS} {a:Act} {w:World} {o:XE×Fr×KS} (hS:Sim n Y w0 F0 ρ f K a w) (h:run (λs:ST=>Jl P D A c (Nf A.ak la rt) s.1 s.2 ()) (f,K)=some o) :
  (Code.loop c).wp P (QQ n Y w0 F0 λe f K=>o=(e,f,K)) a w:=by
 obtain⟨m,hm'⟩:=E2.1 h;have key:∀(m:Nat) (f:Fr) (K:KS),aM (λs:ST=>Jl P D A c (Nf A.ak la rt) s.1 s.2 ()) m (f,K)=some o→∀a w,(∃ρ,Sim n Y w0 F0 ρ f K a w)→∀(b:Frame) (k:List Item) (cs:List Frame),
   ∃e a' w',QQ n Y w0 F0 (λe f K=>o=(e,f,K)) e a' w'∧Arrives P (lone (b.at a (.code c::.inLoop c::k)) cs w) b k cs e a' w':=by
  intro m
  induction m with
  |zero=>intro f K h;cases h
  |succ m ihm =>
   intro f K h a w ⟨ρ,hS⟩ b k cs;simp only[aM]at h;obtain⟨res,h1,h2⟩:=Option.bind_eq_some_iff.1 h;obtain⟨e,a₁,w₁,hq,harr⟩:=St hD hm hz hr c hok hl hS h1 b (.inLoop c::k) cs;cases e with
   |normal =>
    obtain⟨f1,K1,ρ1,q1,q2⟩:=hq;simp only[Nf]at q2;obtain⟨f2,K2,q3,q4⟩:=ND hr q2;injection q4 with q4;subst q4
    obtain⟨ρ2,q5⟩:=q3 n Y w0 F0 ρ1 a₁ w₁ hz q1;obtain⟨e₂,a₂,w₂,hq₂,harr₂⟩:=ihm f2 K2 h2 a₁ w₁ ⟨ρ2,q5⟩ b k cs;exact⟨e₂,a₂,w₂,hq₂,.of_steps (Steps.trans harr (.one step_inLoop)) harr₂⟩
   |exit id =>
    obtain⟨f1,K1,ρ1,q1,q2⟩:=hq;simp only[Nf]at q2;obtain⟨f2,K2,q3,q4⟩:=ND hr q2;injection q4 with q4;subst q4
    obtain⟨ρ2,q5⟩:=q3 n Y w0 F0 ρ1 a₁ w₁ hz q1;injection h2 with h2
    have hq':QQ n Y w0 F0 (λe f K=>o=(e,f,K)) (.exit id) a₁ w₁:=⟨f2,K2,ρ2,q5,h2.symm⟩
    exact⟨_,a₁,w₁,hq',.pass (x:=.inLoop c) rfl (λ_ _=>.inl (by simp)) harr⟩
   |ret =>
    obtain⟨f1,K1,ρ1,q1,q2⟩:=hq;simp only[Nf]at q2;obtain⟨f2,K2,q3,q4⟩:=ND hr q2;injection q4 with q4;subst q4
    obtain⟨ρ2,q5⟩:=q3 n Y w0 F0 ρ1 a₁ w₁ hz q1;injection h2 with h2
    have hq':QQ n Y w0 F0 (λe f K=>o=(e,f,K)) .ret a₁ w₁:=⟨f2,K2,ρ2,q5,h2.symm⟩
    exact⟨_,a₁,w₁,hq',.pass (x:=.inLoop c) rfl (λ_ _=>.inl (by simp)) harr⟩
   |goto l=>exact hq.elim
   |panic ch=>exact hq.elim
   |outgrown=>exact hq.elim
 intro b k cs;obtain⟨e,a',w',hq,harr⟩:=key m f K hm' a w ⟨ρ,hS⟩ b k cs;exact⟨e,a',w',hq,.of_steps (.one step_loop) harr⟩
end
def vP{α:Type}:∀{l:List (Nat×α)} {i:Nat} {x:α},lk l i=some x→(i,x)∈l
 |[],i,x,h=>by cases h
 |(j,y)::l,i,x,h=>by
  unfold lk at h;cases hj:(j==i)with
  |true=>rw[hj]at h;simp at h;subst h;rw[beq_iff_eq.1 hj];exact List.mem_cons_self
  |false=>rw[hj]at h;exact List.mem_cons_of_mem _ (vP h)
def Tld.fok{T:Tld}(h:T.ok=true){g:FuncId}{a:Ann}(ha:T.at g=some a) :
  ∃fn c,T.P.funcs[g]?=some fn∧fn.body=some c∧fn.name ≠ "runtime.NumGoroutine" ∧ aC T.P fn.ntmps a c=true∧((VU c).map Ma).Nodup∧a.ak=List.range a.ak.length:=by
 have h1:=List.all_eq_true.1 h _ (vP ha);simp only[fOK]at h1
 split at h1
 ·rename_i fn hf
  simp only[Bool.and_eq_true]at h1;obtain⟨h2,h3⟩:=h1
  split at h3
  ·rename_i c hc
   simp only[Bool.and_eq_true]at h3;exact⟨fn,c,hf,hc,by simpa using h2,h3.1,Lg h3.2.1,of_decide_eq_true h3.2.2⟩
  ·cases h3
 ·cases h1
def mP{w:World}{O:Nat→Prop}{E:EI}{s:Sh}{x:AV}{v:Value}{nb:List Nat}(h:XR w O E x v nb):XR w O E (dt s x) v nb:=by
 unfold dt
 split
 ·exact rW h
 ·simp only[XR]at h ⊢
  obtain⟨vs,h1,h2⟩:=h;exact⟨vs,h1,Y4 h2⟩
 ·exact h
def ej{w:World}{O:Nat→Prop}{E:EI}:∀{ss:List Sh} {xs:List AV} {vs:List Value} {nb:List Nat},XRs w O E xs vs nb→XRs w O E (gE ss xs) vs nb
 |[],[],_,_,h=>h
 |[],_::_,_,_,h=>h
 |_::_,[],_,_,h=>h
 |s::ss,x::xs,vs,nb,h=>by
  simp only[XRs]at h;obtain⟨v,vs',n1,n2,h1,h2,h3,h4⟩:=h;simp only[gE,XRs];exact⟨v,vs',n1,n2,h1,h2,mP h3,ej h4⟩
def lJ{w:World}{O:Nat→Prop}{E:EI}{ss:List Sh}{x:AV}{v:Value}{nb:List Nat}(h:XR w O E x v nb):XR w O E (aD ss x) v nb:=by
 unfold aD
 split
 ·exact mP h
 ·simp only[XR]at h ⊢
  obtain⟨vs,h1,h2⟩:=h;exact⟨vs,h1,ej h2⟩
 ·exact h
def Qhg[Wd]{P:Program}{D:Orc}(hD:M8 P D)(hm:P.follows .mixedOrders=true){g:FuncId}{fn:Func}{c:Code}{A:Ann}{args:List AV}{x:AV}(hf:P.funcs[g]?=some fn)(hb:fn.body=some c)(hn:fn.name ≠ "runtime.NumGoroutine")
  (ho:aC P fn.ntmps A c=true) (hr:A.ak=List.range A.ak.length) (hl:∀c'∈VU c,Wt P D fn.ntmps A.ak.length c') (ha:args.length≤fn.ntmps) {sh:List Sh} (h:Jl P D A c (PF P sh fn.results.toList) (Jy args) [] ()=some x):PC P g args (·=x):=by
 refine⟨EnterOK.of hf hb hn,λw vs hI hX=>calls_of_wp hf hb ?_⟩
 let ρ:Dl:=λ_=>(none,[])
 have eO:OO [] ρ FF=FF:=by funext b;simp[OO,kg]
 have eE:EK [] ρ=EN:=by simp[EK,EN,kg]
 have hS:Sim ⟨fn.ntmps,EN⟩ FF w FF ρ (Jy args) [] { tmps:=vs.toArray++Array.replicate (fn.ntmps-vs.toArray.size) undef,defers:=[] } w :=
  Sim.init ha (by rw[eO,eE];exact hX) (by rw[eE];exact⟨Qg _,λ_ _ _ h=>h⟩) ⟨λj e h=>by simp[kg]at h,λj e h=>by simp[kg]at h,λj e b h=>by simp[kg]at h,λj e k e' b h=>by simp[kg]at h⟩
   (λj e b h=>by simp[kg]at h) ⟨λb h=>h.elim,λw' he=>Wd.keep he hI⟩
 refine wp_mono (St (n:=⟨fn.ntmps,EN⟩) hD hm (Nat.zero_le _) hr c ho hl hS h) λe a w' hq=>?_
 have fin:Ys ⟨fn.ntmps,EN⟩ FF w FF (λf K=>PF P sh fn.results.toList .ret f K=some x) a w'→a.defers=[]∧∃v,(results fn a.tmps).run P w'=.ok v w'∧(∃v' x' nb,Ending.returned v=.returned v'∧x'=x∧XR w' TT EN x' v' nb∧nb.Nodup∧(∀b∈nb,w.heap.size≤b∧b<w'.heap.size)∧Ext FF w w'):=by
  rintro⟨f,K,ρ,hS,hR⟩;refine⟨hS.defers,?_⟩;unfold PF Aj at hR;obtain⟨xs,h1,h2⟩:=Option.bind_eq_some_iff.1 hR;obtain⟨⟨K1,x'⟩,h3,h4⟩:=Option.map_eq_some_iff.1 h2;simp only at h4;obtain⟨v,g1,g2⟩:=UQ (P:=P) hS h1;obtain⟨nb,g3,g4,g5,g6,g7⟩:=UU hS (LF xs) (λ_ _ h=>h) h3 g2
  refine⟨v,g1,v,aD sh x',nb,rfl,h4,lJ g3,g4,λb hb=>?_,hS.ext⟩
  obtain⟨j,e,q1,q2,q3⟩:=g7 b hb;refine⟨?_,hS.sees.lt j e b q1 q3⟩
  rcases hS.new j e b q1 q3 with q|q
  ·exact q.elim
  ·exact q
 cases e with
 |normal=>exact fin hq
 |ret=>exact fin hq
 |exit id=>obtain⟨_,_,_,_,hq⟩:=hq;cases hq
 |goto l=>exact hq.elim
 |panic l=>exact hq.elim
 |outgrown=>exact hq.elim
def QmY[Wd]{P:Program}{D:Orc}(hD:M8 P D)(hm:P.follows .mixedOrders=true){g:FuncId}{fn:Func}{c:Code}{A:Ann}{K1:KS}{args:List AV}{x:AV}(hf:P.funcs[g]?=some fn)(hb:fn.body=some c)(hn:fn.name ≠ "runtime.NumGoroutine")
  (ho:aC P fn.ntmps A c=true) (hr:A.ak=List.range A.ak.length) (hl:∀c'∈VU c,Wt P D fn.ntmps A.ak.length c') (ha:args.length≤fn.ntmps) {sh:List Sh} (h:Jl P D A c (PF P sh fn.results.toList) (Jy args) K1 ()=some x):MC P g K1 args (·=x):=by
 refine⟨EnterOK.of hf hb hn,λw ρ Y vs hI hY hSe hX=>calls_of_wp hf hb ?_⟩
 let F1:Nat→Prop:=λb=>∃j e,kg K1 j=some e∧b∈fp ρ j
 have hS:Sim ⟨fn.ntmps,EN⟩ Y w F1 ρ (Jy args) K1 { tmps:=vs.toArray++Array.replicate (fn.ntmps-vs.toArray.size) undef,defers:=[] } w :=
  Sim.init ha hX ⟨Nat.zero_le _,λj p hj=>by simp[EN]at hj⟩ hSe (λj e b hj hb=>.inl ⟨j,e,hj,hb⟩) ⟨λb hb=>⟨(hY b hb).1,λ⟨j,e,hj,hb'⟩=>(hY b hb).2 j e hj hb'⟩,hI⟩
 refine wp_mono (St (n:=⟨fn.ntmps,EN⟩) hD hm (Nat.zero_le _) hr c ho hl hS h) λe a w' hq=>?_
 have fin:Ys ⟨fn.ntmps,EN⟩ Y w F1 (λf K=>PF P sh fn.results.toList .ret f K=some x) a w'→a.defers=[]∧∃v,(results fn a.tmps).run P w'=.ok v w'∧(∃v' x' nb,Ending.returned v=.returned v'∧x'=x∧XR w' TT EN x' v' nb∧nb.Nodup ∧
   (∀b∈nb,b<w'.heap.size∧((∃i e',kg K1 i=some e'∧b∈fp ρ i)∨w.heap.size≤b))∧Ext (λb=>∃j e,kg K1 j=some e∧b∈fp ρ j) w w'):=by
  rintro⟨f,K,ρ',hS,hR⟩;refine⟨hS.defers,?_⟩;unfold PF Aj at hR;obtain⟨xs,h1,h2⟩:=Option.bind_eq_some_iff.1 hR;obtain⟨⟨K1,x'⟩,h3,h4⟩:=Option.map_eq_some_iff.1 h2;simp only at h4;obtain⟨v,g1,g2⟩:=UQ (P:=P) hS h1;obtain⟨nb,g3,g4,g5,g6,g7⟩:=UU hS (LF xs) (λ_ _ h=>h) h3 g2
  refine⟨v,g1,v,aD sh x',nb,rfl,h4,lJ g3,g4,λb hb=>?_,hS.ext⟩
  obtain⟨j,e,q1,q2,q3⟩:=g7 b hb;exact⟨hS.sees.lt j e b q1 q3,hS.new j e b q1 q3⟩
 cases e with
 |normal=>exact fin hq
 |ret=>exact fin hq
 |exit id=>obtain⟨_,_,_,_,hq⟩:=hq;cases hq
 |goto l=>exact hq.elim
 |panic l=>exact hq.elim
 |outgrown=>exact hq.elim
def gv:∀{z:List Nat} {K:KS},z.length≤K.length→K.take z.length=eh z K∧(eh z K).length=z.length
 |[],K,_=>by cases K<;>simp[eh]
 |x::z,[],h=>by simp at h
 |x::z,e::K,h=>by
  obtain⟨h1,h2⟩:=gv (z:=z) (K:=K) (by simpa using h)
  exact⟨by simp[eh,h1],by simp[eh,h2]⟩
def rP:∀{z:List Nat} {K:KS},z.length≤(eh z K).length→z.length≤K.length
 |[],K,_=>by simp
 |x::z,[],h=>by simp[eh]at h
 |x::z,e::K,h=>by
  have:=rP (z:=z) (K:=K) (by simpa[eh]using h)
  simpa using this
def cf{a:Act}{m:Nat}(h:a.tmps.size=m){v:Value}:(a.tmps.push v).getD m undef=v:=by
 subst h;simp[Array.getD_eq_getD_getElem?]
def Sim.pushV[Wd]{m:Nat}{E:EI}{Y:Nat→Prop}{w0:World}{F0:Nat→Prop}{ρ:Dl}{f:Fr}{K:KS}{a:Act}{w:World}(hS:Sim ⟨m,E⟩ Y w0 F0 ρ f K a w){r:AV}{v:Value}(hx:XR w (OO K ρ Y) (EK K ρ) r v []) :
  Sim ⟨m+1,E⟩ Y w0 F0 ρ (up f m r) K { a with tmps:=a.tmps.push v } w:=by
 have hs:a.tmps.size=m:=hS.size;refine⟨hS.defers,by simp[hs],hS.keep,λt=>?_,hS.sees,hS.ext,hS.new,hS.yl⟩
 unfold up
 split
 ·rename_i h
  subst h;rw[cf hs];exact hx
 ·rename_i h
  have:(a.tmps.push v).getD t undef=a.tmps.getD t undef:=by
   simp only[Array.getD_eq_getD_getElem?];rw[Array.getElem?_push,if_neg (by omega)]
  rw[this];exact hS.fr t
def Qjb[Wd]{P:Program}{D:Orc}(hD:M8 P D)(hm:P.follows .mixedOrders=true){g:FuncId}{fn:Func}{c:Code}{A:Ann}{K1:KS}{args:List AV}{x:AV×KS}(hf:P.funcs[g]?=some fn)(hb:fn.body=some c)(hn:fn.name ≠ "runtime.NumGoroutine")
  (ho:aC P fn.ntmps A c=true) (hr:A.ak=List.range A.ak.length) (hl:∀c'∈VU c,Wt P D fn.ntmps A.ak.length c') (hK:K1.length=A.ak.length) (ha:args.length≤fn.ntmps) (h:Jl P D A c (T2 P A.ak A.nr fn.ntmps fn.results.toList) (Jy args) K1 ()=some x) :
  AC P g K1 args (λv K'=>(v=x.1∧K'.take x.2.length=x.2)∧TN x.2.length x.1=true∧(∀e∈x.2,pe e=true)∧K1.length≤x.2.length):=by
 have fin0:∀{f K K':_},uy P A.ak.length fn.results.toList f K K'=some x→∃xs,Gt f K P fn.results.toList=some xs∧LF xs=x.1∧K'=x.2∧TN x.2.length x.1=true∧(∀e∈x.2,pe e=true)∧K1.length≤x.2.length:=by
  intro f K K' hR;unfold uy Aj at hR;obtain⟨xs,h1,h2⟩:=Option.bind_eq_some_iff.1 hR;obtain⟨h3,h4⟩:=Xo h2;simp only[Bool.and_eq_true,Nat.ble_eq]at h3;injection h4 with h4
  subst h4;exact⟨xs,h1,rfl,rfl,h3.1,Ra h3.2.1,by rw[hK];exact h3.2.2⟩
 refine⟨EnterOK.of hf hb hn,λw ρ Y vs hI hY hSe hX=>calls_of_wp hf hb ?_⟩
 let F1:Nat→Prop:=λb=>∃j e,kg K1 j=some e∧b∈fp ρ j
 have hS:Sim ⟨fn.ntmps,EK K1 ρ⟩ Y w F1 ρ (Jy args) K1 { tmps:=vs.toArray++Array.replicate (fn.ntmps-vs.toArray.size) undef,defers:=[] } w :=
  Sim.init ha hX ⟨Qg _,λ_ _ _ h=>h⟩ hSe (λj e b hj hb=>.inl ⟨j,e,hj,hb⟩) ⟨λb hb=>⟨(hY b hb).1,λ⟨j,e,hj,hb'⟩=>(hY b hb).2 j e hj hb'⟩,hI⟩
 refine wp_mono (St (n:=⟨fn.ntmps,EK K1 ρ⟩) hD hm (by show K1.length≤_;omega) hr c ho hl hS h) λe a w' hq=>?_
 have fin:Ys ⟨fn.ntmps,EK K1 ρ⟩ Y w F1 (λf K=>T2 P A.ak A.nr fn.ntmps fn.results.toList .ret f K=some x) a w'→a.defers=[]∧∃v,(results fn a.tmps).run P w'=.ok v w' ∧
   (∃v' r K' ρ',Ending.returned v=.returned v'∧((r=x.1∧K'.take x.2.length=x.2)∧TN x.2.length x.1=true∧(∀e∈x.2,pe e=true)∧K1.length≤x.2.length)∧K1.length≤K'.length∧XR w' (OO K' ρ' Y) (EK K' ρ') r v' []∧Sees w' (OO K' ρ' Y) K' ρ' ∧
    Ext (λb=>∃j e,kg K1 j=some e∧b∈fp ρ j) w w'∧(∀j e b,kg K' j=some e→b∈fp ρ' j→(∃i e',kg K1 i=some e'∧b∈fp ρ i)∨w.heap.size≤b) ∧
    ∀j e',j<K1.length→kg K' j=some e'→∃e,kg K1 j=some e∧(ρ' j).1=(ρ j).1∧e'.n=e.n∧e'.rows.length=e.rows.length):=by
  rintro⟨f,K,ρ',hS,hR⟩;refine⟨hS.defers,?_⟩;have shape:∀{n':NE} {f2:Fr} {K2:KS} {ρ2:Dl} {a2:Act},n'.E=EK K1 ρ→Sim n' Y w F1 ρ2 f2 K2 a2 w'→∀i e',i<K1.length→kg K2 i=some e'→∃e,kg K1 i=some e∧(ρ2 i).1=(ρ i).1∧e'.n=e.n∧e'.rows.length=e.rows.length:=by
   intro n' f2 K2 ρ2 a2 hn' hS2 i e' hi hi';have h3:=hS2.keep.2 i ((ρ2 i).1,e'.n,e'.rows.length) (by rw[hn'];exact hi) (by simp[EK,hi'])
   rw[hn']at h3;simp only[EK]at h3;obtain⟨e,h4,h5⟩:=Option.map_eq_some_iff.1 h3;injection h5 with h5 h6;injection h6 with h6 h7
   exact⟨e,h4,h5.symm,h6.symm,h7.symm⟩
  have hR':Wa P A.ak fn.ntmps fn.results.toList A.nr f K ()=some x:=hR;unfold Wa at hR'
  split at hR'
  ·obtain⟨xs,h1,h2,h3,h4,h5,h6⟩:=fin0 hR'
   obtain⟨v,g1,g2⟩:=UQ (P:=P) hS h1;have hz:A.ak.length≤(eh A.ak K).length:=by rw[h3,←hK];exact h6
   have ht:=gv (rP hz);exact⟨v,g1,v,LF xs,K,ρ',rfl,⟨⟨h2,by rw[←h3,ht.2];exact ht.1⟩,h4,h5,h6⟩,hS.keep.1,g2,hS.sees,hS.ext,hS.new,shape rfl hS⟩
  ·unfold Aj at hR'
   obtain⟨xs,h1,hR2⟩:=Option.bind_eq_some_iff.1 hR';obtain⟨v,g1,g2⟩:=UQ (P:=P) hS h1;obtain⟨f2,K2,q1,q2⟩:=ND hr hR2;obtain⟨ρ2,hS2⟩:=q1 _ _ _ _ _ _ _ (by show K1.length≤_;omega) (hS.pushV g2)
   obtain⟨h3,h4⟩:=Xo q2;simp only[Bool.and_eq_true,Nat.ble_eq]at h3;injection h4 with h4
   subst h4;have hv:=hS2.fr fn.ntmps;rw[cf hS.size]at hv;exact⟨v,g1,v,f2 fn.ntmps,K2,ρ2,rfl,⟨⟨rfl,List.take_length⟩,h3.1,Ra h3.2.1,by rw[hK];exact h3.2.2⟩,hS2.keep.1,hv,hS2.sees,hS2.ext,hS2.new,shape rfl hS2⟩
 cases e with
 |normal=>exact fin hq
 |ret=>exact fin hq
 |exit id=>obtain⟨_,_,_,_,hq⟩:=hq;cases hq
 |goto l=>exact hq.elim
 |panic l=>exact hq.elim
 |outgrown=>exact hq.elim
def Yo[Wd]{T:Tld}(hT:T.ok=true)(hm:T.P.follows .mixedOrders=true)(hX:∀g args x,T.xt g args=some x→PC T.P g args (·=x))(hY:∀g,T.st g=true→SortP T.P g)(hZ:∀g,T.qt g=true→CompP T.P g)(hM:∀g K args x,T.mt g K args=some x→MC T.P g K args (·=x)):∀(n:Nat) (h:FuncId),M8 T.P (Lq T n h) ∧
  ∀(a:Ann),T.at h=some a→∀fn c,T.P.funcs[h]?=some fn→fn.body=some c→∀c'∈VU c,Wt T.P (Lq T n h) fn.ntmps a.ak.length c'
 |0,h=>⟨⟨λg args x hx=>by simp[Lq]at hx,λg hg=>by simp[Lq]at hg,λg hg=>by simp[Lq]at hg,λg K args x hx=>by simp[Lq]at hx,λg K args x hx=>by simp[Lq]at hx⟩,λa ha fn c hf hb c' hc n Y w0 F0 ρ f K a w o _ _ _ ho=>by simp[Lq]at ho⟩
 |n+1,h=>by
  refine⟨⟨λg args x hx=>?_,λg hg=>hY g hg,λg hg=>hZ g hg,λg K args x hx=>?_,λg K args x hx=>?_⟩,λa ha fn c hf hb c' hc m Y w0 F0 ρ f K act w o hn hz hS ho=>?_⟩
  ·simp only[Lq]at hx
   split at hx
   ·rename_i a ha
    obtain⟨fn,c,hf,hb,hnm,hok,hnd,hr⟩:=T.fok hT ha;obtain⟨ih1,ih2⟩:=Yo hT hm hX hY hZ hM n g;cases hle:Nat.ble args.length (ie T.P g)with
    |false=>rw[hle]at hx;cases hx
    |true =>
     rw[hle]at hx;have e1:ie T.P g=fn.ntmps:=by simp[ie,hf]
     have e2:body T.P g=c:=by simp[body,hf,hb]
     have e3:UA T.P g=fn.results.toList:=by simp[UA,hf]
     rw[e1,Nat.ble_eq]at hle;rw[e2,e3]at hx;exact Qhg ih1 hm hf hb hnm hok hr (ih2 a ha fn c hf hb) hle hx
   ·exact hX g args x hx
  ·simp only[Lq]at hx
   split at hx
   ·rename_i a ha
    obtain⟨fn,c,hf,hb,hnm,hok,hnd,hr⟩:=T.fok hT ha;obtain⟨ih1,ih2⟩:=Yo hT hm hX hY hZ hM n g;cases hle:(a.wr&&(Nat.beq K.length a.ak.length&&Nat.ble args.length (ie T.P g)))with
    |false=>rw[hle]at hx;cases hx
    |true =>
     rw[hle]at hx;have e1:ie T.P g=fn.ntmps:=by simp[ie,hf]
     have e2:body T.P g=c:=by simp[body,hf,hb]
     have e3:UA T.P g=fn.results.toList:=by simp[UA,hf]
     simp only[Bool.and_eq_true,e1,Nat.ble_eq]at hle;rw[e1,e2,e3]at hx;exact Qjb ih1 hm hf hb hnm hok hr (ih2 a ha fn c hf hb) (Nat.eq_of_beq_eq_true hle.2.1) hle.2.2 hx
   ·cases hx
  ·simp only[Lq]at hx
   split at hx
   ·rename_i a ha
    obtain⟨fn,c,hf,hb,hnm,hok,hnd,hr⟩:=T.fok hT ha;obtain⟨ih1,ih2⟩:=Yo hT hm hX hY hZ hM n g;cases hle:Nat.ble args.length (ie T.P g)with
    |false=>rw[hle]at hx;cases hx
    |true =>
     rw[hle]at hx;have e1:ie T.P g=fn.ntmps:=by simp[ie,hf]
     have e2:body T.P g=c:=by simp[body,hf,hb]
     have e3:UA T.P g=fn.results.toList:=by simp[UA,hf]
     rw[e1,Nat.ble_eq]at hle;rw[e2,e3]at hx;exact QmY ih1 hm hf hb hnm hok hr (ih2 a ha fn c hf hb) hle hx
   ·exact hM g K args x hx
  ·simp only[Lq,ha]at ho
   obtain⟨fn',c0,hf',hb',hnm,hok,hnd,hr⟩:=T.fok hT ha;rw[hf]at hf';injection hf' with hf';subst hf'
   rw[hb]at hb';injection hb' with hb';subst hb'
   obtain⟨ih1,ih2⟩:=Yo hT hm hX hY hZ hM n h;have e2:body T.P h=c:=by simp[body,hf,hb]
   rw[e2,T6 hnd hc]at ho
   split at ho
   ·rename_i c1 la h1 h2
    injection h1 with h1;subst h1
    have hsub:aC T.P fn.ntmps a c'=true:=rE c hok hc;have hlps:∀c2∈VU c',Wt T.P (Lq T n h) fn.ntmps a.ak.length c2:=λc2 h3=>ih2 a ha fn c hf hb c2 (aV c hc h3)
    rw[←hn]at hsub hlps;exact wm ih1 hm hz hr hsub hlps hS ho
   ·cases ho
def QlS[Wd]{T:Tld}(hT:T.ok=true)(hm:T.P.follows .mixedOrders=true)(hX:∀g args x,T.xt g args=some x→PC T.P g args (·=x))(hY:∀g,T.st g=true→SortP T.P g)(hZ:∀g,T.qt g=true→CompP T.P g)(hM:∀g K args x,T.mt g K args=some x→MC T.P g K args (·=x)){n:Nat}{g:FuncId}{args:List AV}{x:AV}(h:CP T n g args=some x):PC T.P g args (·=x):=(Yo hT hm hX hY hZ hM n 0).1.1 g args x h
end Go.Proofs.YtfhnbabcbhgffaaGreatDoor.Am
namespace Go.Proofs.YtfhnbabcbhgffaaGreatDoor.Am
open Go Go.ChangeShapes Go.WideShapes
structure Rd {α:Type} (P:Program) (t:TypeId) (c:α→List AV) (ok:α→Prop):Prop where
 rd:∀{H:Type} {enc:TypeId×Value→H} {w:World} {base:Nat} {spare:Nat→Bool} {held:Bool} {fuel:Nat} {cs:List Value} {x:DataW H×List MemPlace},
  DataW.trod enc P w base spare held fuel t cs=some x→∃y:α,ok y∧XRs w FF EN (c y) cs []∧∀v∈cs,VI v=true
def Rd.map{α β:Type}{P:Program}{t:TypeId}{c:α→List AV}{ok:α→Prop}{c':β→List AV}{ok':β→Prop}(h:Rd P t c ok)(g:α→β)(hc:∀x,c' (g x)=c x)(ho:∀x,ok x→ok' (g x)):Rd P t c' ok' :=
 ⟨λh1=>by obtain⟨y,h2,h3,h4⟩:=h.rd h1;exact⟨g y,ho y h2,by rw[hc];exact h3,h4⟩⟩
def KW{w:World}{O:Nat→Prop}{E:EI}{a:AV}{v:Value}(h:XR w O E a v []):XRs w O E [a] [v] []:=by
 simp only[XRs];exact⟨v,[],[],[],rfl,rfl,h,by simp⟩
def inK(k:IntKind)(n:Int):Prop:=k.min≤n∧n≤k.max
def Rd.int{P:Program}{t:TypeId}{k:IntKind}(ht:P.underlying t=some (.int k)):Rd P t (λx:Int=>[.i k x]) (inK k) :=
 ⟨λh=>by
  obtain⟨n,rfl,_,h2⟩:=DataW.trod_int ht h;refine⟨n,?_,KW (by simp[XR]),by simp[VI]⟩
  simp only[Lit.wf,Bool.and_eq_true,decide_eq_true_eq]at h2;exact h2⟩
def Rd.bool{P:Program}{t:TypeId}(ht:P.underlying t=some .bool):Rd P t (λx:Bool=>[.b x]) (λ_=>True) :=
 ⟨λh=>by
  obtain⟨b,rfl,_⟩:=DataW.trod_bool ht h;exact⟨b,trivial,KW (by simp[XR]),by simp[VI]⟩⟩
def Rd.str{P:Program}{t:TypeId}(ht:P.underlying t=some .string):Rd P t (λx:List UInt8=>[.s x]) sU :=
 ⟨λh=>by
  obtain⟨s,rfl,_,h2⟩:=DataW.trod_string ht h;have e:s.data.toList.length=s.size:=by rw[Array.length_toList];rfl
  refine⟨s.data.toList,by unfold sU;unfold maxLen at h2;omega,KW (by simp[XR]),by simp[VI]⟩⟩
def gu{α:Type}(g:Nat→Option α):∀(l:List Nat) {cs:List α},l.mapM g=some cs→cs.length=l.length∧∀(i:Nat) (h:i<l.length),g l[i]=cs[i]?
 |[],cs,h=>by simp at h;subst h;simp
 |x::l,cs,h=>by
  rw[List.mapM_cons]at h;simp only[Option.bind_eq_bind,Option.pure_def]at h;obtain⟨y,h1,h⟩:=Option.bind_eq_some_iff.1 h;obtain⟨ys,h2,h⟩:=Option.bind_eq_some_iff.1 h;injection h with h;subst h
  obtain⟨h3,h4⟩:=gu g l h2;refine⟨by simp[h3],λi hi=>?_⟩
  cases i with
  |zero=>simpa using h1
  |succ i=>simpa using h4 i (by simpa using hi)
def ze{α:Type}(g:Nat→Option α)(m:Nat){cs:List α}(h:(List.range m).mapM g=some cs):cs.length=m∧∀i,i<m→g i=cs[i]?:=by
 obtain⟨h1,h2⟩:=gu g _ h;rw[List.length_range]at h1;exact⟨h1,λi hi=>by have:=h2 i (by simpa using hi);simpa using this⟩
def YD{w:World}{base:Nat}{a:Addr}{m:Nat}{cs:List Value}(h:w.cells? base a m=some cs):cs.length=m∧∀i,i<m→w.cell? (a.add i)=cs[i]?:=by
 unfold World.cells? at h
 split at h
 ·exact ze _ _ h
 ·cases h
def Qat{α:Type}{P:Program}{e:TypeId}{m:Nat}{c:α→List AV}{ok:α→Prop}(hm:0<m)(he:Rd P e c ok)(hl:∀x,(c x).length=m){H:Type}{enc:TypeId×Value→H}{w:World}{base:Nat}{spare:Nat→Bool}{held:Bool}{fuel:Nat}{bl:Nat} :
  ∀(len off:Nat) (elems:List (DataW H×List MemPlace)),elems.length=len→(∀i,i<len→(w.cells? base ⟨bl,off+i*m,none⟩ m).bind (DataW.trod enc P w base spare held fuel e)=elems[i]?) →
   ∃xs:List α,xs.length=len∧(∀x∈xs,ok x)∧RR w FF EN m bl off (xs.map c) []
 |0,off,elems,_,_=>⟨[],rfl,by simp,by simp[RR]⟩
 |len+1,off,elems,hlen,h=>by
  have h0:=h 0 (by omega)
  rw[List.getElem?_eq_getElem (by omega)]at h0
  obtain⟨cs,h1,h2⟩:=Option.bind_eq_some_iff.1 h0;simp only[Nat.zero_mul,Nat.add_zero]at h1;obtain⟨y,hy,hX,ho⟩:=he.rd h2;obtain⟨h3,h4⟩:=YD h1;obtain⟨xs,g1,g2,g3⟩:=Qat hm he hl len (off+m) elems.tail (by simp[hlen]) (λi hi=>by
   have:=h (i+1) (by omega)
   rw[show off+m+i*m=off+(i+1)*m by rw[Nat.succ_mul];omega,this,List.getElem?_tail])
  refine⟨y::xs,by simp[g1],by simp only[List.mem_cons];rintro x (rfl|hx);exact hy;exact g2 x hx,?_⟩
  simp only[List.map_cons,RR];refine⟨[],[],rfl,hl y,?_,g3⟩;refine ci (vs:=cs) (λi hi=>?_) ho hX
  rw[hl]at hi;rw[←h4 i hi,DY]
def Rd.slice{α:Type}{P:Program}{t e:TypeId}{m:Nat}{c:α→List AV}{ok:α→Prop}(ht:P.underlying t=some (.slice e))(hc:P.cellsOf e=m)(hm:0<m)(he:Rd P e c ok)(hl:∀x,(c x).length=m) :
  Rd P t (λxs:List α=>[.imm m (xs.map c)]) (okL ok) :=
 ⟨λ{H enc w base spare held fuel cs x} h=>by
  rcases DataW.trod_slice ht h with⟨rfl,_⟩|⟨a,len,cap,elems,rest,n,_,rfl,_,hb,hlc,hmx,hlen,hel,_,_⟩
  ·refine⟨[],⟨Nat.zero_le _,by simp⟩,KW ?_,by simp[VI]⟩
   simp only[XR,List.map_nil,List.length_nil];exact⟨trivial,none,0,rfl,Qg _,.inl trivial⟩
  ·cases len with
   |zero =>
    refine⟨[],⟨Nat.zero_le _,by simp⟩,KW ?_,by simp[VI]⟩
    simp only[XR,List.map_nil,List.length_nil];exact⟨trivial,some a,cap,rfl,Nat.zero_le _,.inl trivial⟩
   |succ len =>
    have h0:=hel 0 (by omega)
    rw[List.getElem?_eq_getElem (by omega)]at h0
    obtain⟨cs,h1,h2⟩:=Option.bind_eq_some_iff.1 h0;rw[hc]at h1;obtain⟨h3,h4⟩:=YD h1;have h5:=h4 0 hm;simp only[Nat.zero_mul,Addr.add,if_true]at h5;rw[List.getElem?_eq_getElem (by omega)]at h5
    obtain⟨bl,off,sp⟩:=a;have hsp:sp=none:=by
     cases sp with
     |none=>rfl
     |some s =>
      unfold World.cell? at h5
      split at h5<;>simp at h5
    subst hsp;have hlt:=zG h5;obtain⟨xs,g1,g2,g3⟩:=Qat hm he hl (len+1) off elems hlen (λi hi=>by
     have:=hel i hi;rw[hc,DY]at this;exact this)
    refine⟨xs,⟨by unfold maxLen at hmx;omega,g2⟩,KW ?_,by simp[VI]⟩
    simp only[XR,List.length_map];exact⟨trivial,_,cap,by rw[g1],by omega,.inr ⟨bl,off,rfl,λh=>h,hlt,g3⟩⟩⟩
structure Rf {α:Type} (P:Program) (ts:List (TypeId×Nat)) (c:α→List AV) (ok:α→Prop):Prop where
 rd:∀{H:Type} {enc:TypeId×Value→H} {w:World} {base:Nat} {spare:Nat→Bool} {held:Bool} {fuel:Nat} {cs:List Value},cs.length=(ts.map (·.2)).sum →
  (∀(pre suf:List (TypeId×Nat)) (t:TypeId) (m:Nat),ts=pre++(t,m)::suf→∃x,DataW.trod enc P w base spare held fuel t ((cs.drop ((pre.map (·.2)).sum)).take m)=some x) →
  ∃y:α,ok y∧XRs w FF EN (c y) cs []∧∀v∈cs,VI v=true
def Rf.nil(P:Program):Rf P [] (λ_:Unit=>[]) (λ_=>True):=⟨λh _=>by
 rw[List.map_nil,List.sum_nil,List.length_eq_zero_iff]at h;subst h;exact⟨(),trivial,by simp[XRs],by simp⟩⟩
def Rf.cons{α β:Type}{P:Program}{t:TypeId}{m:Nat}{ts:List (TypeId×Nat)}{c:α→List AV}{ok:α→Prop}{c':β→List AV}{ok':β→Prop}(h:Rd P t c ok)(h':Rf P ts c' ok') :
  Rf P ((t,m)::ts) (λx:α×β=>c x.1++c' x.2) (λx=>ok x.1∧ok' x.2):=⟨λ{H enc w base spare held fuel cs} hl hf=>by
 obtain⟨x,hx⟩:=hf [] ts t m rfl;simp only[List.map_nil,List.sum_nil,List.drop_zero]at hx;obtain⟨y,h1,h2,h3⟩:=h.rd hx;simp only[List.map_cons,List.sum_cons]at hl;obtain⟨z,h4,h5,h6⟩:=h'.rd (enc:=enc) (w:=w) (base:=base) (spare:=spare) (held:=held) (fuel:=fuel) (cs:=cs.drop m) (by simp;omega) (λpre suf t' m' he=>by
  obtain⟨x',hx'⟩:=hf ((t,m)::pre) suf t' m' (by rw[he];rfl)
  refine⟨x',?_⟩;rw[←hx',List.drop_drop];simp only[List.map_cons,List.sum_cons])
 refine⟨(y,z),⟨h1,h4⟩,?_,λv hv=>?_⟩
 ·have:=Zg h2 h5
  rw[List.take_append_drop]at this;exact this
 ·rw[←List.take_append_drop m cs]at hv
  rcases List.mem_append.1 hv with hv|hv
  ·exact h3 v hv
  ·exact h6 v hv⟩
def ky(P:Program):List Field→Nat→List (TypeId×Nat)→Bool
 |[],_,[]=>true
 |f::fs,o,(t,m)::ts=>f.type==t&&P.cellsOf t==m&&f.offset==o&&ky P fs (o+m) ts
 |_,_,_=>false
def gO{P:Program}:∀{fs:List Field} {o:Nat} {ts:List (TypeId×Nat)},ky P fs o ts=true→∀{pre suf:List (TypeId×Nat)} {t:TypeId} {m:Nat},ts=pre++(t,m)::suf →
  ∃f,fs[pre.length]?=some f∧f.type=t∧P.cellsOf t=m∧f.offset=o+(pre.map (·.2)).sum
 |[],o,ts,h,pre,suf,t,m,he=>by
  cases ts with
  |nil=>cases pre<;>cases he
  |cons=>cases h
 |f::fs,o,[],h,pre,suf,t,m,he=>by cases h
 |f::fs,o,(t0,m0)::ts,h,pre,suf,t,m,he=>by
  simp only[ky,Bool.and_eq_true,beq_iff_eq]at h;obtain⟨⟨⟨h1,h2⟩,h3⟩,h4⟩:=h;cases pre with
  |nil=>injection he with e1 e2;injection e1 with e1 e3;subst e1 e3;exact⟨f,rfl,h1,h2,by simpa using h3⟩
  |cons p pre =>
   injection he with e1 e2
   obtain⟨g,g1,g2,g3,g4⟩:=gO h4 e2;refine⟨g,by simpa using g1,g2,g3,?_⟩
   rw[g4,←e1];simp[Nat.add_assoc]
def Rd.struct{α:Type}{P:Program}{t:TypeId}{fs:Array Field}{ts:List (TypeId×Nat)}{c:α→List AV}{ok:α→Prop}(ht:P.underlying t=some (.struct fs))(hf:ky P fs.toList 0 ts=true)(hs:P.cellsOf t=(ts.map (·.2)).sum)(h:Rf P ts c ok) :
  Rd P t c ok:=⟨λ{H enc w base spare held fuel cs x} hx=>by
 obtain⟨xs,n,_,_,hl,hlen,hel⟩:=DataW.trod_struct ht hx;refine h.rd (enc:=enc) (w:=w) (base:=base) (spare:=spare) (held:=held) (fuel:=n) (hl.trans hs) λpre suf t' m he=>?_
 obtain⟨f,h1,h2,h3,h4⟩:=gO hf he;have h5:=hel pre.length f (by rw[←Array.getElem?_toList];exact h1)
 rw[h2,h3,h4,Nat.zero_add]at h5;have hlt:pre.length<xs.length:=by
  rw[hlen]
  rcases Nat.lt_or_ge pre.length fs.size with h|h
  ·exact h
  ·rw[List.getElem?_eq_none (by simpa using h)]at h1;cases h1
 rw[h5,List.getElem?_eq_getElem hlt];exact⟨_,rfl⟩⟩
structure Rv {α:Type} (P:Program) (t:TypeId) (av:α→AV) (ok:α→Prop):Prop where
 rd:∀{H:Type} {enc:TypeId×Value→H} {w:World} {base b0:Nat} {spare:Nat→Bool} {held:Bool} {v:Value} {d:DataW H} {p:List MemPlace},Value.okWide P w .any b0 t v→DataW.Trod enc P w base spare held t v d p→∃y:α,ok y∧XR w FF EN (av y) v []
def cl{w:World}{O:Nat→Prop}{E:EI}{a:AV}{v:Value}(h:XRs w O E [a] [v] []):XR w O E a v []:=by
 simp only[XRs]at h;obtain⟨v',vs',n1,n2,h1,h2,h3,_⟩:=h;obtain⟨rfl,rfl⟩:=List.append_eq_nil_iff.1 h2.symm;injection h1 with h1;subst h1;exact h3
def Rv.int{P:Program}{t:TypeId}{k:IntKind}(ht:P.underlying t=some (.int k)):Rv P t (λx:Int=>.i k x) (inK k):=⟨λho h=>by
 obtain⟨n,rfl,_,_,h2⟩:=open_int ht ho h;simp only[Lit.wf,Bool.and_eq_true,decide_eq_true_eq]at h2;exact⟨n,h2,by simp[XR]⟩⟩
def Rv.bool{P:Program}{t:TypeId}(ht:P.underlying t=some .bool):Rv P t (λx:Bool=>.b x) (λ_=>True):=⟨λho h=>by
 obtain⟨b,rfl⟩:=okWide_bool ht ho;exact⟨b,trivial,by simp[XR]⟩⟩
def Rv.str{P:Program}{t:TypeId}(ht:P.underlying t=some .string):Rv P t (λx:List UInt8=>.s x) sU:=⟨λho h=>by
 obtain⟨s,rfl⟩:=okWide_string ht ho;obtain⟨fuel,hf⟩:=h;obtain⟨y,h1,h2,_⟩:=(Rd.str ht).rd hf;exact⟨y,h1,cl h2⟩⟩
def Rv.slice{α:Type}{P:Program}{t e:TypeId}{m:Nat}{c:α→List AV}{ok:α→Prop}(ht:P.underlying t=some (.slice e))(h:Rd P t (λxs:List α=>[.imm m (xs.map c)]) (okL ok)) :
  Rv P t (λxs:List α=>.imm m (xs.map c)) (okL ok):=⟨λho hd=>by
 obtain⟨a,len,cap,rfl⟩:=okWide_slice ht ho;obtain⟨fuel,hf⟩:=hd;obtain⟨y,h1,h2,_⟩:=h.rd hf;exact⟨y,h1,cl h2⟩⟩
def Rv.struct{α:Type}{P:Program}{t:TypeId}{fs:Array Field}{c:α→List AV}{ok:α→Prop}(ht:P.underlying t=some (.struct fs))(h:Rd P t c ok):Rv P t (λx:α=>.agg (c x)) ok:=⟨λho hd=>by
 obtain⟨cs,rfl,_⟩:=okWide_struct ht ho;obtain⟨fuel,hf⟩:=hd;obtain⟨y,h1,h2,_⟩:=h.rd hf;exact⟨y,h1,by simp only[XR];exact⟨cs,rfl,h2⟩⟩⟩
def PC.law[Wd]{P:Program}{g:FuncId}{args:List AV}(h:PC P g args (·=.b true)){w:World}{vs:List Value}(hI:Wd.I w)(hv:XRs w FF EN args vs []) :
  Calls P g vs.toArray w λe w'=>e=.returned (.bool true)∧Go.RowKit.Below w.heap.size w w' :=
 (h.2 w vs hI hv).mono λe w' ⟨v,x,nb,h1,h2,h3,h4,h5,h6⟩=>by
  subst h2;simp only[XR]at h3;rw[h1,h3.1];exact⟨rfl,h6.below (λ_ h=>h)⟩
end Go.Proofs.YtfhnbabcbhgffaaGreatDoor.Am
