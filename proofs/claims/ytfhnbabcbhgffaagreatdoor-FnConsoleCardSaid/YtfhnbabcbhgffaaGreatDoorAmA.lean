import Derived.Calls
import Derived.OrdersHeld
import Derived.Below
import Derived.Test.YtfhnbabcbhgffaaGreatDoorPw
set_option linter.unusedVariables false
set_option linter.unusedSimpArgs false
set_option linter.defProp false
namespace Go.Proofs.YtfhnbabcbhgffaaGreatDoor.Am
open Go
inductive AV where
 |u
 |b (x:Bool)
 |i (k:IntKind) (n:Int)
 |s (x:List UInt8)
 |nil
 |z
 |imm (n:Nat) (rows:List (List AV))
 |own (n:Nat) (rows:List (List AV))
 |sl (j:Nat)
 |ptr (j i o:Nat)
 |iptr (n:Nat) (rows:List (List AV)) (i o:Nat)
 |agg (cs:List AV)
 |tup (vs:List AV)
 |clo (f:Nat) (caps:List AV)
inductive QE where
 |box (cs:List AV)
 |lst (n:Nat) (rows:List (List AV))
def QE.n:QE→Nat
 |.box cs=>cs.length
 |.lst n _=>n
def QE.rows:QE→List (List AV)
 |.box cs=>[cs]
 |.lst _ rows=>rows
abbrev Fr:=Nat→AV
abbrev KS:=List (Option QE)
def kg(K:KS)(j:Nat):Option QE:=K.getD j none
structure EI where
 sz:Nat
 of:Nat→Option (Option Nat×Nat×Nat)
def EN:EI:=⟨0,λ_=>none⟩
def Whole(w:World)(b m:Nat):Prop:=∃c el,w.heap[b]?=some (.cells c el (0,0))∧m≤c.size
def VI:Value→Bool
 |.agg _|.tuple _=>false
 |_=>true
mutual
def XR(w:World)(O:Nat→Prop)(E:EI):AV→Value→List Nat→Prop
 |.u,_,nb=>nb=[]
 |.b x,v,nb=>v=.bool x∧nb=[]
 |.i k n,v,nb=>v=.int k n∧nb=[]
 |.s x,v,nb=>v=.string ⟨x.toArray⟩∧nb=[]
 |.nil,v,nb=>(∃a,v=.slice a 0 0)∧nb=[]
 |.z,v,nb=>(∃a l c,v=.slice a l c)∧nb=[]
 |.imm n rows,v,nb=>nb=[]∧∃a cap,v=.slice a rows.length cap∧rows.length≤cap ∧
   (rows=[]∨∃bl off,a=some ⟨bl,off,none⟩∧¬O bl∧bl<w.heap.size∧RR w O EN n bl off rows [])
 |.own n rows,v,nb=>(rows=[]∧(∃a,v=.slice a 0 0)∧nb=[])∨∃bl n' cap,nb=bl::n'∧v=.slice (some ⟨bl,0,none⟩) rows.length cap∧rows.length≤cap∧Whole w bl (cap*n)∧RR w O EN n bl 0 rows n'
 |.sl j,v,nb=>nb=[]∧j<E.sz∧(∀n len,E.of j=some (none,n,len)→∃a,v=.slice a 0 0)∧∀bl n len,E.of j=some (some bl,n,len) →
   ∃cap,v=.slice (some ⟨bl,0,none⟩) len cap∧len≤cap∧Whole w bl (cap*n)
 |.ptr j i o,v,nb=>nb=[]∧j<E.sz∧(∀n len,E.of j≠some (none,n,len))∧∀bl n len,E.of j=some (some bl,n,len)→v=.pointer (some ⟨bl,i*n+o,none⟩)
 |.iptr n rows i o,v,nb=>nb=[]∧∃bl off,v=.pointer (some ⟨bl,off+(i*n+o),none⟩)∧¬O bl∧bl<w.heap.size∧RR w O EN n bl off rows []
 |.agg cs,v,nb=>∃vs,v=.agg vs∧XRs w O E cs vs.toList nb
 |.tup cs,v,nb=>∃vs,v=.tuple vs∧XRs w O E cs vs.toList nb
 |.clo f cs,v,nb=>nb=[]∧∃vs,v=.func (.func f) #[] vs∧XRs w O E cs vs.toList []
def XRs(w:World)(O:Nat→Prop)(E:EI):List AV→List Value→List Nat→Prop
 |[],vs,nb=>vs=[]∧nb=[]
 |c::cs,vs,nb=>∃v vs' n1 n2,vs=v::vs'∧nb=n1++n2∧XR w O E c v n1∧XRs w O E cs vs' n2
def CR(w:World)(O:Nat→Prop)(E:EI)(bl:Nat)(o:Nat):List AV→List Nat→Prop
 |[],nb=>nb=[]
 |c::cs,nb=>∃v n1 n2,(w.cell? ⟨bl,o,none⟩=some v∧VI v=true)∧nb=n1++n2∧XR w O E c v n1∧CR w O E bl (o+1) cs n2
def RR(w:World)(O:Nat→Prop)(E:EI)(n:Nat)(bl:Nat)(off:Nat):List (List AV)→List Nat→Prop
 |[],nb=>nb=[]
 |r::rs,nb=>∃n1 n2,nb=n1++n2∧r.length=n∧CR w O E bl off r n1∧RR w O E n bl (off+n) rs n2
end
structure Same (O:Nat→Prop) (E:EI) (w:World) (O':Nat→Prop) (E':EI) (w':World):Prop where
 size:w.heap.size≤w'.heap.size
 out:∀bl,¬O bl→bl<w.heap.size→w'.heap[bl]?=w.heap[bl]?
 bar:∀bl,¬O bl→bl<w.heap.size→¬O' bl
 sz:E.sz≤E'.sz
 ei:∀j p,j<E.sz→E'.of j=some p→E.of j=some p
 who:∀j bl n len m,j<E.sz→E'.of j=some (some bl,n,len)→Whole w bl m→Whole w' bl m
def zG{w:World}{bl o:Nat}{s:Option Nat}{v:Value}(h:w.cell? ⟨bl,o,s⟩=some v):bl<w.heap.size:=by
 unfold World.cell? at h
 rcases Nat.lt_or_ge bl w.heap.size with h'|h'
 ·exact h'
 ·rw[Array.getElem?_eq_none h']at h;cases h
def KQ{w w':World}{bl o:Nat}{s:Option Nat}(h:w'.heap[bl]?=w.heap[bl]?):w'.cell? ⟨bl,o,s⟩=w.cell? ⟨bl,o,s⟩:=by
 unfold World.cell?;rw[h]
def Whole.lt{w:World}{b m:Nat}(h:Whole w b m):b<w.heap.size:=by
 obtain⟨c,el,h,_⟩:=h
 rcases Nat.lt_or_ge b w.heap.size with h'|h'
 ·exact h'
 ·rw[Array.getElem?_eq_none h']at h;cases h
def Whole.same{w w':World}{b m:Nat}(h:w'.heap[b]?=w.heap[b]?)(hw:Whole w b m):Whole w' b m:=by
 obtain⟨c,el,h1,h2⟩:=hw;exact⟨c,el,h▸h1,h2⟩
def Whole.le{w:World}{b m m':Nat}(h:Whole w b m)(hm:m'≤m):Whole w b m':=by
 obtain⟨c,el,h1,h2⟩:=h;exact⟨c,el,h1,by omega⟩
def Same.en{O O':Nat→Prop}{E E':EI}{w w':World}(h:Same O E w O' E' w'):Same O EN w O' EN w' :=
 ⟨h.size,h.out,h.bar,Qg _,λ_ _ h=>(by cases h),λ_ _ _ _ _ h=>by cases h⟩
mutual
theorem XR.mono{O O':Nat→Prop}{w w':World}:∀(a:AV) {E E':EI} (h:Same O E w O' E' w') (v:Value) (nb:List Nat),(∀b∈nb,w'.heap[b]?=w.heap[b]?)→XR w O E a v nb→XR w' O' E' a v nb
 |.u,_,_,_,_,_,_,h=>h
 |.b _,_,_,_,_,_,_,h=>by simpa only[XR]using h
 |.i _ _,_,_,_,_,_,_,h=>by simpa only[XR]using h
 |.s _,_,_,_,_,_,_,h=>by simpa only[XR]using h
 |.nil,_,_,_,_,_,_,h=>by simpa only[XR]using h
 |.z,_,_,_,_,_,_,h=>by simpa only[XR]using h
 |.imm n rows,E,E',hs,v,nb,hn,h=>by
  simp only[XR]at h ⊢;obtain⟨h0,a,cap,h1,h2,h3⟩:=h;refine⟨h0,a,cap,h1,h2,?_⟩
  rcases h3 with h3|⟨bl,off,h3,h4,hl,h5⟩
  ·exact .inl h3
  ·exact .inr ⟨bl,off,h3,hs.bar _ h4 hl,Nat.lt_of_lt_of_le hl hs.size,RR.mono rows hs.en bl off [] (hs.out _ h4 hl) (by simp) h5⟩
 |.own n rows,E,E',hs,v,nb,hn,h=>by
  simp only[XR]at h ⊢
  rcases h with h|⟨bl,n',cap,h0,h1,h2,h3,h4⟩
  ·exact .inl h
  subst h0;have hb:=hn bl (by simp)
  exact .inr ⟨bl,n',cap,rfl,h1,h2,h3.same hb,RR.mono rows hs.en bl 0 n' hb (λb hb=>hn b (by simp[hb])) h4⟩
 |.sl j,E,E',hs,v,nb,hn,h=>by
  simp only[XR]at h ⊢;refine⟨h.1,Nat.lt_of_lt_of_le h.2.1 hs.sz,λn len he=>h.2.2.1 n len (hs.ei _ _ h.2.1 he),λbl n len he=>?_⟩
  obtain⟨cap,h1,h2,h3⟩:=h.2.2.2 bl n len (hs.ei _ _ h.2.1 he);exact⟨cap,h1,h2,hs.who _ _ _ _ _ h.2.1 he h3⟩
 |.ptr j i o,E,E',hs,v,nb,hn,h=>by
  simp only[XR]at h ⊢;exact⟨h.1,Nat.lt_of_lt_of_le h.2.1 hs.sz,λn len he=>h.2.2.1 n len (hs.ei _ _ h.2.1 he),λbl n len he=>h.2.2.2 bl n len (hs.ei _ _ h.2.1 he)⟩
 |.iptr n rows i o,E,E',hs,v,nb,hn,h=>by
  simp only[XR]at h ⊢;obtain⟨h0,bl,off,h1,h4,hl,h5⟩:=h;exact⟨h0,bl,off,h1,hs.bar _ h4 hl,Nat.lt_of_lt_of_le hl hs.size,RR.mono rows hs.en bl off [] (hs.out _ h4 hl) (by simp) h5⟩
 |.agg cs,E,E',hs,v,nb,hn,h=>by
  simp only[XR]at h ⊢;obtain⟨vs,h1,h2⟩:=h;exact⟨vs,h1,XRs.mono cs hs _ _ hn h2⟩
 |.tup cs,E,E',hs,v,nb,hn,h=>by
  simp only[XR]at h ⊢;obtain⟨vs,h1,h2⟩:=h;exact⟨vs,h1,XRs.mono cs hs _ _ hn h2⟩
 |.clo f cs,E,E',hs,v,nb,hn,h=>by
  simp only[XR]at h ⊢;obtain⟨h0,vs,h1,h2⟩:=h;exact⟨h0,vs,h1,XRs.mono cs hs _ _ (by simp) h2⟩
theorem XRs.mono{O O':Nat→Prop}{w w':World}:∀(cs:List AV) {E E':EI} (h:Same O E w O' E' w') (vs:List Value) (nb:List Nat),(∀b∈nb,w'.heap[b]?=w.heap[b]?)→XRs w O E cs vs nb→XRs w' O' E' cs vs nb
 |[],_,_,_,_,_,_,h=>by simpa only[XRs]using h
 |c::cs,E,E',hs,vs,nb,hn,h=>by
  simp only[XRs]at h ⊢;obtain⟨v,vs',n1,n2,h1,h2,h3,h4⟩:=h;subst h2;exact⟨v,vs',n1,n2,h1,rfl,XR.mono c hs _ _ (λb hb=>hn b (by simp[hb])) h3,XRs.mono cs hs _ _ (λb hb=>hn b (by simp[hb])) h4⟩
theorem CR.mono{O O':Nat→Prop}{w w':World}:∀(cs:List AV) {E E':EI} (h:Same O E w O' E' w') (bl o:Nat) (nb:List Nat),w'.heap[bl]?=w.heap[bl]?→(∀b∈nb,w'.heap[b]?=w.heap[b]?)→CR w O E bl o cs nb→CR w' O' E' bl o cs nb
 |[],_,_,_,_,_,_,_,_,h=>by simpa only[CR]using h
 |c::cs,E,E',hs,bl,o,nb,hb,hn,h=>by
  simp only[CR]at h ⊢;obtain⟨v,n1,n2,h1,h2,h3,h4⟩:=h;subst h2;exact⟨v,n1,n2,⟨by rw[KQ hb];exact h1.1,h1.2⟩,rfl,XR.mono c hs _ _ (λb hb=>hn b (by simp[hb])) h3,CR.mono cs hs _ _ _ hb (λb hb=>hn b (by simp[hb])) h4⟩
theorem RR.mono{O O':Nat→Prop}{w w':World}:∀(rs:List (List AV)) {E E':EI} {n:Nat} (h:Same O E w O' E' w') (bl off:Nat) (nb:List Nat),w'.heap[bl]?=w.heap[bl]?→(∀b∈nb,w'.heap[b]?=w.heap[b]?)→RR w O E n bl off rs nb→RR w' O' E' n bl off rs nb
 |[],_,_,_,_,_,_,_,_,_,h=>by simpa only[RR]using h
 |r::rs,E,E',n,hs,bl,off,nb,hb,hn,h=>by
  simp only[RR]at h ⊢;obtain⟨n1,n2,h1,h2,h3,h4⟩:=h;subst h1;exact⟨n1,n2,rfl,h2,CR.mono r hs _ _ _ hb (λb hb=>hn b (by simp[hb])) h3,RR.mono rs hs _ _ _ hb (λb hb=>hn b (by simp[hb])) h4⟩
end
abbrev Dl:=Nat→Option Nat×List Nat
def fp(ρ:Dl)(j:Nat):List Nat:=(ρ j).1.toList++(ρ j).2
def ED{ρ:Dl}{j b:Nat}(h:(ρ j).1=some b):b∈fp ρ j:=by simp[fp,h]
def FO{ρ:Dl}{j b:Nat}(h:b∈(ρ j).2):b∈fp ρ j:=by simp[fp,h]
def EK(K:KS)(ρ:Dl):EI:=⟨K.length,λj=>(kg K j).map λe=>((ρ j).1,e.n,e.rows.length)⟩
def QE.E(E:EI):QE→EI
 |.box _=>E
 |.lst _ _=>EN
def QE.isBox:QE→Bool
 |.box _=>true
 |.lst _ _=>false
def Reg(w:World)(O:Nat→Prop)(E:EI)(e:QE)(b:Option Nat)(nb:List Nat):Prop :=
 match b with
 |some b=>Whole w b (e.rows.length*e.n)∧RR w O (e.E E) e.n b 0 e.rows nb∧(e.isBox=true→nb=[])
 |none=>e.rows=[]∧nb=[]
structure Sees (w:World) (O:Nat→Prop) (K:KS) (ρ:Dl):Prop where
 reg:∀j e,kg K j=some e→Reg w O (EK K ρ) e (ρ j).1 (ρ j).2
 nd:∀j e,kg K j=some e→(fp ρ j).Nodup
 lt:∀j e b,kg K j=some e→b∈fp ρ j→b<w.heap.size
 dj:∀j e k e' b,kg K j=some e→kg K k=some e'→j≠k→b∈fp ρ j→b∉fp ρ k
def OO(K:KS)(ρ:Dl)(Y:Nat→Prop):Nat→Prop:=λb=>Y b∨∃j e,kg K j=some e∧b∈fp ρ j
structure Ext (F:Nat→Prop) (w w':World):Prop where
 os:w'.os=w.os
 tape:w'.tape=w.tape
 output:w'.output=w.output
 size:w.heap.size≤w'.heap.size
 block:∀b,b<w.heap.size→¬F b→w'.heap[b]?=w.heap[b]?
 who:∀b m,Whole w b m→Whole w' b m
def Ext.refl(F:Nat→Prop)(w:World):Ext F w w:=⟨rfl,rfl,rfl,Qg _,λ_ _ _=>rfl,λ_ _ h=>h⟩
def Ext.of_below{w w':World}(h:Go.RowKit.Below w.heap.size w w')(F:Nat→Prop):Ext F w w':=⟨h.os,h.tape,h.output,h.size,λb hb _=>h.block b hb,λb m hw=>hw.same (h.block b hw.lt)⟩
def Ext.trans{F G H:Nat→Prop}{a b c:World}(h:Ext F a b)(k:Ext G b c)(hF:∀x,F x→H x)(hG:∀x,x<a.heap.size→G x→H x):Ext H a c :=
 ⟨k.os.trans h.os,k.tape.trans h.tape,k.output.trans h.output,Nat.le_trans h.size k.size,λi hi hn =>
  (k.block i (Nat.lt_of_lt_of_le hi h.size) (λg=>hn (hG i hi g))).trans (h.block i hi (λf=>hn (hF i f))),λb m hw=>k.who b m (h.who b m hw)⟩
def Ext.below{w w':World}{F:Nat→Prop}(h:Ext F w w')(hF:∀b,¬F b):Go.RowKit.Below w.heap.size w w' :=
 ⟨h.os,h.tape,h.output,h.size,λk hk=>h.block k hk (hF k)⟩
def Reg.at{O:Nat→Prop}{E:EI}{w:World}{e:QE}{b:Option Nat}{nb:List Nat}{bl:Nat}(hb:b=some bl)
  (h:Whole w bl (e.rows.length*e.n)∧RR w O (e.E E) e.n bl 0 e.rows nb∧(e.isBox=true→nb=[])):Reg w O E e b nb:=by
 subst hb;exact h
def Reg.mono{O O':Nat→Prop}{E E':EI}{w w':World}{e:QE}{b:Option Nat}{nb:List Nat}(hE:Same O (e.E E) w O' (e.E E') w')(hb:∀x,b=some x→w'.heap[x]?=w.heap[x]?)
  (hn:∀x∈nb,w'.heap[x]?=w.heap[x]?) (h:Reg w O E e b nb):Reg w' O' E' e b nb:=by
 cases b with
 |none=>exact h
 |some b=>exact⟨h.1.same (hb b rfl),RR.mono _ hE _ _ _ (hb b rfl) hn h.2.1,h.2.2⟩
structure NE where
 n:Nat
 E:EI
def xA(E E':EI):Prop:=E.sz≤E'.sz∧∀j p,j<E.sz→E'.of j=some p→E.of j=some p
def Same.keep{O O':Nat→Prop}{E E' E0:EI}{w w':World}(h:Same O E w O' E' w')(hk:xA E0 E):xA E0 E' :=
 ⟨Nat.le_trans hk.1 h.sz,λj p hj hp=>hk.2 j p hj (h.ei j p (Nat.lt_of_lt_of_le hj hk.1) hp)⟩
class Wd:Type where
 I:World→Prop
 keep:∀{w w':World},Ext (λ_=>False) w w'→I w→I w'
structure Sim [Wd] (n:NE) (Y:Nat→Prop) (w0:World) (F0:Nat→Prop) (ρ:Dl) (f:Fr) (K:KS) (a:Act) (w:World):Prop where
 defers:a.defers=[]
 size:a.tmps.size=n.n
 keep:xA n.E (EK K ρ)
 fr:∀t,XR w (OO K ρ Y) (EK K ρ) (f t) (a.tmps.getD t undef) []
 sees:Sees w (OO K ρ Y) K ρ
 ext:Ext F0 w0 w
 new:∀j e b,kg K j=some e→b∈fp ρ j→F0 b∨w0.heap.size≤b
 yl:(∀b,Y b→b<w0.heap.size∧¬F0 b)∧∀w',Ext F0 w0 w'→Wd.I w'
def Sim.lift[Wd]{n:NE}{Y:Nat→Prop}{w0:World}{F0:Nat→Prop}{ρ ρ':Dl}{f:Fr}{K K':KS}{a:Act}{w w':World}(h:Sim n Y w0 F0 ρ f K a w)
  (hs:Same (OO K ρ Y) (EK K ρ) w (OO K' ρ' Y) (EK K' ρ') w') (J:Nat)
  (hold:∀j e,kg K' j=some e→j≠J→kg K j=some e∧ρ' j=ρ j∧∀b∈fp ρ j,w'.heap[b]?=w.heap[b]?)
  (hnew:∀e,kg K' J=some e→Reg w' (OO K' ρ' Y) (EK K' ρ') e (ρ' J).1 (ρ' J).2∧(fp ρ' J).Nodup∧(∀b∈fp ρ' J,b<w'.heap.size∧(w.heap.size≤b∨∃i e',kg K i=some e'∧b∈fp ρ i∧(i=J∨kg K' i=none))))
  (hext:Ext F0 w0 w'):Sim n Y w0 F0 ρ' f K' a w':=by
 have hlt:∀j e,kg K j=some e→kg K' j=some e→∀b∈fp ρ j,b<w.heap.size:=λj e hj _ b hb=>h.sees.lt j e b hj hb
 refine⟨h.defers,h.size,hs.keep h.keep,λt=>XR.mono (f t) hs _ _ (by simp) (h.fr t),⟨?_,?_,?_,?_⟩,hext,?_,h.yl⟩
 ·intro j e hj
  by_cases hJ:j=J
  ·subst hJ;exact(hnew e hj).1
  ·obtain⟨h1,h2,h3⟩:=hold j e hj hJ
   have hr:=h.sees.reg j e h1;rw[h2];have hE:Same (OO K ρ Y) (e.E (EK K ρ)) w (OO K' ρ' Y) (e.E (EK K' ρ')) w':=by
    cases e with
    |box cs=>exact hs
    |lst n rows=>exact hs.en
   exact Reg.mono hE (λb hb=>h3 b (ED hb)) (λb hb=>h3 b (FO hb)) hr
 ·intro j e hj
  by_cases hJ:j=J
  ·subst hJ;exact(hnew e hj).2.1
  ·obtain⟨h1,h2,h3⟩:=hold j e hj hJ
   have:=h.sees.nd j e h1;unfold fp at *;rw[h2];exact this
 ·intro j e b hj hb
  by_cases hJ:j=J
  ·subst hJ;exact((hnew e hj).2.2 b hb).1
  ·obtain⟨h1,h2,h3⟩:=hold j e hj hJ
   unfold fp at hb;rw[h2]at hb;exact Nat.lt_of_lt_of_le (h.sees.lt j e b h1 hb) hs.size
 ·have key:∀k e',kg K' k=some e'→k≠J→∀e,kg K' J=some e→∀b∈fp ρ' J,b∉fp ρ' k:=by
   intro k e' hk hkJ e hJ b hb hbk;obtain⟨h1,h2,h3⟩:=hold k e' hk hkJ;have hbk':b∈fp ρ k:=by unfold fp at hbk ⊢;rw[h2]at hbk;exact hbk
   rcases((hnew e hJ).2.2 b hb).2 with h4|⟨i,e'',h4,h5,h6⟩
   ·have:=h.sees.lt k e' b h1 hbk';omega
   ·have hik:i≠k:=by
     rintro rfl
     rcases h6 with h6|h6
     ·exact hkJ h6
     ·rw[hk]at h6;cases h6
    exact h.sees.dj i e'' k e' b h4 h1 hik h5 hbk'
  intro j e k e' b hj hk hjk hb hbk;by_cases hJ:j=J
  ·subst hJ;exact key k e' hk (Ne.symm hjk) e hj b hb hbk
  ·by_cases hKJ:k=J
   ·subst hKJ;exact key j e hj hjk e' hk b hbk hb
   ·obtain⟨h1,h2,_⟩:=hold j e hj hJ
    obtain⟨h3,h4,_⟩:=hold k e' hk hKJ;unfold fp at hb hbk;rw[h2]at hb;rw[h4]at hbk;exact h.sees.dj j e k e' b h1 h3 hjk hb hbk
 ·intro j e b hj hb
  by_cases hJ:j=J
  ·subst hJ
   rcases((hnew e hj).2.2 b hb).2 with h4|⟨i,e'',h4,h5,_⟩
   ·exact .inr (Nat.le_trans h.ext.size h4)
   ·exact h.new i e'' b h4 h5
  ·obtain⟨h1,h2,h3⟩:=hold j e hj hJ
   unfold fp at hb;rw[h2]at hb;exact h.new j e b h1 hb
end Go.Proofs.YtfhnbabcbhgffaaGreatDoor.Am
namespace Go.Proofs.YtfhnbabcbhgffaaGreatDoor.Am
open Go
abbrev Lk{α:Sort _}(_:α):Type:=Unit
def up(f:Fr)(d:Nat)(v:AV):Fr:=λt=>if t=d then v else f t
def Vm:List (Nat×AV)→Fr
 |[]=>λ_=>.u
 |(d,v)::l=>up (Vm l) d v
def tz(P:Program)(t:TypeId):Option Nat:=(P.info? t).map (·.size)
def tb(P:Program)(t:TypeId):Option Nat:=(P.info? t).map (·.bytes)
def cn(P:Program)(t:TypeId):Option Value:=(P.info? t).bind (·.zero)
inductive TK where
 |agg (n:Nat)|one|bad
def Nk:TypeDesc→Bool
 |.struct _|.array _ _=>true
 |_=>false
def tk(P:Program)(t:TypeId):TK :=
 match P.underlying t with
 |some d=>if Nk d then(match tz P t with|some n=>.agg n|none=>.bad)else if tz P t=some 1 then .one else .bad
 |none=>.bad
def E7(P:Program)(t:TypeId)(i:Nat):Option (Nat×TK) :=
 match P.underlying t with
 |some (.struct fs)=>match fs[i]? with
  |some f=>match tz P f.type with|some (_+1)=>some (f.offset,tk P f.type)|_=>none
  |none=>none
 |_=>none
inductive TI where
 |sl (e:TypeId) (size:Nat)|arr (len:Nat) (e:TypeId) (size:Nat)|str|int (k:IntKind)|bad
def ti(P:Program)(t:TypeId):TI :=
 match P.underlying t with
 |some (.slice e)=>match tz P e with|some n=>.sl e n|none=>.bad
 |some (.array l e)=>match tz P e with|some n=>.arr l e n|none=>.bad
 |some .string=>.str
 |some (.int k)=>.int k
 |_=>.bad
def cv:Value→AV
 |.bool x=>.b x
 |.int k n=>.i k n
 |.string x=>.s x.data.toList
 |.slice none 0 0=>.nil
 |_=>.u
def ev(f:Fr):Operand→AV
 |.tmp t=>f t
 |.const v=>cv v
 |.global _=>.u
 |.func g=>.clo g []
def BI(K:KS):AV→Bool
 |.b _|.i _ _|.s _|.nil|.z|.imm _ _|.iptr _ _ _ _|.clo _ _=>true
 |.sl j|.ptr j _ _=>(kg K j).isSome
 |_=>false
def AV.closed:AV→Bool
 |.b _|.i _ _|.s _|.nil|.imm _ _|.iptr _ _ _ _=>true
 |_=>false
def ld(c:AV):AV:=if c.closed then c else .u
def VJ(rows:List (List AV))(i:Nat):List AV:=rows.getD i []
def Z9(K:KS):AV→List AV
 |.ptr j i o=>match kg K j with
  |some (.box cs)=>if i=0 then cs.drop o else[]
  |some (.lst _ rows)=>((VJ rows i).drop o).map ld
  |none=>[]
 |.iptr _ rows i o=>((VJ rows i).drop o).map ld
 |_=>[]
def QoX(v:AV)(k:AV→Prop)(_:Lk k):Prop:=k v
def KR(K:KS)(k:KS→Prop)(_:Lk k):Prop:=k K
def KZ(p q:Prop)(_:Lk q):Prop:=p∧q
def XBr(b:Bool)(p q:Prop)(_:Lk (p,q)):Prop:=(b=true→p)∧(b=false→q)
def Qa8(v:AV)(p q:Prop)(_:Lk (p,q)):Prop:=match v with|.b x=>XBr x p q ()|_=>False
inductive CK where
 |i|b|s|t
def PO(g:TypeId→Option (List CK))(P:Program):List Field→Nat→Option (List CK)
 |[],_=>some []
 |f::fs,o=>if f.offset=o∧f.name ≠ "_" then match g f.type with
   |some ks=>if tz P f.type=some ks.length then(PO g P fs (o+ks.length)).map (ks++·)else none
   |none=>none
  else none
def ic(P:Program):Nat→TypeId→Option (List CK)
 |0,_=>none
 |d+1,t=>match P.underlying t with
  |some .bool=>some [.b]
  |some (.int _)=>some [.i]
  |some .string=>some [.s]
  |some (.struct fs)=>if P.stoodInHeld t=true then none else PO (ic P d) P fs.toList 0
  |_=>none
def L5(P:Program)(t:TypeId):Option (List CK) :=
 match P.underlying t with
 |some (.struct _)=>if P.eqGuardType P.depth t=true then none else ic P 9 t
 |some .bool=>some [.t]
 |_=>none
def V1:List CK→List AV→List AV→Option Bool
 |[],[],[]=>some true
 |.i::ks,.i k a::xs,.i k' b::ys=>if k=k' then(V1 ks xs ys).map (decide (a=b)&&·)else none
 |.b::ks,.b a::xs,.b b::ys=>(V1 ks xs ys).map (decide (a=b)&&·)
 |.s::ks,.s a::xs,.s b::ys=>(V1 ks xs ys).map (decide (a=b)&&·)
 |_,_,_=>none
def c7(te:Option (List CK))(xs ys:List AV)(k:Bool→Prop)(_:Lk k):Prop :=
 match te with
 |some ks=>match V1 ks xs ys with|some b=>k b|none=>False
 |none=>False
def Mz:BinOp→Bool
 |.shl|.shr=>true
 |_=>false
def ft(te:Option (List CK))(op:BinOp)(x y:AV)(k:AV→Prop)(_:Lk k):Prop :=
 match x,y with
 |.agg xs,.agg ys=>match op with
  |.eql=>c7 te xs ys (λb=>k (.b b)) ()
  |.neq=>c7 te xs ys (λb=>k (.b (!b))) ()
  |_=>False
 |.b a,.b b=>match te,op with
  |some [.t],.eql=>k (.b (decide (a=b)))
  |some [.t],.neq=>k (.b (!decide (a=b)))
  |_,_=>False
 |.i c a,.i d b=>if Mz op=true then KZ (0≤b) (k (.i c (zJ op c a b))) ()else if c=d then match op with
  |.add=>k (.i c (c.wrap (a+b)))|.sub=>k (.i c (c.wrap (a-b)))|.mul=>k (.i c (c.wrap (a*b)))
  |.and=>k (.i c (KC .and c a b))|.or=>k (.i c (KC .or c a b))|.xor=>k (.i c (KC .xor c a b))
  |.quo=>KZ (b≠0) (k (.i c (c.wrap (a.tdiv b)))) ()|.rem=>KZ (b≠0) (k (.i c (a.tmod b))) ()
  |.eql=>k (.b (a==b))|.neq=>k (.b (a != b))|.lss=>k (.b (decide (a<b)))|.leq=>k (.b (decide (a≤b)))
  |.gtr=>k (.b (decide (b<a)))|.geq=>k (.b (decide (b≤a)))
  |_=>False
  else False
 |.s a,.s b=>match op with
  |.add=>KZ (a.length+b.length≤9223372036854775807) (k (.s (a++b))) ()|.eql=>k (.b (a==b))|.neq=>k (.b (a != b))
  |_=>False
 |_,_=>False
def xun(op:UnOp)(x:AV)(k:AV→Prop)(_:Lk k):Prop :=
 match op,x with
 |.not,.b x=>k (.b (!x))
 |.neg,.i c a=>k (.i c (c.wrap (-a)))
 |_,_=>False
def TS(c x y:AV)(k:AV→Prop)(_:Lk k):Prop :=
 match c with
 |.b true=>k x
 |.b false=>k y
 |_=>False
def gG(K:KS)(t:TI)(x:AV)(k:AV→Prop)(_:Lk k):Prop :=
 match t,x with
 |.sl _ _,.nil=>k (.i .i64 0)
 |.sl _ _,.imm _ rows=>k (.i .i64 rows.length)
 |.sl _ _,.sl j=>match kg K j with|some e=>k (.i .i64 e.rows.length)|none=>False
 |.str,.s x=>k (.i .i64 x.length)
 |.arr n _ _,_=>k (.i .i64 n)
 |_,_=>False
def gk(K:KS)(x:AV)(o:Option (Nat×TK))(k:AV→Prop)(_:Lk k):Prop :=
 match x,o with
 |.ptr j i p,some (o,_)=>match kg K j with|some _=>k (.ptr j i (p+o))|none=>False
 |.iptr n rows i p,some (o,_)=>k (.iptr n rows i (p+o))
 |_,_=>False
def eF(K:KS)(t:TI)(x i:AV)(k:AV→Prop)(_:Lk k):Prop :=
 match t,x,i with
 |.sl _ m,.imm n rows,.i _ i=>if m=n then KZ (0≤i∧i<rows.length) (k (.iptr n rows i.toNat 0)) ()else False
 |.sl _ m,.sl j,.i _ i=>match kg K j with
  |some e=>if m=e.n then KZ (0≤i∧i<e.rows.length) (k (.ptr j i.toNat 0)) ()else False
  |none=>False
 |.arr len _ m,.ptr j r o,.i _ i=>match kg K j with
  |some e=>KZ (0≤i∧i<len) (k (.ptr j r (o+i.toNat*m))) ()
  |none=>False
 |_,_,_=>False
def K6(t:TK)(cs:List AV)(k:AV→Prop)(_:Lk k):Prop :=
 match t with
 |.one=>match cs with|c::_=>k c|[]=>False
 |.agg m=>if 0<m∧m≤cs.length then k (.agg (cs.take m))else False
 |.bad=>False
def eT(t:TK)(o:Nat)(x:AV)(k:AV→Prop)(_:Lk k):Prop :=
 match x with
 |.agg cs=>K6 t (cs.drop o) k ()
 |_=>False
def putCells(cs:List AV)(o:Nat)(ds:List AV):List AV:=cs.take o++ds++cs.drop (o+ds.length)
def ct(cs:List AV)(o:Nat)(t:TK)(v:AV)(ok:AV→Bool)(k:List AV→Prop)(_:Lk k):Prop :=
 match t,v with
 |.agg m,.agg ds=>if m=ds.length∧o+m≤cs.length∧ds.all ok=true then k (putCells cs o ds)else False
 |.one,v=>if o<cs.length∧ok v=true then k (cs.set o v)else False
 |_,_=>False
def Ly(K:KS)(t:TK)(p v:AV)(k:KS→Prop)(_:Lk k):Prop :=
 match p with
 |.ptr j i o=>match kg K j with
  |some (.box cs)=>if i=0 then ct cs o t v (BI K) (λcs=>KR (K.set j (some (.box cs))) k ()) ()else False
  |some (.lst n rows)=>if i<rows.length then ct (VJ rows i) o t v AV.closed (λr=>KR (K.set j (some (.lst n (rows.set i r)))) k ()) ()else False
  |none=>False
 |_=>False
def nP(K:KS)(v:AV)(k:AV→KS→Prop)(_:Lk k):Prop :=
 match v with
 |.agg cs=>if cs.all (BI K)=true then KR (K++[some (.box cs)]) (λK'=>k (.ptr K.length 0 0) K') ()else False
 |v=>if BI K v=true then KR (K++[some (.box [v])]) (λK'=>k (.ptr K.length 0 0) K') ()else False
def GS(K:KS):AV→Option (List AV)
 |.agg cs=>some cs
 |v=>if BI K v=true then some [v]else none
def Uw(P:Program)(t:TypeId):Option (List AV):=(cn P t).bind λz=>if(z.cells.toList.map cv).all AV.closed=true then some (z.cells.toList.map cv)else none
def SI(K:KS)(z:Option (List AV))(k:AV→KS→Prop)(_:Lk k):Prop :=
 match z with
 |some cs=>KR (K++[some (.box cs)]) (λK'=>k (.ptr K.length 0 0) K') ()
 |none=>False
def XJ:KS→List AV→Option (KS×List AV)
 |K,[]=>some (K,[])
 |K,.sl j::cs=>match kg K j with
  |some (.lst n rows)=>(XJ (K.set j none) cs).map λp=>(p.1,.own n rows::p.2)
  |_=>none
 |K,c::cs=>if c.closed=true then(XJ K cs).map λp=>(p.1,c::p.2)else none
def pB(n:Nat):AV→AV
 |.nil=>.own n []
 |c=>c
def nz:List Nat→List AV→List AV
 |n::ns,c::cs=>pB n c::nz ns cs
 |_,cs=>cs
def slz(P:Program):Nat→TypeId→List Nat
 |0,_=>[]
 |d+1,t=>match P.underlying t with
  |some (.struct fs)=>(fs.toList.map λf=>slz P d f.type).flatten
  |some (.slice e)=>[(tz P e).getD 0]
  |_=>List.replicate ((tz P t).getD 0) 0
def Is(P:Program)(t:TypeId):List Nat:=match P.underlying t with
 |some (.slice e)=>slz P 9 e
 |_=>[]
def flT(P:Program)(t:TypeId):Bool:=(ic P 9 t).isSome
def C2:AV→List AV
 |.agg ds=>ds
 |v=>[v]
def dh:TK→AV→Nat→Bool
 |.agg m,.agg _,l=>m==l
 |.one,.agg _,_=>false
 |.one,_,l=>l==1
 |_,_,_=>false
def Kh(ns:List Nat)(K:KS)(t:TK)(j i o n:Nat)(rows:List (List AV))(v:AV)(k:KS→Prop)(_:Lk k):Prop :=
 if i<rows.length then match XJ K (C2 v)with
  |some (K1,ds)=>if(kg K1 j).isSome=true∧dh t v ds.length=true∧o+ds.length≤(VJ rows i).length then KR (K1.set j (some (.lst n (rows.set i (putCells (VJ rows i) o (nz ns ds)))))) k ()else False
  |none=>False
 else False
def pC:AV→Bool
 |.nil=>false
 |c=>c.closed
def CL(fl:Bool)(ns:List Nat)(K:KS)(t:TK)(p v:AV)(k:KS→Prop)(_:Lk k):Prop :=
 match p with
 |.ptr j i o=>match kg K j with
  |some (.lst n rows)=>if(C2 v).all pC=true then Ly K t p v k ()else if fl=false then Kh ns K t j i o n rows v k ()else False
  |_=>Ly K t p v k ()
 |_=>False
def DU(K:KS)(place:Nat→Option (Nat×Nat)):List AV→List (Nat×AV)→Option (List AV)
 |cs,[]=>some cs
 |cs,(i,v)::rest=>match place i,GS K v with
  |some (o,m),some ds=>if ds.length=m∧o+m≤cs.length then DU K place (putCells cs o ds) rest else none
  |_,_=>none
def jo(P:Program)(fs:Array Field):Option (List (Nat×Nat)):=fs.toList.mapM λf=>(tz P f.type).map λm=>(f.offset,m)
inductive TB where
 |st (zero:List AV) (jo:List (Nat×Nat))|arr (zero:List AV) (m:Nat)|bad
def UX(P:Program)(t:TypeId):TB :=
 match P.underlying t with
 |some (.struct fs)=>match Uw P t,jo P fs with|some z,some p=>.st z p|_,_=>.bad
 |some (.array _ e)=>match Uw P t,tz P e with|some z,some m=>.arr z m|_,_=>.bad
 |_=>.bad
def Ng(K:KS)(t:TB)(parts:List (Nat×AV))(k:AV→Prop)(_:Lk k):Prop :=
 match t with
 |.st z p=>match DU K (p[·]?) z parts with|some cs=>k (.agg cs)|none=>False
 |.arr z m=>match DU K (λi=>some (i*m,m)) z parts with|some cs=>k (.agg cs)|none=>False
 |.bad=>False
def EO(m:Nat):Nat→List AV→List (List AV)
 |0,_=>[]
 |l+1,cs=>cs.take m::EO m l (cs.drop m)
def Lr(P:Program)(t:TypeId):Option (TypeId×Nat×List AV) :=
 match P.underlying t with
 |some (.slice e)=>match tz P e,Uw P e with|some m,some z=>if z.length=m∧0<m then some (e,m,z)else none|_,_=>none
 |_=>none
def HF(l:Nat)(z:List AV):List AV:=(List.replicate l z).flatten
def F9(ns:List Nat)(K:KS)(t:Option (TypeId×Nat×List AV))(len:Nat)(parts:List (Nat×AV))(k:AV→KS→Prop)(_:Lk k):Prop :=
 match t with
 |some (_,m,z)=>if len=0 then(match parts with|[]=>KR (K++[some (.lst m [])]) (λK'=>k (.sl K.length) K') ()|_=>False)
  else if len*m≤16777216 then match DU K (λi=>some (i*m,m)) (HF len z) parts with
  |some cs=>match XJ K cs with
   |some (K1,cs)=>KR (K1++[some (.lst m ((EO m len cs).map (nz ns)))]) (λK'=>k (.sl K.length) K') ()
   |none=>False
  |none=>False
  else False
 |none=>False
def eG(v:AV)(i:Nat)(k:AV→Prop)(_:Lk k):Prop :=
 match v with
 |.tup cs=>match cs[i]? with|some c=>k c|none=>False
 |_=>False
def GN(K:KS)(m:Nat):AV→Option (List (List AV)×KS)
 |.nil=>some ([],K)
 |.imm n rows=>if n=m then some (rows,K)else none
 |.sl k=>match kg K k with
  |some (.lst n rows)=>if n=m then some (rows,K.set k none)else none
  |_=>none
 |_=>none
def Et(P:Program)(t:TypeId):Bool:=match P.underlying t with|some (.slice _)=>true|some .string=>true|_=>false
def Ip(K:KS)(t:Option (TypeId×Nat×List AV))(bytes:Option Nat)(s x:AV)(k:AV→KS→Prop)(_:Lk k):Prop :=
 match t,bytes with
 |some (_,m,_),some (b+1)=>match GN K m x with
  |some (rows',K1)=>match s with
   |.sl j=>match kg K1 j with
    |some (.lst n rows)=>if n=m then KZ ((rows.length+rows'.length)*(b+1)≤140737488355328) (KR (K1.set j none++[some (.lst m (rows++rows'))]) (λK'=>k (.sl K.length) K') ()) ()else False
    |_=>False
   |.nil=>KZ (rows'.length*(b+1)≤140737488355328) (KR (K1++[some (.lst m rows')]) (λK'=>k (.sl K.length) K') ()) ()
   |_=>False
  |none=>False
 |_,_=>False
def bw(ns:List Nat)(K:KS)(t:Option (TypeId×Nat×List AV))(bytes:Option Nat)(l c:AV)(k:AV→KS→Prop)(_:Lk k):Prop :=
 match t,bytes,l,c with
 |some (_,m,z),some (b+1),.i .i64 l,.i .i64 c =>
  if l=c then KZ (0≤l∧l*((b:Int)+1)≤140737488355328) (KR (K++[some (.lst m (List.replicate l.toNat (nz ns z)))]) (λK'=>k (.sl K.length) K') ()) ()else False
 |_,_,_,_=>False
mutual
def X2(m:Nat):AV→AV×KS
 |.own n rows=>(.sl m,[some (.lst n rows)])
 |.agg cs=>let p:=FG m cs;(.agg p.1,p.2)
 |.tup cs=>let p:=FG m cs;(.tup p.1,p.2)
 |.clo _ _=>(.u,[])
 |v=>(v,[])
def FG(m:Nat):List AV→List AV×KS
 |[]=>([],[])
 |c::cs=>let p:=X2 m c;let q:=FG (m+p.2.length) cs;(p.1::q.1,p.2++q.2)
end
mutual
def XQ:AV→AV
 |.own n rows=>.imm n (Vc rows)
 |.agg _|.tup _|.clo _ _=>.u
 |c=>c
def Xp:List AV→List AV
 |[]=>[]
 |c::cs=>XQ c::Xp cs
def Vc:List (List AV)→List (List AV)
 |[]=>[]
 |r::rs=>Xp r::Vc rs
end
def bq(K:KS)(j:Nat):AV:=match kg K j with
 |some (.lst n rows)=>.imm n (Vc rows)
 |_=>.u
def Mk(K:KS):AV→AV
 |.sl j=>bq K j
 |c=>if c.closed=true then c else .u
def uZ(K:KS)(j i o:Nat):AV:=match kg K j with
 |some (.lst n rows)=>.iptr n (Vc rows) i o
 |some (.box cs)=>.iptr cs.length [cs.map (Mk K)] i o
 |none=>.u
mutual
def DE(K:KS):AV→AV
 |.sl j=>bq K j
 |.agg cs=>.agg (G9 K cs)
 |.tup cs=>.tup (G9 K cs)
 |.clo f cs=>.clo f (G9 K cs)
 |.ptr j i o=>uZ K j i o
 |v=>v
def G9(K:KS):List AV→List AV
 |[]=>[]
 |c::cs=>DE K c::G9 K cs
end
def EnterOK(P:Program)(g:FuncId):Prop:=∀(args:Array Value) (w:World),(callFunc g args).run P w=.ok (.enter g args) w
def PC[Wd](P:Program)(g:FuncId)(args:List AV)(R:AV→Prop):Prop:=EnterOK P g ∧
 ∀(w:World) (vs:List Value),Wd.I w→XRs w (λ_=>False) EN args vs [] →
  Calls P g vs.toArray w λe w'=>∃v x nb,e=.returned v∧R x∧XR w' (λ_=>True) EN x v nb∧nb.Nodup∧(∀b∈nb,w.heap.size≤b∧b<w'.heap.size)∧Ext (λ_=>False) w w'
def PC.mono[Wd]{P:Program}{g:FuncId}{args:List AV}{R R':AV→Prop}(h:PC P g args R)(hR:∀x,R x→R' x):PC P g args R' :=
 ⟨h.1,λw vs hi hv=>(h.2 w vs hi hv).mono λe w' ⟨v,x,nb,h1,h2,h3⟩=>⟨v,x,nb,h1,hR x h2,h3⟩⟩
def AC[Wd](P:Program)(g:FuncId)(K1:KS)(args:List AV)(R:AV→KS→Prop):Prop:=EnterOK P g ∧
 ∀(w:World) (ρ:Dl) (Y:Nat→Prop) (vs:List Value),(∀w',Ext (λb=>∃j e,kg K1 j=some e∧b∈fp ρ j) w w'→Wd.I w') →
  (∀b,Y b→b<w.heap.size∧∀j e,kg K1 j=some e→b∉fp ρ j)→Sees w (OO K1 ρ Y) K1 ρ→XRs w (OO K1 ρ Y) (EK K1 ρ) args vs [] →
  Calls P g vs.toArray w λe w'=>∃v r K' ρ',e=.returned v∧R r K'∧K1.length≤K'.length∧XR w' (OO K' ρ' Y) (EK K' ρ') r v []∧Sees w' (OO K' ρ' Y) K' ρ' ∧
   Ext (λb=>∃j e,kg K1 j=some e∧b∈fp ρ j) w w'∧(∀j e b,kg K' j=some e→b∈fp ρ' j→(∃i e',kg K1 i=some e'∧b∈fp ρ i)∨w.heap.size≤b) ∧
   ∀j e',j<K1.length→kg K' j=some e'→∃e,kg K1 j=some e∧(ρ' j).1=(ρ j).1∧e'.n=e.n∧e'.rows.length=e.rows.length
def AC.mono[Wd]{P:Program}{g:FuncId}{K1:KS}{args:List AV}{R R':AV→KS→Prop}(h:AC P g K1 args R)(hR:∀x K,R x K→R' x K):AC P g K1 args R' :=
 ⟨h.1,λw ρ Y vs h0 h1 h2 h3=>(h.2 w ρ Y vs h0 h1 h2 h3).mono λe w' ⟨v,r,K',ρ',h4,h5,h6⟩=>⟨v,r,K',ρ',h4,hR r K' h5,h6⟩⟩
def wc[Wd](P:Program)(g:FuncId)(K:KS)(vs:List AV)(k:AV→KS→Prop)(_:Lk k):Prop :=
 ∃R,PC P g (G9 K vs) R∧∀x,R x→k (X2 K.length x).1 (K++(X2 K.length x).2)
def TF[Wd](P:Program)(g:FuncId)(K:KS)(vs:List AV)(k:AV→KS→Prop)(_:Lk k):Prop :=
 wc P g K vs k ()∨∃R,AC P g K vs R∧∀x K',R x K'→k x K'
def eP(x y:AV)(k:AV→Prop)(_:Lk k):Prop :=
 match x,y with
 |.i c a,.i _ b=>k (.i c (if b<a then b else a))
 |_,_=>False
def eV(x y:AV)(k:AV→Prop)(_:Lk k):Prop :=
 match x,y with
 |.i c a,.i _ b=>k (.i c (if a<b then b else a))
 |_,_=>False
def TH(t:TI)(x:AV)(k:AV→Prop)(_:Lk k):Prop :=
 match t,x with
 |.int c,.i _ a=>k (.i c (c.wrap a))
 |_,_=>False
def cA:List AV→Option UInt8
 |[.i .u8 n]=>some (UInt8.ofNat n.toNat)
 |_=>none
def FZ:List (List AV)→Option (List UInt8)
 |[]=>some []
 |r::rs=>match cA r,FZ rs with
  |some x,some xs=>some (x::xs)
  |_,_=>none
def bsl(P:Program)(t:TypeId):Bool:=match ti P t with
 |.sl e _=>(match ti P e with|.int .u8=>true|_=>false)
 |_=>false
def Rx(K:KS)(t:TI)(x:AV)(k:AV→Prop)(_:Lk k):Prop :=
 match t,x with
 |.str,.sl j=>match kg K j with
  |some (.lst 1 rows)=>match FZ rows with|some s=>k (.s s)|none=>False
  |_=>False
 |_,_=>False
def FL:Operand→Bool
 |.const (.slice none 0 0)=>true
 |_=>false
def Kt(P:Program)(t:TypeId):Bool:=match P.underlying t with|some (.slice _)=>true|_=>false
def MU(op:BinOp)(x:AV)(k:AV→Prop)(_:Lk k):Prop :=
 match op,x with
 |.eql,.imm _ rows=>(rows.isEmpty=true→k (.b true))∧k (.b false)
 |.neq,.imm _ rows=>(rows.isEmpty=true→k (.b false))∧k (.b true)
 |_,_=>False
def bd(d:Int):Option AV→Option Int
 |none=>some d
 |some (.i _ i)=>some i
 |_=>none
def fu(t:TI)(x:AV)(lo hi:Option AV)(k:AV→Prop)(_:Lk k):Prop :=
 match t,x with
 |.sl _ m,.imm n rows=>if m=n then match bd 0 lo,bd rows.length hi with
   |some l,some h=>KZ (0≤l∧l≤h∧h≤rows.length) (k (.imm n ((rows.take h.toNat).drop l.toNat))) ()
   |_,_=>False
  else False
 |.str,.s x=>match bd 0 lo,bd x.length hi with
   |some l,some h=>KZ (0≤l∧l≤h∧h≤x.length) (k (.s ((x.take h.toNat).drop l.toNat))) ()
   |_,_=>False
 |_,_=>False
def gJ(t:TI)(x i:AV)(k:AV→Prop)(_:Lk k):Prop :=
 match t,x,i with
 |.str,.s x,.i _ i=>KZ (0≤i∧i<x.length) (k (.i .u8 ((x.getD i.toNat default).toNat:Int))) ()
 |_,_,_=>False
def tok(P:Program)(t:TypeId):Bool:=(P.underlying t).isSome
def xP(K:KS)(x:AV)(k:AV→Prop)(_:Lk k):Prop :=
 match x with
 |.ptr j i o=>match kg K j with
  |some _=>k (.ptr j i o)
  |none=>False
 |.iptr n r i o=>k (.iptr n r i o)
 |_=>False
def dY(v:AV)(k:FuncId→List AV→Prop)(_:Lk k):Prop :=
 match v with
 |.clo g caps=>k g caps
 |_=>False
def eA(o:Option (Nat×TK))(x:AV)(k:AV→Prop)(_:Lk k):Prop :=
 match o with
 |some (o,t)=>eT t o x k ()
 |none=>False
def Sy[Wd](P:Program)(o:Op)(f:Fr)(K:KS)(k:AV→KS→Prop)(_:Lk (o,f,k)):Prop :=
 match o with
 |.move x|.assign x=>k (ev f x) K
 |.pick c x y=>TS (ev f c) (ev f x) (ev f y) (λv=>k v K) ()
 |.alloc t=>SI K (Uw P t) k ()
 |.box _ v=>nP K (ev f v) k ()
 |.build t ps=>Ng K (UX P t) (ps.toList.map λp=>(p.1,ev f p.2)) (λv=>k v K) ()
 |.buildSlice t len ps=>F9 (Is P t) K (Lr P t) len (ps.toList.map λp=>(p.1,ev f p.2)) k ()
 |.load t x=>K6 (tk P t) (Z9 K (ev f x)) (λv=>k v K) ()
 |.store t p v=>CL (flT P t) (slz P 9 t) K (tk P t) (ev f p) (ev f v) (λK=>k .u K) ()
 |.binOp op t x y _=>if FL y=true then(if Kt P t=true then MU op (ev f x) (λv=>k v K) ()else False)else ft (L5 P t) op (ev f x) (ev f y) (λv=>k v K) ()
 |.unOp op _ x=>xun op (ev f x) (λv=>k v K) ()
 |.convert s t x=>if bsl P s=true then Rx K (ti P t) (ev f x) (λv=>k v K) ()else if tok P s=true then TH (ti P t) (ev f x) (λv=>k v K) ()else False
 |.makeFunc (.func g) first caps=>if first.size=0 then k (.clo g (caps.toList.map (ev f))) K else False
 |.fieldAddr t x i=>gk K (ev f x) (E7 P t i) (λv=>k v K) ()
 |.indexAddr t x i=>eF K (ti P t) (ev f x) (ev f i) (λv=>k v K) ()
 |.extract x i=>eG (ev f x) i (λv=>k v K) ()
 |.call { callee:=.builtin .len,args,argTypes }=>match args.toList,argTypes.toList with
  |[x],t::_=>gG K (ti P t) (ev f x) (λv=>k v K) ()
  |_,_=>False
 |.call { callee:=.builtin .append,args,argTypes }=>match args.toList,argTypes.toList with
  |[s,x],t::tx::_=>if Et P tx=true then Ip K (Lr P t) ((Lr P t).bind λq=>tb P q.1) (ev f s) (ev f x) k ()else False
  |_,_=>False
 |.call { callee:=.builtin .min,args,.. }=>match args.toList with
  |[x,y]=>eP (ev f x) (ev f y) (λv=>k v K) ()
  |_=>False
 |.call { callee:=.builtin .max,args,.. }=>match args.toList with
  |[x,y]=>eV (ev f x) (ev f y) (λv=>k v K) ()
  |_=>False
 |.call { callee:=.value x,args,.. }=>dY (ev f x) (λg caps=>TF P g K (args.toList.map (ev f)++caps) k ()) ()
 |.makeSlice t l c=>bw (Is P t) K (Lr P t) ((Lr P t).bind λq=>tb P q.1) (ev f l) (ev f c) k ()
 |.slice t x lo hi none=>fu (ti P t) (ev f x) (lo.map (ev f)) (hi.map (ev f)) (λv=>k v K) ()
 |.index t x i=>gJ (ti P t) (ev f x) (ev f i) (λv=>k v K) ()
 |.nilCheck x=>xP K (ev f x) (λv=>k v K) ()
 |.field t x i=>eA (E7 P t i) (ev f x) (λv=>k v K) ()
 |_=>False
end Go.Proofs.YtfhnbabcbhgffaaGreatDoor.Am
