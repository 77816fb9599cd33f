import Derived.Test.YtfhnbabcbhgffaaGreatDoorAmB
import Derived.Laws.Append
import Derived.Laws.BytesArg
import Derived.Laws.Cover3
set_option linter.unusedVariables false
set_option linter.unusedSimpArgs false
set_option linter.defProp false
namespace Go.Proofs.YtfhnbabcbhgffaaGreatDoor.Am
open Go
section
variable{P:Program}{n:NE}{Y:Nat→Prop}{w0:World}{F0:Nat→Prop}{ρ:Dl}{f:Fr}{K:KS}{a:Act}{w:World}
def Sim.heap_eq[Wd](hS:Sim n Y w0 F0 ρ f K a w){w':World}(h:w'.heap=w.heap)(hos:w'.os=w.os)(hta:w'.tape=w.tape)(hou:w'.output=w.output):Sim n Y w0 F0 ρ f K a w':=by
 have hs:Same (OO K ρ Y) (EK K ρ) w (OO K ρ Y) (EK K ρ) w':=⟨by rw[h];exact Qg _,λ_ _ _=>by rw[h],λ_ h _=>h,Qg _,λ_ _ _ h=>h,λ_ _ _ _ _ _ _ hw=>hw.same (by rw[h])⟩
 exact hS.liftM hs (λ_=>False) (λj e hj _=>⟨hj,rfl,λ_ _=>by rw[h]⟩) (λ_ _ _ h=>h.elim) (λ_ _ _ _ _ _ _ h=>h.elim)
  (hS.ext.trans (G:=FF) ⟨hos,hta,hou,by rw[h];exact Qg _,λ_ _ _=>by rw[h],λb m hw=>hw.same (by rw[h])⟩ (λ_ h=>h) (λ_ _ h=>h.elim))
def Sim.drop[Wd](hS:Sim n Y w0 F0 ρ f K a w){K1:KS}(hl:K1.length=K.length)(hk:∀i e,kg K1 i=some e→kg K i=some e):Sim n Y w0 F0 ρ f K1 a w:=by
 have hs:Same (OO K ρ Y) (EK K ρ) w (OO K1 ρ Y) (EK K1 ρ) w:=by
  refine⟨Qg _,λ_ _ _=>rfl,λb hb _ h=>hb ?_,by simp[EK,hl],λj p _ hp=>?_,λ_ _ _ _ _ _ _ h=>h⟩
  ·rcases h with h|⟨i,e,hi,h⟩
   ·exact .inl h
   ·exact .inr ⟨i,e,hk i e hi,h⟩
  ·simp only[EK]at hp ⊢
   cases h:kg K1 j with
   |none=>rw[h]at hp;cases hp
   |some e=>rw[h]at hp;rw[hk j e h];exact hp
 exact hS.liftM hs (λ_=>False) (λj e hj _=>⟨hk j e hj,rfl,λ_ _=>rfl⟩) (λ_ _ _ h=>h.elim) (λ_ _ _ _ _ _ _ h=>h.elim) hS.ext
def N0{O:Nat→Prop}{E:EI}{m:Nat}:∀{rs:List (List AV)} {bl off:Nat} {nb:List Nat},RR w O E m bl off rs nb →
  ∃vs:List Value,vs.length=rs.length*m∧(∀i,i<vs.length→w.cell? ⟨bl,off+i,none⟩=vs[i]?)∧XRs w O E rs.flatten vs nb∧(∀v∈vs,VI v=true)∧∀r∈rs,r.length=m
 |[],bl,off,nb,h=>by simp only[RR]at h;exact⟨[],by simp,by simp,by simp[XRs,h],by simp,by simp⟩
 |r::rs,bl,off,nb,h=>by
  simp only[RR]at h;obtain⟨n1,n2,rfl,hr,h3,h4⟩:=h;obtain⟨vs,h5,h6,h7,h8⟩:=I4 h3;obtain⟨us,g1,g2,g3,g4,g5⟩:=N0 h4;refine⟨vs++us,by simp[Nat.succ_mul,g1,h5,hr];omega,λi hi=>?_,by simpa using Zg h7 g3,λv hv=>by rcases List.mem_append.1 hv with hv|hv;exact h8 v hv;exact g4 v hv,λq hq=>by rcases List.mem_cons.1 hq with rfl|hq;exact hr;exact g5 q hq⟩
  by_cases hi':i<vs.length
  ·rw[h6 i (by omega),List.getElem?_append_left hi']
  ·rw[List.getElem?_append_right (by omega)]
   have:=g2 (i-vs.length) (by simp at hi;omega)
   rw[←this];congr 2;omega
def bP{O:Nat→Prop}{E:EI}{m:Nat}:∀{r1 r2:List (List AV)} {bl off:Nat} {n1 n2:List Nat},RR w O E m bl off r1 n1→RR w O E m bl (off+r1.length*m) r2 n2→RR w O E m bl off (r1++r2) (n1++n2)
 |[],r2,bl,off,n1,n2,h1,h2=>by simp only[RR]at h1;subst h1;simpa using h2
 |r::r1,r2,bl,off,n1,n2,h1,h2=>by
  simp only[RR]at h1;obtain⟨a1,a2,rfl,hr,h3,h4⟩:=h1;simp only[List.cons_append,RR];refine⟨a1,a2++n2,by simp,hr,h3,bP h4 ?_⟩
  have e:off+(r::r1).length*m=off+m+r1.length*m:=by simp[Nat.succ_mul];omega
  rw[e]at h2;exact h2
def Kz{bl o m:Nat}{vs:List Value}(hl:vs.length=m)(h:∀i,i<m→w.cell? ⟨bl,o+i,none⟩=vs[i]?):(loadCells ⟨bl,o,none⟩ m).run P w=.ok vs.toArray w:=by
 unfold loadCells;rw[GP bl o m 0 #[] vs hl (λi hi=>by rw[Nat.zero_add];exact h i hi)]
 simp
def Qgi[Wd](hS:Sim n Y w0 F0 ρ f K a w){x:AV}{vx:Value}{m:Nat}{rows:List (List AV)}{K1:KS}(h:GN K m x=some (rows,K1))(hx:XR w (OO K ρ Y) (EK K ρ) x vx []) :
  ∃vs nb,(∀w',w'.heap=w.heap→(Builtin.firstCells m rows.length vx).run P w'=.ok vs.toArray w')∧(∀w',(Builtin.lenOf vx).run P w'=.ok rows.length w')∧XRs w (OO K ρ Y) EN rows.flatten vs nb∧vs.length=rows.length*m∧(∀v∈vs,VI v=true)∧(∀r∈rows,r.length=m) ∧
   K1.length=K.length∧(∀i e,kg K1 i=some e→kg K i=some e)∧(∀b∈nb,∃j e,kg K j=some e∧kg K1 j=none∧b∈fp ρ j)∧nb.Nodup∧(∀i e,kg K1 i=some e→∀b∈fp ρ i,b∉nb):=by
 unfold GN at h
 split at h
 ·injection h with h;injection h with e1 e2;subst e1 e2
  simp only[XR]at hx;obtain⟨⟨q,rfl⟩,_⟩:=hx;refine⟨[],[],λw' _=>?_,λw'=>by simp[Builtin.lenOf],by simp[XRs],by simp,by simp,by simp,rfl,λ_ _ h=>h,by simp,by simp,by simp⟩
  cases q<;>simp[Builtin.firstCells,loadCells,loadCellsFrom]
 ·split at h
  ·rename_i hm
   subst hm;injection h with h;injection h with e1 e2;subst e1 e2
   simp only[XR]at hx;obtain⟨_,q,cap,rfl,hc,hr⟩:=hx
   rcases hr with rfl|⟨bl,off,rfl,hO,hb,hR⟩
   ·refine⟨[],[],λw' _=>?_,λw'=>by simp[Builtin.lenOf],by simp[XRs],by simp,by simp,by simp,rfl,λ_ _ h=>h,by simp,by simp,by simp⟩
    cases q<;>simp[Builtin.firstCells,loadCells,loadCellsFrom]
   ·obtain⟨vs,h1,h2,h3,h4,h5⟩:=N0 hR
    refine⟨vs,[],λw' hw=>?_,λw'=>by simp[Builtin.lenOf],h3,h1,h4,h5,rfl,λ_ _ h=>h,by simp,by simp,by simp⟩
    simp only[Builtin.firstCells];exact Kz (w:=w') h1 (λi hi=>(KQ (w:=w) (w':=w') (by rw[hw])).trans (h2 i (by omega)))
  ·cases h
 ·rename_i k
  split at h
  ·rename_i m' rows' hk
   split at h
   ·rename_i hm
    subst hm;injection h with h;injection h with e1 e2;subst e1 e2
    have hkl:=Gr hk;have hreg:=hS.sees.reg k _ hk;obtain⟨ad,cap,rfl,hc,hW⟩:=NB hS hk hx
    rcases hW with⟨hb0,rfl,h0⟩|⟨bl,hb0,rfl,hW⟩
    ·simp only[QE.rows]at h0
     subst h0;refine⟨[],[],λw' _=>?_,λw'=>by simp[Builtin.lenOf,QE.rows],by simp[XRs],by simp,by simp,by simp,by simp,λi e hi=>?_,by simp,by simp,by simp⟩
     ·cases ad<;>simp[Builtin.firstCells,loadCells,loadCellsFrom]
     ·rw[Zu _ _ _ _ hkl]at hi
      split at hi
      ·cases hi
      ·exact hi
    rw[hb0]at hreg;obtain⟨hW',hR,_⟩:=hreg;obtain⟨vs,h1,h2,h3,h4,h5⟩:=N0 hR;refine⟨vs,(ρ k).2,λw' hw=>?_,λw'=>by simp[Builtin.lenOf,QE.rows],h3,h1,h4,h5,by simp,λi e hi=>?_,λb hb=>⟨k,_,hk,by rw[Zu _ _ _ _ hkl];simp,by simp[fp,hb]⟩,?_,?_⟩
    ·simp only[Builtin.firstCells]
     exact Kz (w:=w') h1 (λi hi=>(KQ (w:=w) (w':=w') (by rw[hw])).trans (h2 i (by rw[h1];exact hi)))
    ·rw[Zu _ _ _ _ hkl]at hi
     split at hi
     ·cases hi
     ·exact hi
    ·have:=hS.sees.nd k _ hk
     simp[fp,hb0]at this;exact this.2
    ·intro i e hi b hb hb'
     rw[Zu _ _ _ _ hkl]at hi
     split at hi
     ·cases hi
     ·rename_i hik
      exact hS.sees.dj i e k _ b hi hk hik hb (by simp[fp,hb'])
   ·cases h
  ·cases h
 ·cases h
def nq{t:TypeId}(h:Et P t=true):∃d,P.underlying t=some d∧((∃e,d=.slice e)∨d=.string):=by
 unfold Et at h
 split at h
 ·rename_i e hu;exact⟨_,hu,.inl ⟨_,rfl⟩⟩
 ·rename_i hu;exact⟨_,hu,.inr rfl⟩
 ·cases h
def QaA{t:TypeId}{b:Nat}(h:tb P t=some b):∃i,P.info? t=some i∧i.bytes=b:=by
 unfold tb at h;cases hi:P.info? t with
 |none=>rw[hi]at h;cases h
 |some i=>rw[hi]at h;simp at h;exact⟨i,rfl,h⟩
def Lp(z:Array Value)(q:Nat)(hz:0<z.size):(Builtin.zeroCells z q).toList=(List.replicate q z.toList).flatten:=by
 unfold Builtin.zeroCells;exact Ro hz q
def ll[Wd](hS:Sim n Y w0 F0 ρ f K a w){K1:KS}{m:Nat}{rows:List (List AV)}{nb:List Nat}{vs rest:List Value}{el:TypeId}{w1:World}{cap:Nat}(hh:w1.heap=w.heap)(hos:w1.os=w.os)(hta:w1.tape=w.tape)(hou:w1.output=w.output)
  (hl:K1.length=K.length) (hk:∀i e,kg K1 i=some e→kg K i=some e) (hX:XRs w (OO K ρ Y) EN rows.flatten vs nb) (hv:vs.length=rows.length*m) (ho:∀v∈vs,VI v=true) (hr:∀r∈rows,r.length=m)
  (hnb:∀b∈nb,∃j e,kg K j=some e∧kg K1 j=none∧b∈fp ρ j) (hnd:nb.Nodup) (hcap:rows.length≤cap) (hrest:rest.length=(cap-rows.length)*m) :
  ∃ρ',Sim n Y w0 F0 ρ' f (K1++[some (.lst m rows)]) a (L3 w1 (vs++rest).toArray el) ∧
   XR (L3 w1 (vs++rest).toArray el) (OO (K1++[some (.lst m rows)]) ρ' Y) (EK (K1++[some (.lst m rows)]) ρ') (.sl K.length) (.slice (some ⟨w1.heap.size,0,none⟩) rows.length cap) []:=by
 have hS1:=hS.heap_eq hh hos hta hou;have hs:Same (OO K ρ Y) EN w (OO K ρ Y) EN w1:=⟨by rw[hh];exact Qg _,λ_ _ _=>by rw[hh],λ_ h _=>h,Qg _,λ_ _ _ h=>h,λ_ _ _ _ _ _ _ hw=>hw.same (by rw[hh])⟩
 obtain⟨ρ',s1,s2,s3⟩:=hS1.push (K1:=K1) hl hk (e:=.lst m rows) (nb:=nb) (c:=(vs++rest).toArray) (el:=el) (vs:=vs) hr (XRs.mono _ hs _ _ (λ_ _=>by rw[hh]) hX)
  (λi hi=>by simp[List.getElem?_append_left hi]) ho (by simp[QE.rows,QE.n,hv]) hnb hnd (λh=>by cases h)
 refine⟨ρ',s1,?_⟩;simp only[XR,true_and];refine⟨by rw[s3];omega,λm' len' hE=>(by rw[s2]at hE;cases hE),λbl m' len' hE=>?_⟩
 rw[s2]at hE;injection hE with hE;injection hE with e1 hE;injection hE with e2 e3;injection e1 with e1
 subst e1 e2 e3;refine⟨cap,rfl,hcap,?_⟩;refine⟨_,el,Tr _ _ _,?_⟩;simp only[List.size_toArray,List.length_append,hv,hrest,QE.n];rw[←Nat.add_mul];exact Nat.mul_le_mul_right m (by omega)
def Sim.addNil[Wd](hS:Sim n Y w0 F0 ρ f K a w){K1:KS}(hl:K1.length=K.length)(hk:∀i e,kg K1 i=some e→kg K i=some e)(m:Nat) :
  ∃ρ',Sim n Y w0 F0 ρ' f (K1++[some (.lst m [])]) a w∧∀(O:Nat→Prop) (q:Option Addr),XR w O (EK (K1++[some (.lst m [])]) ρ') (.sl K.length) (.slice q 0 0) []:=by
 let ρ':Dl:=λi=>if i=K.length then(none,[])else ρ i
 have hg:∀i,kg (K1++[some (.lst m [])]) i=if i=K.length then some (.lst m [])else kg K1 i:=λi=>by rw[GZ,hl]
 have hKn:kg K K.length=none:=by simp[kg,List.getD]
 have hO:∀x,OO (K1++[some (.lst m [])]) ρ' Y x→OO K ρ Y x:=by
  rintro x (h|⟨i,e0,hi,hx⟩)
  ·exact .inl h
  ·rw[hg]at hi
   by_cases h:i=K.length
   ·subst h;simp[fp,ρ']at hx
   ·rw[if_neg h]at hi
    exact .inr ⟨i,e0,hk _ _ hi,by simpa[fp,ρ',h]using hx⟩
 have same:Same (OO K ρ Y) (EK K ρ) w (OO (K1++[some (.lst m [])]) ρ' Y) (EK (K1++[some (.lst m [])]) ρ') w:=by
  refine⟨Qg _,λ_ _ _=>rfl,λx hx _ h=>hx (hO x h),by simp[EK,hl],λj p hj hp=>?_,λ_ _ _ _ _ _ _ h=>h⟩
  simp only[EK]at hj hp ⊢;rw[hg]at hp;have:j≠K.length:=by omega
  rw[if_neg this]at hp;cases h1:kg K1 j with
  |none=>rw[h1]at hp;cases hp
  |some e1=>rw[h1]at hp;rw[hk _ _ h1];simpa[ρ',this]using hp
 refine⟨ρ',hS.lift same K.length ?_ ?_ hS.ext,λO q=>?_⟩
 ·intro i e0 hi hij
  rw[hg,if_neg hij]at hi;exact⟨hk _ _ hi,by simp[ρ',hij],λ_ _=>rfl⟩
 ·intro e0 h0
  rw[hg,if_pos rfl]at h0;injection h0 with h0;subst h0
  have e1:ρ' K.length=(none,[]):=by simp[ρ']
  simp only[e1,fp];exact⟨⟨rfl,rfl⟩,by simp,by simp⟩
 ·simp only[XR,true_and]
  refine⟨by simp[EK,hl],λ_ _ _=>⟨q,rfl⟩,λbl k len hE=>?_⟩
  simp[EK,hg,ρ']at hE
def TO{T:Array TypeId}{t tx ty el:TypeId}{dx:TypeDesc}{m b':Nat}{zv:Value}{base:Option Addr}{len cap q:Nat}{vx:Value}{old us:List Value}
  (hT:T[0]?=some t) (hTx:T[1]?=some tx) (hu:P.underlying t=some (.slice el)) (hux:P.underlying tx=some dx) (hdx:(∃e,dx=.slice e)∨dx=.string) (hz:tz P el=some m) (hb:tb P el=some (b'+1)) (hzv:cn P el=some zv)
  (hlen:∀w',(Builtin.lenOf vx).run P w'=.ok q w') (hnew:∀w',w'.heap=w.heap→(Builtin.firstCells m q vx).run P w'=.ok us.toArray w')
  (hold:∀w',w'.heap=w.heap→(Builtin.firstCells m len (.slice base len cap)).run P w'=.ok old.toArray w') (hgrow:cap<len+q) (hfit:(len+q)*(b'+1)≤140737488355328) :
  ∃w1 nc,w1.heap=w.heap∧w1.os=w.os∧w1.tape=w.tape∧w1.output=w.output∧len+q≤nc ∧
   (Builtin.append_ T ty #[.slice base len cap,vx]).run P w=.ok (.slice (some ⟨w1.heap.size,0,none⟩) (len+q) nc) (L3 w1 (old.toArray++us.toArray++Builtin.zeroCells zv.cells (nc-(len+q))) el):=by
 obtain⟨i,hi,hbi⟩:=QaA hb;have hg:=growslice_fits hgrow hfit;have hne:¬(len+q≤cap):=by omega
 have hng:¬(2^48<Builtin.nextslicecap (len+q) cap*i.bytes):=by rw[hbi];omega
 have hb0:¬(i.bytes=0):=by omega
 refine⟨{ w with drawn:=w.drawn+1 },(Question.appendCap (len+q) cap el).cut (w.tape w.drawn (Question.appendCap (len+q) cap el)),rfl,rfl,rfl,rfl,?_,?_⟩
 ·simp[Question.cut]
 ·have h1':=hold w.drew rfl
  have h2':=hnew w.drew rfl
  rcases hdx with⟨e,rfl⟩|rfl
  ·simp[Builtin.append_,hT,hTx,V4 hu,V4 hux,Xb hz,hlen,hne,typeInfo,hi,hng,hb0,Question.forced,IP hzv,DA]
   rw[h1',Result.andThen_ok,h2',Result.andThen_ok,←Array.append_assoc];simp only[List.append_toArray];rfl
  ·simp[Builtin.append_,hT,hTx,V4 hu,V4 hux,Xb hz,hlen,hne,typeInfo,hi,hng,hb0,Question.forced,IP hzv,DA]
   rw[h1',Result.andThen_ok,h2',Result.andThen_ok,←Array.append_assoc];simp only[List.append_toArray];rfl
def gL{T:Array TypeId}{t tx ty el:TypeId}{dx:TypeDesc}{m:Nat}{base:Option Addr}{len cap q:Nat}{vx:Value}{us:List Value}
  (hT:T[0]?=some t) (hTx:T[1]?=some tx) (hu:P.underlying t=some (.slice el)) (hux:P.underlying tx=some dx) (hdx:(∃e,dx=.slice e)∨dx=.string) (hz:tz P el=some m)
  (hlen:∀w',(Builtin.lenOf vx).run P w'=.ok q w') (hnew:∀w',w'.heap=w.heap→(Builtin.firstCells m q vx).run P w'=.ok us.toArray w')
  (hfit:len+q≤cap) {w':World} (hw:∀b o,base=some ⟨b,o,none⟩→(storeCells ⟨b,o+len*m,none⟩ us).run P w=.ok () w') (hb:base=none→w'=w) (hspot:∀a,base=some a→a.spot=none) :
   (Builtin.append_ T ty #[.slice base len cap,vx]).run P w=.ok (.slice base (len+q) cap) w':=by
 have h1:=hnew w rfl;cases base with
 |none =>
  have:=hb rfl;subst this
  rcases hdx with⟨e,rfl⟩|rfl<;>simp[Builtin.append_,hT,hTx,V4 hu,V4 hux,Xb hz,hlen,hfit,h1]
 |some a =>
  obtain⟨b,o,s⟩:=a;have:=hspot _ rfl;simp only at this;subst this;have h2:=hw b o rfl
  rcases hdx with⟨e,rfl⟩|rfl<;>simp[Builtin.append_,hT,hTx,V4 hu,V4 hux,Xb hz,hlen,hfit,h1,DY,h2]
def iv[Wd](hS:Sim n Y w0 F0 ρ f K a w){s x:AV}{k:AV→KS→Prop}{l}{vs vx:Value}{T:Array TypeId}{t tx ty:TypeId}{el:TypeId}{b:Option Nat}{q:Option (TypeId×Nat×List AV)}(hT:T[0]?=some t)(hTx:T[1]?=some tx)(hni:Et P tx=true)
  (hq:q=Lr P t) (hb:∀e m z,q=some (e,m,z)→b=tb P e)
  (h:Ip K q b s x k l) (hs:XR w (OO K ρ Y) (EK K ρ) s vs []) (hx:XR w (OO K ρ Y) (EK K ρ) x vx []) :
  ∃y w',(Builtin.append_ T ty #[vs,vx]).run P w=.ok y w'∧Out n Y w0 F0 f a k y w':=by
 unfold Ip at h
 split at h
 ·rename_i _ _ e m z b'
  obtain⟨hu,hz,hzc,hzl,hm⟩:=cT hq.symm;have hb':=(hb e m z rfl).symm;obtain⟨dx,hux,hdx⟩:=nq hni;obtain⟨zv,hzv,rfl,hzo⟩:=SO hzc;have hzs:zv.cells.size=m:=by simpa using hzl
  split at h
  ·rename_i rows' K1 hsrc
   obtain⟨us,nb',g1,g2,g3,g4,g5,g6,g7,g8,g9,g10,g11⟩:=Qgi (P:=P) hS hsrc hx;have hzl0:∀q,(Builtin.zeroCells zv.cells q).size=q*m:=λq=>by
    have:=congrArg List.length (Lp zv.cells q (by omega))
    simpa[hzs]using this
   have nilcase:∀{K1:KS} {us:List Value} {nb':List Nat},K1.length=K.length→(∀i e,kg K1 i=some e→kg K i=some e) →
     (∀w',w'.heap=w.heap→(Builtin.firstCells m rows'.length vx).run P w'=.ok us.toArray w')→(∀w',(Builtin.lenOf vx).run P w'=.ok rows'.length w')→XRs w (OO K ρ Y) EN rows'.flatten us nb'→us.length=rows'.length*m→(∀v∈us,VI v=true)→(∀r∈rows',r.length=m) →
     (∀b∈nb',∃j e,kg K j=some e∧kg K1 j=none∧b∈fp ρ j)→nb'.Nodup→∀(base:Option Addr),rows'.length*(b'+1)≤140737488355328→k (.sl K.length) (K1++[some (.lst m rows')]) →
     ∃y w',(Builtin.append_ T ty #[.slice base 0 0,vx]).run P w=.ok y w'∧Out n Y w0 F0 f a k y w':=by
    intro K1 us nb' g7 g8 g1 g2 g3 g4 g5 g6 g9 g10 base hfit hk;by_cases hr0:rows'=[]
    ·subst hr0
     have hus:us=[]:=List.length_eq_zero_iff.1 (by simpa using g4)
     subst hus;have h0:(Builtin.append_ T ty #[.slice base 0 0,vx]).run P w=.ok (.slice base 0 0) w:=by
      have h1:(Builtin.firstCells m 0 vx).run P w=.ok #[] w:=by simpa using g1 w rfl
      have h2:∀w',(Builtin.lenOf vx).run P w'=.ok 0 w':=by simpa using g2
      rcases hdx with⟨e',rfl⟩|rfl
      ·simp[Builtin.append_,hT,hTx,V4 hu,V4 hux,Xb hz,h2,h1]
       cases base<;>simp[storeCells]
      ·simp[Builtin.append_,hT,hTx,V4 hu,V4 hux,Xb hz,h2,h1]
       cases base<;>simp[storeCells]
     obtain⟨ρ',s1,s2⟩:=hS.addNil g7 g8 m;exact⟨_,_,h0,_,_,ρ',s1,s2 _ _,hk⟩
    ·have hlpos:0<rows'.length:=List.length_pos_iff.2 hr0
     obtain⟨w1,nc,q1,q2,q3,q4,q5,q6⟩:=TO (w:=w) (ty:=ty) hT hTx hu hux hdx hz hb' hzv g2 g1 (base:=base) (len:=0) (cap:=0) (old:=[]) (λw' hw=>by
       cases base<;>simp[Builtin.firstCells,loadCells,loadCellsFrom]) (by omega) (by simpa using hfit)
     obtain⟨ρ',s1,s2⟩:=ll hS (K1:=K1) (m:=m) (rows:=rows') (nb:=nb') (vs:=us) (rest:=(Builtin.zeroCells zv.cells (nc-(0+rows'.length))).toList) (el:=e) (cap:=nc) q1 q2 q3 q4 g7 g8 g3 g4 g5 g6 g9 g10 (by omega) (by simp[hzl0])
     have ec:(us++(Builtin.zeroCells zv.cells (nc-(0+rows'.length))).toList).toArray=[].toArray++us.toArray++Builtin.zeroCells zv.cells (nc-(0+rows'.length)):=by
      apply Array.ext';simp
     rw[ec]at s1 s2;refine⟨_,_,q6,_,_,ρ',s1,?_,hk⟩;simpa using s2
   split at h
   ·rename_i j
    split at h
    ·rename_i n' rows hj
     split at h
     ·rename_i hnm
      subst hnm;obtain⟨hfit,h⟩:=h;have hjK:=g8 j _ hj;have hreg:=hS.sees.reg j _ hjK;obtain⟨ad,cap,rfl,hc1,hW⟩:=NB hS hjK hs;have hjl:=Gr hj;have hl1:(K1.set j none).length=K.length:=by simp[g7]
      have hk1:∀i e,kg (K1.set j none) i=some e→i≠j∧kg K1 i=some e:=λi e hi=>by
       rw[Zu _ _ _ _ hjl]at hi
       split at hi
       ·cases hi
       ·exact⟨by assumption,hi⟩
      have hkj:kg (K1.set j none) j=none:=by rw[Zu _ _ _ _ hjl];simp
      rcases hW with⟨hbl,rfl,h0⟩|⟨bl,hbl,rfl,hW⟩
      ·simp only[QE.rows]at h0
       subst h0;exact nilcase (K1:=K1.set j none) hl1 (λi e hi=>g8 i e (hk1 i e hi).2) g1 g2 g3 g4 g5 g6 (λb hb=>by
        obtain⟨i,e,h1,h2,h3⟩:=g9 b hb;refine⟨i,e,h1,?_,h3⟩;cases h4:kg (K1.set j none) i with
        |none=>rfl
        |some e'=>have:=(hk1 i e' h4).2;rw[h2]at this;cases this) g10 ad (by simpa using hfit) (by simpa[KR]using h)
      rw[hbl]at hreg;obtain⟨hW0,hR,_⟩:=hreg;simp only[QE.rows,QE.n,QE.E]at hR hW0 hW hc1 ⊢;obtain⟨vs,r1,r2,r3,r4,r5⟩:=N0 hR;have hnbj:∀b∈(ρ j).2++nb',∃i e,kg K i=some e∧kg (K1.set j none) i=none∧b∈fp ρ i:=λb hb=>by
       rcases List.mem_append.1 hb with hb|hb
       ·exact⟨j,_,hjK,hkj,by simp[fp,hb]⟩
       ·obtain⟨i,e,h1,h2,h3⟩:=g9 b hb
        refine⟨i,e,h1,?_,h3⟩;cases h4:kg (K1.set j none) i with
        |none=>rfl
        |some e'=>have:=(hk1 i e' h4).2;rw[h2]at this;cases this
      have hfpn:=hS.sees.nd j _ hjK;have hnd:(bl::((ρ j).2++nb')).Nodup:=by
       have:(fp ρ j++nb').Nodup:=by
        rw[List.nodup_append];exact⟨hfpn,g10,λx hx y hy hxy=>by subst hxy;exact g11 j _ hj x hx hy⟩
       simpa[fp,hbl]using this
      by_cases hroom:rows.length+rows'.length≤cap
      ·have hfull:cap*n'≥(rows.length+rows'.length)*n':=Nat.mul_le_mul_right n' hroom
       obtain⟨w',hr,hP⟩:=ER (P:=P) (b:=bl) (off:=0+rows.length*n') us 0 hW (by rw[Nat.add_mul]at hfull;omega) g5
       obtain⟨hc1',hc2'⟩:=NO hP;simp only[Nat.zero_add,Nat.add_zero]at hc1' hc2';have hjO:OO K ρ Y bl:=.inr ⟨j,_,hjK,ED hbl⟩;have same:Same (OO K ρ Y) EN w (λx=>OO K ρ Y x∨x=bl) EN w' :=
        ⟨Nat.le_of_eq hP.size.symm,λb hb _=>hP.block b (λh=>hb (h▸hjO)),λb hb _ h=>by rcases h with h|h;exact hb h;exact hb (h▸hjO),Qg _,λ_ _ _ h=>h,λ_ _ _ _ _ _ _ h=>hP.whole h⟩
       have hne:∀b∈(ρ j).2++nb',w'.heap[b]?=w.heap[b]?:=λb hb=>hP.block b (λh=>by
        subst h;rw[List.nodup_cons]at hnd;exact hnd.1 hb)
       have hR1:=P4 same (λi hi=>by rw[Nat.zero_add];exact hc1' i (.inl hi)) (λb hb=>hne b (by simp[hb])) hR
       have hR2:RR w' (λx=>OO K ρ Y x∨x=bl) EN n' bl (0+rows.length*n') rows' nb' :=
        kY g6 (vs:=us) (λi hi=>by rw[Nat.zero_add];exact hc2' i hi) g5 (XRs.mono _ same _ _ (λb hb=>hne b (by simp[hb])) g3)
       obtain⟨ρ',s1,s2,s3⟩:=hS.add (K1:=K1.set j none) hl1 (λi e hi=>g8 i e (hk1 i e hi).2) (e:=.lst n' (rows++rows')) (b:=bl) (nb:=(ρ j).2++nb') (w':=w') (Nat.le_of_eq hP.size.symm)
        (λx hx _=>hP.block x hx) (λx m h=>hP.whole h) (.inr ⟨j,_,hjK,hkj,ED hbl⟩) hnbj hnd ((hP.whole hW).le (by simpa[QE.rows,QE.n]using hfull)) (by simpa[QE.rows,QE.n,QE.E]using bP hR1 hR2) (λh=>by cases h) hP.os hP.tape hP.output
       refine⟨_,w',gL (w':=w') hT hTx hu hux hdx hz g2 g1 hroom (λb o hbo=>?_) (λh=>by cases h) (λa ha=>by injection ha with ha;subst ha;rfl),_,_,ρ',s1,?_,h⟩
       ·injection hbo with hbo;injection hbo with e1 e2;subst e1 e2;exact hr
       ·simp only[XR,true_and]
        refine⟨by rw[s3];omega,λm' len' hE=>(by rw[s2]at hE;cases hE),λbl m' len' hE=>?_⟩
        rw[s2]at hE;injection hE with hE;injection hE with e1 hE;injection hE with e2 e3;injection e1 with e1
        subst e1 e2 e3;exact⟨cap,by simp[QE.rows],by simpa[QE.rows]using hroom,hP.whole hW⟩
      ·obtain⟨w1,nc,q1,q2,q3,q4,q5,q6⟩:=TO (w:=w) (ty:=ty) hT hTx hu hux hdx hz hb' hzv g2 g1 (base:=some ⟨bl,0,none⟩) (len:=rows.length) (cap:=cap) (old:=vs) (λw' hw=>by
         simp only[Builtin.firstCells];exact Kz (w:=w') r1 (λi hi=>(KQ (w:=w) (w':=w') (by rw[hw])).trans (r2 i (by omega)))) (by omega) hfit
       obtain⟨ρ',s1,s2⟩:=ll hS (K1:=K1.set j none) (m:=n') (rows:=rows++rows') (nb:=(ρ j).2++nb') (vs:=vs++us) (rest:=(Builtin.zeroCells zv.cells (nc-(rows.length+rows'.length))).toList) (el:=e) (cap:=nc) q1 q2 q3 q4 hl1 (λi e hi=>g8 i e (hk1 i e hi).2)
        (by simpa using Zg r3 g3) (by simp[r1,g4,Nat.add_mul]) (λv hv=>by rcases List.mem_append.1 hv with hv|hv;exact r4 v hv;exact g5 v hv) (λr hr=>by rcases List.mem_append.1 hr with hr|hr;exact r5 r hr;exact g6 r hr) hnbj (List.nodup_cons.1 hnd).2 (by simpa using q5) (by simp[hzl0])
       have ec:(vs++us++(Builtin.zeroCells zv.cells (nc-(rows.length+rows'.length))).toList).toArray=vs.toArray++us.toArray++Builtin.zeroCells zv.cells (nc-(rows.length+rows'.length)):=by
        apply Array.ext';simp
       rw[ec]at s1 s2;refine⟨_,_,q6,_,_,ρ',s1,?_,h⟩;simpa using s2
     ·exact h.elim
    ·exact h.elim
   ·simp only[XR]at hs
    obtain⟨⟨base,rfl⟩,_⟩:=hs;obtain⟨hfit,h⟩:=h;exact nilcase (K1:=K1) g7 g8 g1 g2 g3 g4 g5 g6 g9 g10 base hfit h
   ·exact h.elim
  ·exact h.elim
 ·exact h.elim
def vI(z:List AV):∀l,∀r∈List.replicate l z,r.length=z.length
 |l,r,h=>by rw[List.eq_of_mem_replicate h]
def sK[Wd](hS:Sim n Y w0 F0 ρ f K a w){l c:AV}{k:AV→KS→Prop}{lk}{vl vc:Value}{t:TypeId}{b:Option Nat}(hb:∀e m z,Lr P t=some (e,m,z)→b=tb P e)
  {ns:List Nat} (h:bw ns K (Lr P t) b l c k lk) (hl:XR w (OO K ρ Y) (EK K ρ) l vl []) (hc:XR w (OO K ρ Y) (EK K ρ) c vc []):∃y w',(Instr.makeSlice t vl vc).run P w=.ok y w'∧Out n Y w0 F0 f a k y w':=by
 unfold bw at h
 split at h
 ·rename_i e m z b' l c ht
  split at h
  ·rename_i hlc
   subst hlc;obtain⟨⟨h0,h1⟩,hk⟩:=h;obtain⟨hu,hz,hzc,hzl,hm⟩:=cT ht;have hby:=hb e m z ht;obtain⟨inf,hi1,hi2⟩:=QaA hby.symm;simp only[XR]at hl hc;obtain⟨rfl,_⟩:=hl;obtain⟨rfl,_⟩:=hc;obtain⟨zv,hzv,rfl,hone⟩:=SO hzc;have hzs:zv.cells.size=m:=by simpa using hzl
   have hlb:l*1≤l*((b':Int)+1):=Int.mul_le_mul_of_nonneg_left (by omega) h0
   have hw:IntKind.i64.wrap l=l:=by rw[IntKind.wrap_i64];omega
   obtain⟨len,rfl⟩:∃len:Nat,l=len:=⟨l.toNat,by omega⟩
   rw[show((len:Int)).toNat=len from Int.toNat_natCast len]at hk;have hX0:XRs w (OO K ρ Y) EN (List.replicate len (nz ns (zv.cells.toList.map cv))).flatten ((Array.range (len*m)).map (λi=>zv.cells[i%zv.cells.size]!)).toList []:=by
    rw[←hzs,Ro (by omega)]
    exact dK (Y4 (SE _)) len
   have hul:=XP hX0;have hsz:((Array.range (len*m)).map (λi=>zv.cells[i%zv.cells.size]!)).size=len*m:=by simp
   obtain⟨ρ',s1,s2,s3⟩:=hS.push (K1:=K) rfl (λ_ _ h=>h) (e:=.lst m (List.replicate len (nz ns (zv.cells.toList.map cv)))) (nb:=[]) (c:=(Array.range (len*m)).map (λi=>zv.cells[i%zv.cells.size]!)) (el:=e) (vs:=((Array.range (len*m)).map (λi=>zv.cells[i%zv.cells.size]!)).toList)
    (λr hr=>by rw[vI _ _ r hr,KL];exact hzl) (by simpa only[QE.rows,QE.E]using hX0) (λi hi=>by rw[Array.getElem?_toList]) (λv hv=>by
     rw[←hzs,Ro (by omega)]at hv
     obtain⟨r,hr,hv⟩:=List.mem_flatten.1 hv;rw[List.eq_of_mem_replicate hr]at hv;exact hone v hv) (by simp[QE.rows,QE.n]) (by simp) (by simp) (λh=>by cases h)
   refine⟨.slice (some ⟨w.heap.size,0,none⟩) len len,_,?_,_,_,ρ',s1,j6 s1 (by rw[GZ];simp) s2 s3 (by simp[QE.rows]) (by simp[QE.rows,QE.n]),hk⟩
   have hi2':inf.bytes=b'+1:=hi2;have e1:((len*(b'+1):Nat):Int)=(len:Int)*((b':Int)+1):=by simp
   have e2:(((b'+1:Nat)):Int)*(len:Int)=(len:Int)*((b':Int)+1):=by rw[Int.mul_comm];simp
   have hprod:len*(b'+1)≤140737488355328:=by omega
   have q1:¬((len:Int)<0):=by omega
   have hfit:¬(2^47<len*inf.bytes):=by rw[hi2'];omega
   have hbig:¬((281474976710656:Int)<(inf.bytes:Int)*(len:Int)):=by rw[hi2',e2];omega
   unfold Instr.makeSlice;by_cases h00:len*m=0
   ·have e0:∀g:Nat→Value,(Array.range (len*m)).map g=#[]:=λg=>by rw[h00];exact Array.eq_empty_of_size_eq_zero (by simp)
    rw[e0];simp[V4 hu,asInt,asIntOf,hw,typeInfo,hi1,q1,hbig,askRoom,roomBytes,hfit,Xb hz,DA,h00];refine congrArg (λc=>L3 w c e) (Array.eq_empty_of_size_eq_zero ?_)
    simp
   ·simp[V4 hu,asInt,asIntOf,hw,typeInfo,hi1,q1,hbig,askRoom,roomBytes,hfit,Xb hz,IP hzv,DA,h00]
  ·exact h.elim
 ·exact h.elim
end
section
variable{P:Program}{n:NE}{Y:Nat→Prop}{w0:World}{F0:Nat→Prop}{ρ:Dl}{f:Fr}{K:KS}{a:Act}{w:World}
def ResOut(P:Program)(R:Value→World→Prop):Result Next→Prop
 |.ok (.value v) w'=>R v w'
 |.ok .skip w'=>R undef w'
 |.ok (.enter g args) w'=>Calls P g args w' λe w''=>∃v,e=.returned v∧R v w''
 |_=>False
def OpOut(P:Program)(o:Oper)(a:Act)(w:World)(R:Value→World→Prop):Prop:=ResOut P R ((execOp a.eval o).run P w)
def ResOut.value{s:Sem Value}{R:Value→World→Prop}{v:Value}{w':World}(h:s.run P w=.ok v w')(hr:R v w'):ResOut P R ((do pure (Next.value (←s)):Sem Next).run P w):=by
 simp only[Sem.run_bind,h,Result.andThen_ok,Sem.run_pure];exact hr
def ResOut.skip{s:Sem Unit}{R:Value→World→Prop}{w':World}(h:s.run P w=.ok () w')(hr:R undef w'):ResOut P R ((do s;pure Next.skip:Sem Next).run P w):=by
 simp only[Sem.run_bind,h,Result.andThen_ok,Sem.run_pure];exact hr
def OpOut.wp{o:Oper}{R:Value→World→Prop}{next:Act→World→Prop}{Q:Exit→Act→World→Prop}(h:OpOut P o a w R)(hn:∀v w',R v w'→next (a.put o.dst v) w'):o.wp P a w next Q:=by
 unfold Oper.wp;unfold OpOut at h;generalize (execOp a.eval o).run P w=r at h ⊢;unfold ResOut at h
 split at h
 ·rename_i v w';exact hn _ _ h
 ·rename_i w';exact hn _ _ h
 ·rename_i g args w'
  simp only[Oper.upon];refine h.mono λe w'' ⟨v,he,hr⟩=>?_
  subst he;exact hn _ _ hr
 ·exact h.elim
def Sim.evs[Wd](h:Sim n Y w0 F0 ρ f K a w):∀(xs:List Operand),XRs w (OO K ρ Y) (EK K ρ) (xs.map (Am.ev f)) (xs.map a.eval) []
 |[]=>by simp[XRs]
 |x::xs=>by
  simp only[List.map_cons,XRs];exact⟨_,_,[],[],rfl,rfl,h.ev x,h.evs xs⟩
def xT[Wd](hS:Sim n Y w0 F0 ρ f K a w){g:FuncId}{vs:List AV}{xs:List Value}{k:AV→KS→Prop}(h:TF P g K vs k ())(hx:XRs w (OO K ρ Y) (EK K ρ) vs xs []) :
  (callFunc g xs.toArray).run P w=.ok (.enter g xs.toArray) w∧Calls P g xs.toArray w λe w'=>∃v,e=.returned v∧Out n Y w0 F0 f a k v w':=by
 rcases h with⟨R,hP,hk⟩|⟨R,hA,hk⟩
 ·refine⟨hP.1 _ _,(hP.2 w xs (hS.yl.2 w hS.ext) (M3 hS.sees vs hx)).mono λe w' ⟨v,x,nb,h1,h2,h3,h4,h5,h6⟩=>?_⟩
  obtain⟨ρ',s1,s2⟩:=hS.import h6 h3 h4 h5;exact⟨v,h1,_,_,ρ',s1,s2,hk x h2⟩
 ·refine⟨hA.1 _ _,(hA.2 w ρ Y xs (λw1 h1=>hS.yl.2 w1 (hS.ext.trans h1 (λ_ h=>h) (λx hx ⟨j,e,q1,q2⟩=>by
    rcases hS.new j e x q1 q2 with q|q
    ·exact q
    ·omega))) (λb hb=>?_) hS.sees hx).mono λe w' ⟨v,r,K',ρ',h1,h2,h3,h4,h5,h6,h7,h8⟩=>?_⟩
  ·obtain⟨q1,q2⟩:=hS.yl.1 b hb
   refine⟨Nat.lt_of_lt_of_le q1 hS.ext.size,λj e hj hbj=>?_⟩
   rcases hS.new j e b hj hbj with q|q
   ·exact q2 q
   ·omega
  ·have hei:∀j p,j<(EK K ρ).sz→(EK K' ρ').of j=some p→(EK K ρ).of j=some p:=λj p hj hp=>by
    simp only[EK]at hj hp ⊢;cases hk':kg K' j with
    |none=>rw[hk']at hp;cases hp
    |some e' =>
     obtain⟨e0,q1,q2,q3,q4⟩:=h8 j e' hj hk';rw[hk']at hp;simp only[Option.map_some]at hp;rw[q1,Option.map_some,←hp,q2,q3,q4]
   have hsame:Same (OO K ρ Y) (EK K ρ) w (OO K' ρ' Y) (EK K' ρ') w':=by
    refine⟨h6.size,λb hb hlt=>h6.block b hlt (λ⟨j,e,q1,q2⟩=>hb (.inr ⟨j,e,q1,q2⟩)),λb hb hlt hb'=>?_,by simpa[EK]using h3,hei,λ_ _ _ _ _ _ _ hw=>h6.who _ _ hw⟩
    rcases hb' with hb'|⟨j,e,q1,q2⟩
    ·exact hb (.inl hb')
    ·rcases h7 j e b q1 q2 with⟨i,e',q3,q4⟩|q3
     ·exact hb (.inr ⟨i,e',q3,q4⟩)
     ·omega
   refine⟨v,h1,r,K',ρ',⟨hS.defers,hS.size,hsame.keep hS.keep,λt=>XR.mono (f t) hsame _ _ (by simp) (hS.fr t),h5,?_,?_,hS.yl⟩,h4,hk r K' h2⟩
   ·exact hS.ext.trans h6 (λ_ h=>h) (λx hx ⟨j,e,q1,q2⟩=>by
     rcases hS.new j e x q1 q2 with q|q
     ·exact q
     ·omega)
   ·intro j e b hj hb
    rcases h7 j e b hj hb with⟨i,e',q3,q4⟩|q3
    ·exact hS.new i e' b q3 q4
    ·exact .inr (Nat.le_trans hS.ext.size q3)
def zL{O:Nat→Prop}{E:EI}{x y:AV}{k:AV→Prop}{l}{vx vy:Value}{T:Array TypeId}{ty:TypeId}(h:eP x y k l)(hx:XR w O E x vx [])(hy:XR w O E y vy []) :
  ∃v av,Yl P (Builtin.min_ T ty #[vx,vy]) v∧XR w O E av v []∧k av:=by
 unfold eP at h
 split at h
 ·simp only[XR]at hx hy
  obtain⟨rfl,_⟩:=hx;obtain⟨rfl,_⟩:=hy;exact⟨_,_,λw=>by simp[Builtin.min_,Builtin.min2];rfl,by simp[XR],h⟩
 ·exact h.elim
def yC{O:Nat→Prop}{E:EI}{x y:AV}{k:AV→Prop}{l}{vx vy:Value}{T:Array TypeId}{ty:TypeId}(h:eV x y k l)(hx:XR w O E x vx [])(hy:XR w O E y vy []) :
  ∃v av,Yl P (Builtin.max_ T ty #[vx,vy]) v∧XR w O E av v []∧k av:=by
 unfold eV at h
 split at h
 ·simp only[XR]at hx hy
  obtain⟨rfl,_⟩:=hx;obtain⟨rfl,_⟩:=hy;exact⟨_,_,λw=>by simp[Builtin.max_,Builtin.max2];rfl,by simp[XR],h⟩
 ·exact h.elim
def vQ{O:Nat→Prop}{E:EI}{x:AV}{k:AV→Prop}{l}{vx:Value}{s t:TypeId}(h:TH (ti P t) x k l)(hx:XR w O E x vx [])(hs:∃d,P.underlying s=some d) :
  ∃v av,Yl P (convert s t vx) v∧XR w O E av v []∧k av:=by
 unfold TH at h
 split at h
 ·rename_i c d a ht
  have hu:=sD ht;obtain⟨d',hd'⟩:=hs;simp only[XR]at hx;obtain⟨rfl,_⟩:=hx;exact⟨_,_,λw=>by simp[convert,V4 hu,V4 hd',Conv.intToInt];rfl,by simp[XR],h⟩
 ·exact h.elim
def TG{O:Nat→Prop}{E:EI}:∀{rows:List (List AV)} {s:List UInt8} {bl off:Nat} {nb:List Nat},RR w O E 1 bl off rows nb→FZ rows=some s →
  ∃ns:List Int,ns.length=rows.length∧s=ns.map (λn=>UInt8.ofNat n.toNat)∧∀i,i<rows.length→w.cell? ⟨bl,off+i,none⟩=some (.int .u8 (ns.getD i 0))
 |[],s,bl,off,nb,_,hs=>by
  injection hs with hs
  exact⟨[],rfl,hs.symm,λi hi=>by simp at hi⟩
 |r::rs,s,bl,off,nb,h,hs=>by
  obtain⟨n1,n2,_,hr,hc,hrr⟩:=h;simp only[FZ]at hs
  split at hs
  ·rename_i x xs h1 h2
   injection hs with hs
   obtain⟨ns,q1,q2,q3⟩:=TG hrr h2;unfold cA at h1
   split at h1
   ·rename_i m
    injection h1 with h1
    simp only[CR,XR]at hc;obtain⟨v,m1,m2,⟨hv,_⟩,_,⟨rfl,_⟩,_⟩:=hc;refine⟨m::ns,by simp[q1],by rw[←hs,q2,←h1];rfl,λi hi=>?_⟩
    cases i with
    |zero=>simpa using hv
    |succ i =>
     have:=q3 i (by simpa using hi)
     rw[show off+(i+1)=off+1+i by omega]
     simpa using this
   ·cases h1
  ·cases hs
def QeM{s:TypeId}(h:bsl P s=true):∃e,P.underlying s=some (.slice e)∧P.underlying e=some (.int .u8):=by
 unfold bsl at h
 split at h
 ·rename_i e m hs
  split at h
  ·rename_i he
   exact⟨e,(YX hs).1,sD he⟩
  ·cases h
 ·cases h
def vq[Wd](hS:Sim n Y w0 F0 ρ f K a w){x:AV}{k:AV→Prop}{l}{vx:Value}{s t:TypeId}(h:Rx K (ti P t) x k l)(hx:XR w (OO K ρ Y) (EK K ρ) x vx [])(hs:bsl P s=true) :
  ∃v av,(convert s t vx).run P w=.ok v w∧XR w (OO K ρ Y) (EK K ρ) av v []∧k av:=by
 obtain⟨e,hu,he⟩:=QeM hs;unfold Rx at h
 split at h
 ·rename_i j ht
  have hd:=da ht
  split at h
  ·rename_i rows hj
   split at h
   ·rename_i bs hbs
    obtain⟨_,hlt,hnone,hsome⟩:=hx;have hr:=hS.sees.reg j _ hj;cases hb:(ρ j).1 with
    |none =>
     rw[hb]at hr;obtain⟨hr0,_⟩:=hr;have hr0':rows=[]:=hr0;subst hr0';injection hbs with hbs
     subst hbs;obtain⟨q,rfl⟩:=hnone 1 0 (by simp[EK,hj,hb,QE.n,QE.rows])
     refine⟨.string ⟨#[]⟩,_,?_,?_,h⟩
     ·rw[run_convert_bytes_string w s t e _ 0 0 hu he hd]
      cases q with
      |none=>simp[Conv.bytesToString];rfl
      |some q =>
       have hl:(loadCells q 0).run P w=.ok (([]:List Int).map (Value.int .u8)).toArray w:=by
        have:=run_loadCells_list (P:=P) w q [] (λj v hj=>by simp at hj)
        simpa using this
       rw[run_bytesToString w q 0 0 [] hl];rfl
     ·simp[XR]
    |some bl =>
     rw[hb]at hr;obtain⟨_,hrr,_⟩:=hr;obtain⟨cap,rfl,_,_⟩:=hsome bl 1 rows.length (by simp[EK,hj,hb,QE.n,QE.rows])
     obtain⟨ns,q1,q2,q3⟩:=TG (rows:=rows) hrr hbs;refine⟨_,_,run_convert_bytes_arg w s e hu he bl 0 rows.length cap ns q1 q3 t hd,?_,h⟩;simp only[XR];rw[q2];exact⟨rfl,trivial⟩
   ·exact h.elim
  ·exact h.elim
 ·exact h.elim
def oY{y:Operand}(h:FL y=true):y=.const (.slice none 0 0):=by
 unfold FL at h
 split at h
 ·rfl
 ·cases h
def qw{t:TypeId}(h:Kt P t=true):∃e,P.underlying t=some (.slice e):=by
 unfold Kt at h
 split at h
 ·rename_i e he;exact⟨e,he⟩
 ·cases h
def nu{O:Nat→Prop}{E:EI}{op:BinOp}{x:AV}{k:AV→Prop}{l}{vx:Value}{t:TypeId}{y:Operand}{cx cy:Operand}(h:MU op x k l)(hx:XR w O E x vx [])(hn:FL y=true)(ht:Kt P t=true) :
  ∃v av,Yl P (do eqGuard op t cx cy vx (a.eval y);binOp op t vx (a.eval y)) v∧XR w O E av v []∧k av:=by
 obtain⟨e,hu⟩:=qw ht;have hy:=oY hn;subst hy;unfold MU at h
 split at h
 ·rename_i m rows
  simp only[XR]at hx;obtain⟨_,ad,cap,rfl,_,hr⟩:=hx;refine⟨.bool ad.isNone,.b ad.isNone,λw=>by simp[Act.eval,eqGuard_at_slice,binOp,run_equal_slice_nil w t e ad _ _ hu],by simp[XR],?_⟩
  rcases hr with rfl|⟨bl,off,rfl,_⟩
  ·cases ad with
   |none=>exact h.1 rfl
   |some ad=>exact h.2
  ·exact h.2
 ·rename_i m rows
  simp only[XR]at hx;obtain⟨_,ad,cap,rfl,_,hr⟩:=hx;refine⟨.bool (!ad.isNone),.b (!ad.isNone),λw=>by simp[Act.eval,eqGuard_at_slice,binOp,run_equal_slice_nil w t e ad _ _ hu],by simp[XR],?_⟩
  rcases hr with rfl|⟨bl,off,rfl,_⟩
  ·cases ad with
   |none=>exact h.1 rfl
   |some ad=>exact h.2
  ·exact h.2
 ·exact h.elim
def QiU[Wd](hS:Sim n Y w0 F0 ρ f K a w)(ps:Array (Nat×Operand)):(ps.toList.map λp=>(p.1,Am.ev f p.2)).map (·.1)=(ps.map λ(i,x)=>(i,a.eval x)).toList.map (·.1) ∧
  ∀(i:Nat) (p:Nat×AV) (q:Nat×Value),(ps.toList.map λp=>(p.1,Am.ev f p.2))[i]?=some p→(ps.map λ(i,x)=>(i,a.eval x)).toList[i]?=some q→XR w (OO K ρ Y) (EK K ρ) p.2 q.2 []:=by
 refine⟨by simp,λi p q hp hq=>?_⟩
 rw[Array.toList_map,List.getElem?_map]at hq;rw[List.getElem?_map]at hp;cases h:ps.toList[i]? with
 |none=>rw[h]at hp;cases hp
 |some r =>
  rw[h]at hp hq;simp at hp hq;subst hp hq;exact hS.ev r.2
def zA{O:Nat→Prop}{E:EI}{x:AV}{i:Nat}{k:AV→Prop}{l}{vx:Value}{t:TypeId}(h:eA (E7 P t i) x k l)(hx:XR w O E x vx []) :
  ∃v av,Yl P (Instr.field t vx i) v∧XR w O E av v []∧k av:=by
 unfold eA at h
 split at h
 ·rename_i o tk' hto
  unfold E7 at hto
  split at hto
  ·rename_i fs hu
   split at hto
   ·rename_i fd hfd
    split at hto
    ·injection hto with hto
     injection hto with h1 h2
     subst h1 h2;cases x with
     |agg cs =>
      have hx':=hx;simp only[XR]at hx';obtain⟨vs,rfl,_⟩:=hx';obtain⟨v,av,h1,h2,h3⟩:=vz h hx;exact⟨v,av,λw=>by simp[Instr.field,underlying,hu,hfd,asAgg,h1 w],h2,h3⟩
     |_=>exact h.elim
    ·cases hto
   ·cases hto
  ·cases hto
 ·exact h.elim
def YG[Wd](hS:Sim n Y w0 F0 ρ f K a w){o:Oper}{k:AV→KS→Prop}{l}(h:Sy P o.op f K k l):OpOut P o a w (Out n Y w0 F0 f a k):=by
 obtain⟨dst,op,type,pos,after,guard⟩:=o;simp only at h;unfold OpOut;unfold Sy at h;simp only[execOp];have yl:∀{s:Sem Value} {kk:AV→Prop},(∃v av,Yl P s v∧XR w (OO K ρ Y) (EK K ρ) av v []∧k av K)→ResOut P (Out n Y w0 F0 f a k) ((do pure (Next.value (←s)):Sem Next).run P w) :=
  λ⟨v,av,h1,h2,h3⟩=>ResOut.value (h1 w) ⟨av,K,ρ,hS,h2,h3⟩
 split at h
 case h_1 x _=>exact⟨_,K,ρ,hS,hS.ev x,h⟩
 case h_2 x _=>exact⟨_,K,ρ,hS,hS.ev x,h⟩
 case h_3 c x y _ =>
  obtain⟨v,av,h1,h2,h3⟩:=sG (P:=P) h (hS.ev c) (hS.ev x) (hS.ev y);have:=h1 w;simp only[Sem.run_bind,Sem.run_pure]at this ⊢;generalize (asBool (a.eval c)).run P w=r at this ⊢;cases r with
  |halt _ _=>cases this
  |ok b w' =>
   simp only[Result.andThen_ok]at this ⊢;injection this with e1 e2
   subst e1 e2;exact⟨av,K,ρ,hS,h2,h3⟩
 case h_4 t _=>obtain⟨y,w',h1,h2⟩:=nU (P:=P) hS h;exact ResOut.value h1 h2
 case h_5 t v _=>obtain⟨y,w',h1,h2⟩:=ya (P:=P) hS h (hS.ev v);exact ResOut.value h1 h2
 case h_6 t ps _ =>
  obtain⟨z1,z2⟩:=QiU hS ps;exact yl (kk:=λ_=>True) (ng h z1 z2)
 case h_7 t len ps _ =>
  obtain⟨z1,z2⟩:=QiU hS ps;obtain⟨y,w',h1,h2⟩:=im (P:=P) hS h z1 z2;exact ResOut.value h1 h2
 case h_8 t x _=>obtain⟨v,av,h1,h2,h3⟩:=fL hS h (hS.ev x);exact ResOut.value h1 ⟨av,K,ρ,hS,h2,h3⟩
 case h_9 t p v _=>obtain⟨K',ρ',w',h1,h2,h3⟩:=Yk (P:=P) hS h (hS.ev p) (hS.ev v);exact ResOut.skip h1 ⟨.u,K',ρ',h2,by simp[XR],h3⟩
 case h_10 op t x y t' _ =>
  split at h
  ·rename_i hn
   split at h
   ·rename_i ht;exact yl (kk:=λ_=>True) (nu h (hS.ev x) hn ht)
   ·exact h.elim
  ·exact yl (kk:=λ_=>True) (wI h (hS.ev x) (hS.ev y))
 case h_11 op t x _=>exact yl (kk:=λ_=>True) (Qcz h (hS.ev x))
 case h_12 s t x _ =>
  split at h
  ·rename_i hb
   obtain⟨v,av,h1,h2,h3⟩:=vq hS h (hS.ev x) hb;exact ResOut.value h1 ⟨av,K,ρ,hS,h2,h3⟩
  ·split at h
   ·rename_i ht
    exact yl (kk:=λ_=>True) (vQ h (hS.ev x) (Option.isSome_iff_exists.1 ht))
   ·exact h.elim
 case h_13 g first caps _ =>
  split at h
  ·rename_i hf
   have hf':first.map a.eval=#[]:=by simpa using hf
   refine ResOut.value (v:=.func (.func g) #[] (caps.map a.eval)) (w':=w) (by simp[Instr.makeFunc,hf']) ⟨.clo g (caps.toList.map (Am.ev f)),K,ρ,hS,?_,h⟩
   simp only[XR];exact⟨trivial,_,rfl,by simpa using hS.evs caps.toList⟩
  ·exact h.elim
 case h_14 t x i _=>exact yl (kk:=λ_=>True) (w8 hS h (hS.ev x))
 case h_15 t x i _=>exact yl (kk:=λ_=>True) (yb hS h (hS.ev x) (hS.ev i))
 case h_16 x i _=>exact yl (kk:=λ_=>True) (xi h (hS.ev x))
 case h_17 args at' _ =>
  split at h
  ·rename_i x t _ h1 h2
   have e1:args=#[x]:=Array.toList_inj.1 h1;subst e1;have:=yl (kk:=λ_=>True) (wF (T:=at') (ty:=type) hS (t:=t) (by rw[←Array.getElem?_toList,h2];rfl) h (hS.ev x))
   simpa[resolve,invoke,builtin]using this
  ·exact h.elim
 case h_18 args at' _ =>
  split at h
  ·rename_i s x t tx _ h1 h2
   split at h
   ·rename_i hn
    have e1:args=#[s,x]:=Array.toList_inj.1 h1;subst e1;obtain⟨y,w',q1,q2⟩:=iv (P:=P) (el:=0) (T:=at') (ty:=type) hS (t:=t) (tx:=tx) (by rw[←Array.getElem?_toList,h2];rfl) (by rw[←Array.getElem?_toList,h2];rfl) hn rfl (λe m z hq=>by rw[hq];rfl) h (hS.ev s) (hS.ev x)
    have:=ResOut.value q1 q2;simpa[resolve,invoke,builtin]using this
   ·exact h.elim
  ·exact h.elim
 case h_19 args at' _ =>
  split at h
  ·rename_i x y h1
   have e1:args=#[x,y]:=Array.toList_inj.1 h1;subst e1;have:=yl (kk:=λ_=>True) (zL (T:=at') (ty:=type) h (hS.ev x) (hS.ev y))
   simpa[resolve,invoke,builtin]using this
  ·exact h.elim
 case h_20 args at' _ =>
  split at h
  ·rename_i x y h1
   have e1:args=#[x,y]:=Array.toList_inj.1 h1;subst e1;have:=yl (kk:=λ_=>True) (yC (T:=at') (ty:=type) h (hS.ev x) (hS.ev y))
   simpa[resolve,invoke,builtin]using this
  ·exact h.elim
 case h_21 g args at' _ =>
  have hg:=hS.ev g;unfold dY at h
  split at h
  ·rename_i g' caps hgv
   rw[hgv]at hg;simp only[XR]at hg;obtain⟨_,vs,hv,hc⟩:=hg;obtain⟨q1,q2⟩:=xT hS h (Zg (hS.evs args.toList) hc);have e2:(args.toList.map a.eval++vs.toList).toArray=args.map a.eval++vs:=by
    apply Array.toList_inj.1;simp
   rw[e2]at q1 q2;simp only[resolve,Deferred.ofValue,hv,Sem.run_bind,Sem.run_pure,Result.andThen_ok,invoke,Array.empty_append,q1];exact q2
  ·exact h.elim
 case h_22 t l c _=>obtain⟨y,w',h1,h2⟩:=sK (P:=P) hS (λe m z hq=>by rw[hq];rfl) h (hS.ev l) (hS.ev c);exact ResOut.value h1 h2
 case h_23 t x lo hi _=>exact yl (kk:=λ_=>True) (yH hS h (hS.ev x))
 case h_24 t x i _=>exact yl (kk:=λ_=>True) (Qam h (hS.ev x) (hS.ev i))
 case h_25 x _ =>
  have hx:=hS.ev x;unfold xP at h
  split at h
  ·rename_i j i o hv
   rw[hv]at hx
   split at h
   ·rename_i e hj
    obtain⟨b,hb,hp⟩:=Fg hS hj hx;simp only[hp];exact⟨.ptr j i o,K,ρ,hS,by rw[←hp];exact hx,h⟩
   ·exact h.elim
  ·rename_i m r i o hv
   rw[hv]at hx;have hx2:=hx;simp only[XR]at hx2;obtain⟨_,bl,off,hp,_⟩:=hx2;simp only[hp];exact⟨.iptr m r i o,K,ρ,hS,by rw[←hp];exact hx,h⟩
  ·exact h.elim
 case h_26 t x i _=>exact yl (kk:=λ_=>True) (zA h (hS.ev x))
 case h_27=>exact h.elim
end
def uA(s:Option Tmp)(want:Bool)(f:Fr)(yes no:Fr→Prop)(_:Lk (f,yes,no)):Prop :=
 match s with
 |some d=>match f d with
  |.b x=>XBr x (if want=true then yes (up f d (.b true))else no (up f d (.b true))) (if want=true then no (up f d (.b false))else yes (up f d (.b false))) ()
  |.tup []=>no f
  |_=>False
 |none=>False
def Gl(d:Option Tmp)(v:AV)(f:Fr)(k:Fr→Prop)(_:Lk (f,k)):Prop :=
 match d with
 |some d=>QoX v (λv=>k (up f d v)) ()
 |none=>k f
def Og[Wd](P:Program)(ops:Array Oper):(l:List Oper)→(f:Fr)→(K:KS)→(k:Fr→KS→Prop)→(_:Lk (l,f,k))→Prop
 |[],f,K,k,_=>k f K
 |o::r,f,K,k,_=>match o.guard with
  |none=>Sy P o.op f K (λv K'=>Gl o.dst v f (λf=>Og P ops r f K' k ()) ()) ()
  |some (j,want)=>uA ((ops[j]?).bind (·.dst)) want f (λf=>Sy P o.op f K (λv K'=>Gl o.dst v f (λf=>Og P ops r f K' k ()) ()) ()) (λf=>Gl o.dst (.tup []) f (λf=>Og P ops r f K k ()) ()) ()
def Ba(n:Nat)(o:Oper):Bool:=match o.dst with|some d=>d<n|none=>true
def Iz(n:Nat):Code→Bool
 |.region _ ops _=>ops.toList.all (Ba n)
 |.seq a b=>Iz n a&&Iz n b
 |.cond _ a b=>Iz n a&&Iz n b
 |.block _ c=>Iz n c
 |.loop c=>Iz n c
 |_=>true
section
variable{P:Program}{n:NE}{Y:Nat→Prop}{w0:World}{F0:Nat→Prop}{ρ:Dl}{f:Fr}{K:KS}{a:Act}{w:World}
def Ys[Wd](n:NE)(Y:Nat→Prop)(w0:World)(F0:Nat→Prop)(R:Fr→KS→Prop)(a:Act)(w:World):Prop :=
 ∃f K ρ,Sim n Y w0 F0 ρ f K a w∧R f K
def Sim.putO[Wd](hS:Sim n Y w0 F0 ρ f K a w){d:Option Tmp}(hd:∀i,d=some i→i<n.n){av:AV}{v:Value}(hv:XR w (OO K ρ Y) (EK K ρ) av v []){k:Fr→Prop}{l}(h:Gl d av f k l) :
  ∃f',Sim n Y w0 F0 ρ f' K (a.put d v) w∧k f':=by
 cases d with
 |none=>exact⟨f,hS,h⟩
 |some i=>exact⟨_,hS.put (hd i rfl) hv,h⟩
def Sim.self[Wd](hS:Sim n Y w0 F0 ρ f K a w)(d:Nat):Sim n Y w0 F0 ρ (up f d (f d)) K a w:=by
 have:up f d (f d)=f:=by funext t;unfold up;split<;>simp[*]
 rw[this];exact hS
def W9(w:World)(O:Nat→Prop)(E:EI):XR w O E (.tup []) undef []:=by simp only[XR];exact⟨#[],rfl,by simp[XRs]⟩
def OR{ops:Array Oper}{o:Oper}{j d:Nat}{want:Bool}{O:Nat→Prop}{E:EI}(hg:o.guard=some (j,want))(hj:(ops[j]?).bind (·.dst)=some d)(hv:XR w O E (.tup []) (a.tmps.getD d undef) []) :
  Region.wanted o (yielded ops a.tmps)=false:=by
 simp only[XR]at hv;obtain⟨vs,h1,h2⟩:=hv;have hy:yielded ops a.tmps j=none:=by
  unfold yielded;simp only[hj,Qa];rw[Array.getD_eq_getD_getElem?]at h1
  split
  ·rename_i b hb;rw[hb]at h1;cases h1
  ·rfl
 simp[Region.wanted,hg,hy]
def NX[Wd]{ops:Array Oper}{Q:Exit→Act→World→Prop}{k:Fr→KS→Prop}(hQ:∀a w,Ys n Y w0 F0 k a w→Q .normal a w) :
  ∀(is:List Nat) (l:List Oper),is.map (ops[·]?)=l.map some→(l.all (Ba n.n))=true→∀(ρ:Dl) (f:Fr) (K:KS) (a:Act) (w:World),Sim n Y w0 F0 ρ f K a w→Og P ops l f K k ()→wpOps P ops Q is a w
 |[],[],_,_,ρ,f,K,a,w,hS,h=>hQ a w ⟨f,K,ρ,hS,h⟩
 |[],_::_,hm,_,_,_,_,_,_,_,_=>by simp at hm
 |_::_,[],hm,_,_,_,_,_,_,_,_=>by simp at hm
 |i::is,o::l,hm,hd,ρ,f,K,a,w,hS,h=>by
  simp only[List.map_cons,List.cons.injEq]at hm;simp only[List.all_cons,Bool.and_eq_true]at hd;have hdst:∀d,o.dst=some d→d<n.n:=λd hd'=>by simpa[Ba,hd']using hd.1
  simp only[wpOps,hm.1];have run:∀{ρ f K},Sim n Y w0 F0 ρ f K a w→Sy P o.op f K (λv K'=>Gl o.dst v f (λf=>Og P ops l f K' k ()) ()) ()→o.wp P a w (wpOps P ops Q is) Q:=λ{ρ f K} hS h =>
   (YG hS h).wp λv w' ⟨av,K',ρ',h1,h2,h3⟩=>by
    obtain⟨f',h4,h5⟩:=h1.putO hdst h2 h3;exact NX hQ is l hm.2 hd.2 _ _ _ _ _ h4 h5
  unfold Og at h
  split at h
  ·rename_i hg
   rw[if_pos (by simp[Region.wanted,hg])]
   exact .inl (run hS h)
  ·rename_i j want hg
   unfold uA at h
   split at h
   ·rename_i d hj
    have no:∀f,Sim n Y w0 F0 ρ f K a w→Gl o.dst (.tup []) f (λf=>Og P ops l f K k ()) ()→wpOps P ops Q is (a.put o.dst undef) w:=λf hS h=>by
     obtain⟨f',h4,h5⟩:=hS.putO hdst (v:=undef) (W9 _ _ _) h;exact NX hQ is l hm.2 hd.2 _ _ _ _ _ h4 h5
    split at h
    ·rename_i x hx
     have hv:=hS.fr d;rw[hx]at hv;simp only[XR]at hv;have hdn:d<n.n:=by
      refine Nat.lt_of_not_le λhge=>?_
      have:=hv.1;rw[Array.getD_eq_getD_getElem?,Array.getElem?_eq_none (by rw[hS.size];exact hge)]at this
      cases this
     have hy:yielded ops a.tmps j=some x:=by
      unfold yielded;have h1:a.tmps[d]?=some (.bool x):=by
       have h2:=hv.1;rw[Array.getD_eq_getD_getElem?]at h2;rw[Array.getElem?_eq_getElem (by rw[hS.size];exact hdn)]at h2 ⊢
       simpa using h2
      simp only[hj,Qa,h1]
     have hw:Region.wanted o (yielded ops a.tmps)=(x==want):=by simp[Region.wanted,hg,hy]
     have hS':=hS.self d;rw[hx]at hS';unfold XBr at h;rw[hw];cases x<;>cases want<;>simp at h ⊢
     ·exact .inl (run hS' h)
     ·exact no _ hS' h
     ·exact no _ hS' h
     ·exact .inl (run hS' h)
    ·rename_i hx
     have hv:=hS.fr d;rw[hx]at hv;rw[OR hg hj hv];exact no _ hS h
    ·exact h.elim
   ·exact h.elim
end
inductive XE where
 |normal|ret|exit (id:Nat)
abbrev QT:=XE→Fr→KS→Prop
def QbB(k:Fr→KS→Prop)(Q:QT):QT
 |.normal,f,K=>k f K
 |e,f,K=>Q e f K
def Qj8(id:Nat)(Q:QT):QT
 |.exit id',f,K=>if id'=id then Q .normal f K else Q (.exit id') f K
 |e,f,K=>Q e f K
def Wk[Wd](z:Nat)(f:Fr)(K:KS)(f':Fr)(K':KS):Prop :=
 ∀(n:NE) (Y:Nat→Prop) (w0:World) (F0:Nat→Prop) (ρ:Dl) (a:Act) (w:World),n.E.sz≤z→Sim n Y w0 F0 ρ f K a w→∃ρ',Sim n Y w0 F0 ρ' f' K' a w
def Qny[Wd](z:Nat)(body:QT→Fr→KS→Prop)(Q:QT)(f:Fr)(K:KS):Prop :=
 ∃I:Nat→Fr→KS→Prop,(∃m f' K',Wk z f K f' K'∧I m f' K') ∧
  ∀m f K,I m f K→body (QbB (λf K=>∃m' f' K',Wk z f K f' K'∧m'<m∧I m' f' K') Q) f K
def Qex[Wd](P:Program)(ops:Array Oper)(f:Fr)(K:KS)(k:Fr→KS→Prop)(_:Lk (ops,f,k)):Prop :=
 ∀(n:NE) (Y:Nat→Prop) (w0:World) (F0:Nat→Prop) (ρ:Dl) (a:Act) (w:World) (Q:Exit→Act→World→Prop),ops.toList.all (Ba n.n)=true→Sim n Y w0 F0 ρ f K a w →
  (∀a w,Ys n Y w0 F0 k a w→Q .normal a w)→wpAny P .any ops Q ops.size (Array.replicate ops.size false) a w
def OP[Wd](P:Program)(z:Nat):(c:Code)→(Q:QT)→(f:Fr)→KS→(_:Lk (c,Q,f))→Prop
 |.skip,Q,f,K,_=>Q .normal f K
 |.ret,Q,f,K,_=>Q .ret f K
 |.exit id,Q,f,K,_=>Q (.exit id) f K
 |.seq a b,Q,f,K,_=>OP P z a (QbB (λf K=>OP P z b Q f K ()) Q) f K ()
 |.cond c a b,Q,f,K,_=>Qa8 (ev f c) (OP P z a Q f K ()) (OP P z b Q f K ()) ()
 |.block id c,Q,f,K,_=>OP P z c (Qj8 id Q) f K ()
 |.loop c,Q,f,K,_=>Qny z (λQ f K=>OP P z c Q f K ()) Q f K
 |.region _ ops false,Q,f,K,_=>Og P ops ops.toList f K (λf K=>Q .normal f K) ()
 |.region _ ops true,Q,f,K,_=>Qex P ops f K (λf K=>Q .normal f K) ()
 |_,_,_,_,_=>False
section
variable{P:Program}{n:NE}{Y:Nat→Prop}{w0:World}{F0:Nat→Prop}{ρ:Dl}{f:Fr}{K:KS}{a:Act}{w:World}
def Sim.drawn[Wd](hS:Sim n Y w0 F0 ρ f K a w):Sim n Y w0 F0 ρ f K a { w with drawn:=w.drawn+1 }:=by
 have hs:Same (OO K ρ Y) (EK K ρ) w (OO K ρ Y) (EK K ρ) { w with drawn:=w.drawn+1 } :=
  ⟨Qg _,λ_ _ _=>rfl,λ_ h _=>h,Qg _,λ_ _ _ h=>h,λ_ _ _ _ _ _ _ h=>h⟩
 have he:Ext (λ_=>False) w { w with drawn:=w.drawn+1 }:=⟨rfl,rfl,rfl,Qg _,λ_ _ _=>rfl,λ_ _ h=>h⟩
 refine⟨hS.defers,hS.size,hs.keep hS.keep,λt=>XR.mono (f t) hs _ _ (by simp) (hS.fr t),⟨λj e hj=>?_,hS.sees.nd,hS.sees.lt,hS.sees.dj⟩,hS.ext.trans he (λ_ h=>h) (λ_ _ h=>h.elim),hS.new,hS.yl⟩
 have hs':Same (OO K ρ Y) (e.E (EK K ρ)) w (OO K ρ Y) (e.E (EK K ρ)) { w with drawn:=w.drawn+1 }:=by
  cases e with
  |box cs=>exact hs
  |lst n rows=>exact hs.en
 exact Reg.mono hs' (λ_ _=>rfl) (λ_ _=>rfl) (hS.sees.reg j e hj)
def QQ[Wd](n:NE)(Y:Nat→Prop)(w0:World)(F0:Nat→Prop)(Q:QT):Exit→Act→World→Prop
 |.normal,a,w=>Ys n Y w0 F0 (Q .normal) a w
 |.ret,a,w=>Ys n Y w0 F0 (Q .ret) a w
 |.exit id,a,w=>Ys n Y w0 F0 (Q (.exit id)) a w
 |_,_,_=>False
def gf[Wd]{z:Nat}(hz:n.E.sz≤z)(hm:P.follows .mixedOrders=true):∀(c:Code),Iz n.n c=true→∀{Q:QT} {ρ:Dl} {f:Fr} {K:KS} {a:Act} {w:World},Sim n Y w0 F0 ρ f K a w→OP P z c Q f K ()→c.wp P (QQ n Y w0 F0 Q) a w:=by
 intro c
 induction c with
 |skip=>intro _ Q ρ f K a w hS h;exact wp_skip ⟨f,K,ρ,hS,h⟩
 |ret=>intro _ Q ρ f K a w hS h;exact wp_ret ⟨f,K,ρ,hS,h⟩
 |exit id=>intro _ Q ρ f K a w hS h;exact wp_exit ⟨f,K,ρ,hS,h⟩
 |region id ops draw =>
  intro hc Q ρ f K a w hS h;cases draw with
  |false =>
   exact wp_region (NX (λa w h=>h) _ _ (by
    apply List.ext_getElem?;intro i;simp only[List.getElem?_map]
    rcases Nat.lt_or_ge i ops.size with h'|h'
    ·simp[h']
    ·simp[h']) hc _ _ _ _ _ hS h)
  |true=>exact wp_region_any hm (h n Y w0 F0 ρ a _ _ hc hS.drawn (λa w h=>h))
 |seq x y ihx ihy =>
  intro hc Q ρ f K a w hS h;simp only[Iz,Bool.and_eq_true]at hc;refine wp_seq (wp_mono (ihx hc.1 hS h) λe a w hq=>?_)
  cases e with
  |normal=>obtain⟨f,K,ρ,h1,h2⟩:=hq;exact ihy hc.2 h1 h2
  |ret=>exact hq
  |exit id=>exact hq
  |goto l=>exact hq
  |panic l=>exact hq
  |outgrown=>exact hq
 |cond c x y ihx ihy =>
  intro hc Q ρ f K a w hS h;simp only[Iz,Bool.and_eq_true]at hc;unfold OP Qa8 at h
  split at h
  ·rename_i b hb
   have:=hS.ev c;rw[hb]at this;simp only[XR]at this;exact wp_cond_split this.1 (λhb=>ihx hc.1 hS (h.1 hb)) (λhb=>ihy hc.2 hS (h.2 hb))
  ·exact h.elim
 |block id c ih =>
  intro hc Q ρ f K a w hS h;refine wp_block (wp_mono (ih hc hS h) λe a w hq=>?_)
  cases e with
  |exit id' =>
   obtain⟨f1,K1,ρ1,q1,q2⟩:=hq;simp only[Qj8]at q2;simp only[Exit.inBlock]
   split
   ·rename_i he;rw[if_pos he]at q2;exact⟨f1,K1,ρ1,q1,q2⟩
   ·rename_i he;rw[if_neg he]at q2;exact⟨f1,K1,ρ1,q1,q2⟩
  |normal=>exact hq
  |ret=>exact hq
  |goto l=>exact hq
  |panic l=>exact hq
  |outgrown=>exact hq
 |loop c ih =>
  intro hc Q ρ f K a w hS h;obtain⟨I,⟨m,f',K',hk,hI⟩,hr⟩:=h;obtain⟨ρ',hS'⟩:=hk n Y w0 F0 ρ a w hz hS;have key:∀m a w,Ys n Y w0 F0 (I m) a w→∀(b:Frame) (k:List Item) (cs:List Frame),
    ∃e a' w',QQ n Y w0 F0 Q e a' w'∧Arrives P (lone (b.at a (.code c::.inLoop c::k)) cs w) b k cs e a' w':=by
   intro m
   induction m using Nat.strongRecOn with
   |_ m ihm =>
    intro a w ⟨f,K,ρ,hS,hI⟩ b k cs;obtain⟨e,a₁,w₁,hq,harr⟩:=ih hc hS (hr m f K hI) b (.inLoop c::k) cs;cases e with
    |normal =>
     obtain⟨f1,K1,ρ1,q1,m',f2,K2,q2,q3,q4⟩:=hq;obtain⟨ρ2,q5⟩:=q2 n Y w0 F0 ρ1 a₁ w₁ hz q1;obtain⟨e₂,a₂,w₂,hq₂,harr₂⟩:=ihm m' q3 a₁ w₁ ⟨f2,K2,ρ2,q5,q4⟩ b k cs;exact⟨e₂,a₂,w₂,hq₂,.of_steps (Steps.trans harr (.one step_inLoop)) harr₂⟩
    |exit id =>
     have hq':QQ n Y w0 F0 Q (.exit id) a₁ w₁:=hq;exact⟨_,a₁,w₁,hq',.pass (x:=.inLoop c) rfl (λ_ _=>.inl (by simp)) harr⟩
    |ret =>
     have hq':QQ n Y w0 F0 Q .ret a₁ w₁:=hq;exact⟨_,a₁,w₁,hq',.pass (x:=.inLoop c) rfl (λ_ _=>.inl (by simp)) harr⟩
    |goto l=>exact hq.elim
    |panic ch=>exact hq.elim
    |outgrown=>exact hq.elim
  intro b k cs;obtain⟨e,a',w',hq,harr⟩:=key m a w ⟨f',K',ρ',hS',hI⟩ b k cs;exact⟨e,a',w',hq,.of_steps (.one step_loop) harr⟩
 |rangeFunc _ _ _ _ _ _=>intro _ Q ρ f K a w hS h;exact h.elim
 |scope _ _=>intro _ Q ρ f K a w hS h;exact h.elim
 |label _=>intro _ Q ρ f K a w hS h;exact h.elim
 |goto _=>intro _ Q ρ f K a w hS h;exact h.elim
 |refuse _=>intro _ Q ρ f K a w hS h;exact h.elim
end
def Uh:List Nat→Nat→Option Nat
 |[],_=>none
 |x::xs,j=>if x=j then some 0 else(Uh xs j).map (·+1)
def mz:∀{π:List Nat} {j i:Nat},Uh π j=some i→π[i]?=some j
 |[],j,i,h=>by cases h
 |x::xs,j,i,h=>by
  unfold Uh at h
  split at h
  ·rename_i hx;injection h with h;subst h hx;rfl
  ·obtain⟨i',h1,rfl⟩:=Option.map_eq_some_iff.1 h
   simpa using mz h1
mutual
def ren(π:List Nat):AV→AV
 |.sl j=>match Uh π j with|some i=>.sl i|none=>.u
 |.ptr j i o=>match Uh π j with|some j=>.ptr j i o|none=>.u
 |.agg cs=>.agg (IY π cs)
 |.tup cs=>.tup (IY π cs)
 |.clo g cs=>.clo g (IY π cs)
 |v=>v
def IY(π:List Nat):List AV→List AV
 |[]=>[]
 |c::cs=>ren π c::IY π cs
end
def NA(π:List Nat):∀cs:List AV,(IY π cs).length=cs.length
 |[]=>rfl
 |c::cs=>by simp[IY,NA π cs]
def Pl(π:List Nat):QE→QE
 |.box cs=>.box (IY π cs)
 |.lst n rows=>.lst n rows
def Ren(π:List Nat)(E E':EI):Prop:=∀j i,Uh π j=some i→i<E'.sz∧∀p,E'.of i=some p→E.of j=some p
mutual
theorem jA{π:List Nat}{O O':Nat→Prop}{E E':EI}{w:World}(hs:Same O EN w O' EN w)(hE:Ren π E E'):∀(a:AV) {v:Value},XR w O E a v []→XR w O' E' (ren π a) v []
 |.sl j,v,h=>by
  simp only[ren]
  split
  ·rename_i i hi
   obtain⟨h1,h2⟩:=hE j i hi;simp only[XR]at h ⊢;exact⟨trivial,h1,λn len he=>h.2.2.1 n len (h2 _ he),λbl n len he=>h.2.2.2 bl n len (h2 _ he)⟩
  ·simp[XR]
 |.ptr j i o,v,h=>by
  simp only[ren]
  split
  ·rename_i k hi
   obtain⟨h1,h2⟩:=hE j k hi;simp only[XR]at h ⊢;exact⟨trivial,h1,λn len he=>h.2.2.1 n len (h2 _ he),λbl n len he=>h.2.2.2 bl n len (h2 _ he)⟩
  ·simp[XR]
 |.u,v,h=>by simp[ren,XR]
 |.b _,v,h=>by simpa only[ren,XR]using h
 |.i _ _,v,h=>by simpa only[ren,XR]using h
 |.s _,v,h=>by simpa only[ren,XR]using h
 |.nil,v,h=>by simpa only[ren,XR]using h
 |.z,v,h=>by simpa only[ren,XR]using h
 |.imm n rows,v,h=>by
  have:XR w O EN (.imm n rows) v []:=by simpa only[XR]using h
  have:=XR.mono _ hs v [] (by simp) this
  simpa only[ren,XR]using this
 |.iptr n rows i o,v,h=>by
  have:XR w O EN (.iptr n rows i o) v []:=by simpa only[XR]using h
  have:=XR.mono _ hs v [] (by simp) this
  simpa only[ren,XR]using this
 |.own n rows,v,h=>by
  have:XR w O EN (.own n rows) v []:=by simpa only[XR]using h
  have:=XR.mono _ hs v [] (by simp) this
  simpa only[ren,XR]using this
 |.agg cs,v,h=>by
  simp only[ren,XR]at h ⊢;obtain⟨vs,h1,h2⟩:=h;exact⟨vs,h1,U2 hs hE cs h2⟩
 |.tup cs,v,h=>by
  simp only[ren,XR]at h ⊢;obtain⟨vs,h1,h2⟩:=h;exact⟨vs,h1,U2 hs hE cs h2⟩
 |.clo g cs,v,h=>by
  simp only[ren,XR]at h ⊢;obtain⟨h0,vs,h1,h2⟩:=h;exact⟨h0,vs,h1,U2 hs hE cs h2⟩
theorem U2{π:List Nat}{O O':Nat→Prop}{E E':EI}{w:World}(hs:Same O EN w O' EN w)(hE:Ren π E E'):∀(cs:List AV) {vs:List Value},XRs w O E cs vs []→XRs w O' E' (IY π cs) vs []
 |[],vs,h=>by simpa only[IY,XRs]using h
 |c::cs,vs,h=>by
  simp only[IY,XRs]at h ⊢;obtain⟨v,vs',n1,n2,h1,h2,h3,h4⟩:=h;obtain⟨rfl,rfl⟩:=List.append_eq_nil_iff.1 h2.symm;exact⟨v,vs',[],[],h1,rfl,jA hs hE c h3,U2 hs hE cs h4⟩
end
def qU{π:List Nat}{O O':Nat→Prop}{E E':EI}{w:World}(hs:Same O EN w O' EN w)(hE:Ren π E E'):∀(cs:List AV) {bl o:Nat},CR w O E bl o cs []→CR w O' E' bl o (IY π cs) []
 |[],bl,o,h=>by simp only[IY,CR]at h ⊢<;>exact h
 |c::cs,bl,o,h=>by
  simp only[IY,CR]at h ⊢;obtain⟨v,n1,n2,h1,h2,h3,h4⟩:=h;obtain⟨rfl,rfl⟩:=List.append_eq_nil_iff.1 h2.symm;exact⟨v,[],[],h1,rfl,jA hs hE c h3,qU hs hE cs h4⟩
def Qab(sl:List Nat)(g:Nat→AV)(t:Nat):Vm (sl.map λt=>(t,g t)) t=g t∨Vm (sl.map λt=>(t,g t)) t=.u:=by
 induction sl with
 |nil=>exact .inr rfl
 |cons s sl ih =>
  simp only[List.map_cons,Vm,up]
  split
  ·rename_i h;subst h;exact .inl rfl
  ·exact ih
def Wk.ren[Wd]{z:Nat}{f:Fr}{K:KS}(π sl:List Nat)(h1:π.Nodup)(h2:π.take z=List.range z) :
  Wk z f K (Vm (sl.map λt=>(t,Am.ren π (f t)))) (π.map λj=>(kg K j).map (Pl π)):=by
 intro n Y w0 F0 ρ a w hz hS
 let K':KS:=π.map λj=>(kg K j).map (Pl π)
 let ρ':Dl:=λi=>ρ (π.getD i 0)
 have hK':∀i e',kg K' i=some e'→∃j e,π[i]?=some j∧kg K j=some e∧e'=Pl π e∧ρ' i=ρ j:=λi e' hi=>by
  simp only[kg,K',List.getD,List.getElem?_map]at hi;cases hj:π[i]? with
  |none=>simp[hj]at hi
  |some j =>
   simp only[hj,Option.map_some,Option.getD_some]at hi;obtain⟨e,he,rfl⟩:=Option.map_eq_some_iff.1 hi;exact⟨j,e,rfl,he,rfl,by simp[ρ',List.getD,hj]⟩
 have hn:∀e:QE,(Pl π e).n=e.n:=λe=>by cases e<;>simp[Pl,QE.n,NA]
 have hl:∀e:QE,(Pl π e).rows.length=e.rows.length:=λe=>by cases e<;>simp[Pl,QE.rows]
 have hlen:K'.length=π.length:=by simp[K']
 have hzl:z≤π.length:=by
  have:=congrArg List.length h2;simp at this;omega
 have hinj:∀i i' j,π[i]?=some j→π[i']?=some j→i=i':=λi i' j h h'=>by
  have hi:i<π.length:=by
   rcases Nat.lt_or_ge i π.length with q|q
   ·exact q
   ·rw[List.getElem?_eq_none q]at h;cases h
  exact(List.getElem?_inj hi h1).1 (h.trans h'.symm)
 have hof:∀i p,(EK K' ρ').of i=some p→∃j,π[i]?=some j∧(EK K ρ).of j=some p:=λi p hp=>by
  simp only[EK]at hp ⊢;cases hk:kg K' i with
  |none=>rw[hk]at hp;cases hp
  |some e' =>
   obtain⟨j,e,q1,q2,rfl,q4⟩:=hK' i e' hk;refine⟨j,q1,?_⟩;rw[hk]at hp;rw[q2];simp only[Option.map_some,hn,hl,q4]at hp ⊢;exact hp
 have hRen:Ren π (EK K ρ) (EK K' ρ'):=λj i hi=>by
  have hp:=mz hi;refine⟨?_,λp hp'=>?_⟩
  ·simp only[EK,hlen]
   rcases Nat.lt_or_ge i π.length with q|q
   ·exact q
   ·rw[List.getElem?_eq_none q]at hp;cases hp
  ·obtain⟨j',q1,q2⟩:=hof i p hp'
   rw[hp]at q1;injection q1 with q1;subst q1
   exact q2
 have hO:∀b,OO K' ρ' Y b→OO K ρ Y b:=by
  rintro b (h|⟨i,e',hi,hb⟩)
  ·exact .inl h
  ·obtain⟨j,e,q1,q2,_,q4⟩:=hK' i e' hi
   exact .inr ⟨j,e,q2,by unfold fp at hb ⊢;rwa [q4]at hb⟩
 have hs:Same (OO K ρ Y) EN w (OO K' ρ' Y) EN w:=Same.weak hO;refine⟨ρ',hS.defers,hS.size,⟨?_,λj p hj hp=>?_⟩,λt=>?_,⟨λi e' hi=>?_,λi e' hi=>?_,λi e' b hi hb=>?_,λi e' k e'' b hi hk hik hb hb'=>?_⟩,hS.ext,λi e' b hi hb=>?_,hS.yl⟩
 ·show n.E.sz≤K'.length
  omega
 ·obtain⟨j',q1,q2⟩:=hof j p hp
  have:π[j]?=some j:=by
   have hjz:j<z:=by omega
   have h3:=congrArg (·[j]?) h2
   simp only[List.getElem?_take,hjz,if_true]at h3;rw[h3];simp[hjz]
  rw[this]at q1;injection q1 with q1;subst q1
  exact hS.keep.2 j p hj q2
 ·rcases Qab sl (λt=>Am.ren π (f t)) t with h|h
  ·rw[h];exact jA hs hRen (f t) (hS.fr t)
  ·rw[h];simp[XR]
 ·obtain⟨j,e,q1,q2,rfl,q4⟩:=hK' i e' hi
  have hr:=hS.sees.reg j e q2;rw[q4];unfold Reg at hr ⊢;cases hb:(ρ j).1 with
  |none =>
   rw[hb]at hr;refine⟨?_,hr.2⟩;have:=hl e;rw[hr.1]at this;exact List.length_eq_zero_iff.1 this
  |some b =>
   rw[hb]at hr;simp only[hn,hl]at hr ⊢;obtain⟨r1,r2,r3⟩:=hr;refine⟨r1,?_,λhbx=>r3 (by cases e<;>first|(simp[Pl,QE.isBox]at hbx;done)|simp[Pl,QE.isBox])⟩
   cases e with
   |lst m rows=>exact RR.mono _ hs _ _ _ rfl (λ_ _=>rfl) r2
   |box cs =>
    have h0:=r3 rfl;rw[h0]at r2 ⊢;simp only[Pl,QE.rows,QE.E,QE.n,RR]at r2 ⊢;obtain⟨n1,n2,e1,e2,e3,rfl⟩:=r2;obtain⟨rfl,_⟩:=List.append_eq_nil_iff.1 e1.symm;exact⟨[],[],rfl,NA π cs,qU hs hRen cs e3,rfl⟩
 ·obtain⟨j,e,q1,q2,rfl,q4⟩:=hK' i e' hi
  have:=hS.sees.nd j e q2;unfold fp at this ⊢
  rwa [q4]
 ·obtain⟨j,e,q1,q2,rfl,q4⟩:=hK' i e' hi
  unfold fp at hb;rw[q4]at hb;exact hS.sees.lt j e b q2 hb
 ·obtain⟨j,e,q1,q2,rfl,q4⟩:=hK' i e' hi
  obtain⟨j',e0,q5,q6,rfl,q8⟩:=hK' k e'' hk;unfold fp at hb hb';rw[q4]at hb;rw[q8]at hb';have hjj:j≠j':=λh=>by subst h;exact hik (hinj i k j q1 q5)
  exact hS.sees.dj j e j' e0 b q2 q6 hjj hb hb'
 ·obtain⟨j,e,q1,q2,rfl,q4⟩:=hK' i e' hi
  unfold fp at hb;rw[q4]at hb;exact hS.new j e b q2 hb
def Wk.refl[Wd](z:Nat)(f:Fr)(K:KS):Wk z f K f K:=λn Y w0 F0 ρ a w _ hS=>⟨ρ,hS⟩
def Wk.trans[Wd]{z:Nat}{f f1 f2:Fr}{K K1 K2:KS}(h:Wk z f K f1 K1)(h':Wk z f1 K1 f2 K2):Wk z f K f2 K2:=λn Y w0 F0 ρ a w hz hS=>by
 obtain⟨ρ1,h1⟩:=h n Y w0 F0 ρ a w hz hS;exact h' n Y w0 F0 ρ1 a w hz h1
def Wk.nil[Wd]{z:Nat}{f:Fr}{K:KS}(t m:Nat)(ht:f t=.nil):Wk z f K (up f t (.sl K.length)) (K++[some (.lst m [])]):=λn Y w0 F0 ρ a w hz hS=>by
 obtain⟨ρ',s1,s2⟩:=hS.addNil (K1:=K) rfl (λ_ _ h=>h) m
 refine⟨ρ',s1.defers,s1.size,s1.keep,λs=>?_,s1.sees,s1.ext,s1.new,s1.yl⟩
 unfold up
 split
 ·rename_i h
  subst h;have:=s1.fr s;rw[ht]at this;simp only[XR]at this;obtain⟨⟨q,hq⟩,_⟩:=this;rw[hq];exact s2 _ q
 ·exact s1.fr s
end Go.Proofs.YtfhnbabcbhgffaaGreatDoor.Am
namespace Go.Proofs.YtfhnbabcbhgffaaGreatDoor.Am
open Go
mutual
def AV.clean:AV→Bool
 |.u|.b _|.i _ _|.s _|.nil|.z=>true
 |.own _ rows=>Va rows
 |.agg cs=>Jf cs
 |.tup cs=>Jf cs
 |_=>false
def Jf:List AV→Bool
 |[]=>true
 |c::cs=>c.clean&&Jf cs
def Va:List (List AV)→Bool
 |[]=>true
 |r::rs=>Jf r&&Va rs
end
mutual
theorem W8{O O':Nat→Prop}{w:World}:∀(a:AV) {E:EI} {v:Value} {nb:List Nat},a.clean=true→XR w O E a v nb→XR w O' E a v nb
 |.u,E,v,nb,_,h=>by simpa only[XR]using h
 |.b _,E,v,nb,_,h=>by simpa only[XR]using h
 |.i _ _,E,v,nb,_,h=>by simpa only[XR]using h
 |.s _,E,v,nb,_,h=>by simpa only[XR]using h
 |.nil,E,v,nb,_,h=>by simpa only[XR]using h
 |.z,E,v,nb,_,h=>by simpa only[XR]using h
 |.own n rows,E,v,nb,hc,h=>by
  simp only[XR]at h ⊢
  rcases h with h|⟨bl,n',cap,h1,h2,h3,h4,h5⟩
  ·exact .inl h
  ·exact .inr ⟨bl,n',cap,h1,h2,h3,h4,PU rows (by simpa only[AV.clean]using hc) h5⟩
 |.agg cs,E,v,nb,hc,h=>by
  simp only[XR]at h ⊢;obtain⟨vs,h1,h2⟩:=h;exact⟨vs,h1,SX cs (by simpa only[AV.clean]using hc) h2⟩
 |.tup cs,E,v,nb,hc,h=>by
  simp only[XR]at h ⊢;obtain⟨vs,h1,h2⟩:=h;exact⟨vs,h1,SX cs (by simpa only[AV.clean]using hc) h2⟩
theorem SX{O O':Nat→Prop}{w:World}:∀(cs:List AV) {E:EI} {vs:List Value} {nb:List Nat},Jf cs=true→XRs w O E cs vs nb→XRs w O' E cs vs nb
 |[],E,vs,nb,_,h=>by simpa only[XRs]using h
 |c::cs,E,vs,nb,hc,h=>by
  simp only[Jf,Bool.and_eq_true]at hc;simp only[XRs]at h ⊢;obtain⟨v,vs',n1,n2,h1,h2,h3,h4⟩:=h;exact⟨v,vs',n1,n2,h1,h2,W8 c hc.1 h3,SX cs hc.2 h4⟩
theorem gU{O O':Nat→Prop}{w:World}:∀(cs:List AV) {E:EI} {bl o:Nat} {nb:List Nat},Jf cs=true→CR w O E bl o cs nb→CR w O' E bl o cs nb
 |[],E,bl,o,nb,_,h=>by simpa only[CR]using h
 |c::cs,E,bl,o,nb,hc,h=>by
  simp only[Jf,Bool.and_eq_true]at hc;simp only[CR]at h ⊢;obtain⟨v,n1,n2,h1,h2,h3,h4⟩:=h;exact⟨v,n1,n2,h1,h2,W8 c hc.1 h3,gU cs hc.2 h4⟩
theorem PU{O O':Nat→Prop}{w:World}:∀(rs:List (List AV)) {E:EI} {m bl off:Nat} {nb:List Nat},Va rs=true→RR w O E m bl off rs nb→RR w O' E m bl off rs nb
 |[],E,m,bl,off,nb,_,h=>by simpa only[RR]using h
 |r::rs,E,m,bl,off,nb,hc,h=>by
  simp only[Va,Bool.and_eq_true]at hc;simp only[RR]at h ⊢;obtain⟨n1,n2,h1,h2,h3,h4⟩:=h;exact⟨n1,n2,h1,h2,gU r hc.1 h3,PU rs hc.2 h4⟩
end
mutual
def EL(bb:Bool)(K:KS):AV→Option (KS×AV)
 |.sl j=>match kg K j with
  |some (.lst n rows)=>if Va rows=true then some (K.set j none,.own n rows)else none
  |_=>none
 |.agg cs=>(Kc bb K cs).map λp=>(p.1,.agg p.2)
 |.tup cs=>(Kc bb K cs).map λp=>(p.1,.tup p.2)
 |.imm _ _=>cond bb (some (K,.z)) none
 |.iptr _ _ _ _=>none
 |.ptr _ _ _=>none
 |.clo _ _=>none
 |.own _ _=>none
 |c=>some (K,c)
def Kc(bb:Bool)(K:KS):List AV→Option (KS×List AV)
 |[]=>some (K,[])
 |c::cs=>match EL bb K c with
  |some (K1,c')=>(Kc bb K1 cs).map λp=>(p.1,c'::p.2)
  |none=>none
end
def YF(f:Fr):List ResultVar→Option (List AV)
 |[]=>some []
 |.tmp t::rs=>(YF f rs).map (f t::·)
 |.cell _ _::_=>none
def xV(rs:List ResultVar)(f:Fr):Option AV :=
 match rs with
 |[.tmp t]=>some (f t)
 |rs=>(YF f rs).map .tup
def sE(R:AV→Prop)(rs:List ResultVar)(f:Fr)(K:KS):Prop :=
 match xV rs f with
 |some v=>match EL false K v with
  |some (_,x)=>R x
  |none=>False
 |none=>False
def uW(R:AV→KS→Prop)(rs:List ResultVar)(f:Fr)(K:KS):Prop :=
 match xV rs f with
 |some v=>R v K
 |none=>False
def QiE(k:Fr→KS→Prop):QT
 |.normal,f,K=>k f K
 |.ret,f,K=>k f K
 |.exit _,_,_=>False
def Jy(args:List AV):Fr:=λt=>args.getD t .u
section
variable{P:Program}{n:NE}{Y:Nat→Prop}{w0:World}{F0:Nat→Prop}{ρ:Dl}{f:Fr}{K:KS}{a:Act}{w:World}
def Gone(ρ:Dl)(K K1:KS)(nb:List Nat):Prop :=
 nb.Nodup∧K1.length=K.length∧(∀i e,kg K1 i=some e→kg K i=some e)∧∀x∈nb,∃j e,kg K j=some e∧kg K1 j=none∧x∈fp ρ j
def Gone.refl(ρ:Dl)(K:KS):Gone ρ K K []:=⟨by simp,rfl,λ_ _ h=>h,by simp⟩
def Gone.append(hS:Sees w (OO K ρ Y) K ρ){K1 K2:KS}{n1 n2:List Nat}(h0:∀i e,kg K1 i=some e→kg K i=some e){K0:KS}(h00:∀i e,kg K0 i=some e→kg K i=some e)(h1:Gone ρ K0 K1 n1)(h2:Gone ρ K1 K2 n2):Gone ρ K0 K2 (n1++n2):=by
 obtain⟨a1,a2,a3,a4⟩:=h1;obtain⟨b1,b2,b3,b4⟩:=h2;refine⟨?_,b2.trans a2,λi e hi=>a3 i e (b3 i e hi),λx hx=>?_⟩
 ·rw[List.nodup_append]
  refine⟨a1,b1,λx hx y hy hxy=>?_⟩
  subst hxy;obtain⟨j,e,c1,c2,c3⟩:=a4 x hx;obtain⟨j',e',d1,d2,d3⟩:=b4 x hy;have hjj:j≠j':=λh=>by subst h;rw[c2]at d1;cases d1
  exact hS.dj j e j' e' x (h00 _ _ c1) (h0 _ _ d1) hjj c3 d3
 ·rcases List.mem_append.1 hx with hx|hx
  ·obtain⟨j,e,c1,c2,c3⟩:=a4 x hx
   refine⟨j,e,c1,?_,c3⟩;cases h:kg K2 j with
   |none=>rfl
   |some e'=>have:=b3 j e' h;rw[c2]at this;cases this
  ·obtain⟨j,e,c1,c2,c3⟩:=b4 x hx
   exact⟨j,e,a3 _ _ c1,c2,c3⟩
mutual
theorem UU[Wd]{bb:Bool}(hS:Sim n Y w0 F0 ρ f K a w):∀(c:AV) {K0 K1:KS} {x:AV} {v:Value},(∀i e,kg K0 i=some e→kg K i=some e)→EL bb K0 c=some (K1,x)→XR w (OO K ρ Y) (EK K ρ) c v [] →
  ∃nb,XR w TT EN x v nb∧Gone ρ K0 K1 nb
 |.sl j,K0,K1,x,v,hK,h,hx=>by
  simp only[EL]at h
  split at h
  ·rename_i m rows hj
   split at h
   ·rename_i hc
    injection h with h;injection h with e1 e2;subst e1 e2
    have hjl:=Gr hj;refine⟨fp ρ j,W8 _ (by simpa only[AV.clean]using hc) (bR hS (hK _ _ hj) hx (E:=EN)).1,hS.sees.nd j _ (hK _ _ hj),by simp,λi e hi=>?_,λx hx=>⟨j,_,hj,by rw[Zu _ _ _ _ hjl];simp,hx⟩⟩
    rw[Zu _ _ _ _ hjl]at hi
    split at hi
    ·cases hi
    ·exact hi
   ·cases h
  ·cases h
 |.agg cs,K0,K1,x,v,hK,h,hx=>by
  simp only[EL]at h;obtain⟨p,h1,h2⟩:=Option.map_eq_some_iff.1 h;injection h2 with e1 e2;subst e1 e2
  simp only[XR]at hx ⊢;obtain⟨vs,h3,h4⟩:=hx;obtain⟨nb,h5,h6⟩:=WH hS cs hK h1 h4;exact⟨nb,⟨vs,h3,h5⟩,h6⟩
 |.tup cs,K0,K1,x,v,hK,h,hx=>by
  simp only[EL]at h;obtain⟨p,h1,h2⟩:=Option.map_eq_some_iff.1 h;injection h2 with e1 e2;subst e1 e2
  simp only[XR]at hx ⊢;obtain⟨vs,h3,h4⟩:=hx;obtain⟨nb,h5,h6⟩:=WH hS cs hK h1 h4;exact⟨nb,⟨vs,h3,h5⟩,h6⟩
 |.imm _ _,K0,K1,x,v,hK,h,hx=>by
  cases bb with
  |false=>simp[EL]at h
  |true =>
   simp[EL]at h;obtain⟨rfl,rfl⟩:=h;simp only[XR]at hx;obtain⟨_,a,c,h1,_⟩:=hx;exact⟨[],by simp[XR,h1],Gone.refl _ _⟩
 |.iptr _ _ _ _,K0,K1,x,v,hK,h,hx=>by simp[EL]at h
 |.ptr _ _ _,K0,K1,x,v,hK,h,hx=>by simp[EL]at h
 |.clo _ _,K0,K1,x,v,hK,h,hx=>by simp[EL]at h
 |.own _ _,K0,K1,x,v,hK,h,hx=>by simp[EL]at h
 |.u,K0,K1,x,v,hK,h,hx=>by simp[EL]at h;obtain⟨rfl,rfl⟩:=h;exact⟨[],by simp[XR],Gone.refl _ _⟩
 |.b _,K0,K1,x,v,hK,h,hx=>by simp[EL]at h;obtain⟨rfl,rfl⟩:=h;exact⟨[],by simpa only[XR]using hx,Gone.refl _ _⟩
 |.i _ _,K0,K1,x,v,hK,h,hx=>by simp[EL]at h;obtain⟨rfl,rfl⟩:=h;exact⟨[],by simpa only[XR]using hx,Gone.refl _ _⟩
 |.s _,K0,K1,x,v,hK,h,hx=>by simp[EL]at h;obtain⟨rfl,rfl⟩:=h;exact⟨[],by simpa only[XR]using hx,Gone.refl _ _⟩
 |.nil,K0,K1,x,v,hK,h,hx=>by simp[EL]at h;obtain⟨rfl,rfl⟩:=h;exact⟨[],by simpa only[XR]using hx,Gone.refl _ _⟩
 |.z,K0,K1,x,v,hK,h,hx=>by simp[EL]at h;obtain⟨rfl,rfl⟩:=h;exact⟨[],by simpa only[XR]using hx,Gone.refl _ _⟩
theorem WH[Wd]{bb:Bool}(hS:Sim n Y w0 F0 ρ f K a w):∀(cs:List AV) {K0 K1:KS} {xs:List AV} {vs:List Value},(∀i e,kg K0 i=some e→kg K i=some e)→Kc bb K0 cs=some (K1,xs)→XRs w (OO K ρ Y) (EK K ρ) cs vs [] →
  ∃nb,XRs w TT EN xs vs nb∧Gone ρ K0 K1 nb
 |[],K0,K1,xs,vs,hK,h,hx=>by
  simp[Kc]at h;obtain⟨rfl,rfl⟩:=h;exact⟨[],by simpa only[XRs]using hx,Gone.refl _ _⟩
 |c::cs,K0,K1,xs,vs,hK,h,hx=>by
  simp only[Kc]at h
  split at h
  ·rename_i K2 c' hc
   obtain⟨p,h1,h2⟩:=Option.map_eq_some_iff.1 h;injection h2 with e1 e2;subst e1 e2
   simp only[XRs]at hx ⊢;obtain⟨v,vs',n1,n2,h3,h4,h5,h6⟩:=hx;obtain⟨rfl,rfl⟩:=List.append_eq_nil_iff.1 h4.symm;obtain⟨nb1,g1,g2⟩:=UU hS c hK hc h5;have hK2:∀i e,kg K2 i=some e→kg K i=some e:=λi e hi=>hK i e (g2.2.2.1 i e hi)
   obtain⟨nb2,g3,g4⟩:=WH hS cs hK2 h1 h6;exact⟨nb1++nb2,⟨v,vs',nb1,nb2,h3,rfl,g1,g3⟩,Gone.append hS.sees hK2 hK g2 g4⟩
  ·cases h
end
def YL(tmps:Array Value):ResultVar→Sem Value
 |.tmp t=>pure (tmps.getD t undef)
 |.cell a t=>do loadVar t (←asAddr (tmps.getD a undef))
theorem YM(fn:Func)(tmps:Array Value):results fn tmps=(do let vs ←fn.results.mapM (YL tmps);pure (if h:vs.size=1 then vs[0]else .tuple vs)):=rfl
def gD{tmps:Array Value}:∀{rs:List ResultVar} {xs:List AV} {O:Nat→Prop} {E:EI},YF f rs=some xs→(∀t,XR w O E (f t) (tmps.getD t undef) []) →
  ∃vs:List Value,(∀w',(rs.mapM (YL tmps)).run P w'=.ok vs w')∧XRs w O E xs vs []∧vs.length=rs.length
 |[],xs,O,E,h,_=>by
  simp[YF]at h;subst h;exact⟨[],λw'=>by simp,by simp[XRs],rfl⟩
 |.cell _ _::rs,xs,O,E,h,_=>by simp[YF]at h
 |.tmp t::rs,xs,O,E,h,hf=>by
  simp only[YF]at h;obtain⟨ys,h1,rfl⟩:=Option.map_eq_some_iff.1 h;obtain⟨vs,h2,h3,h4⟩:=gD h1 hf;refine⟨tmps.getD t undef::vs,λw'=>by simp[List.mapM_cons,YL,h2 w'],?_,by simp[h4]⟩
  simp only[XRs];exact⟨_,_,[],[],rfl,rfl,hf t,h3⟩
def Yu{fn:Func}{tmps:Array Value}{O:Nat→Prop}{E:EI}{x:AV}(h:xV fn.results.toList f=some x)(hf:∀t,XR w O E (f t) (tmps.getD t undef) []) :
  ∃v,(results fn tmps).run P w=.ok v w∧XR w O E x v []:=by
 unfold xV at h
 split at h
 ·rename_i t ht
  injection h with h;subst h
  have e:fn.results=#[.tmp t]:=Array.toList_inj.1 ht;exact⟨_,by simp[results,e],hf t⟩
 ·rename_i hne
  obtain⟨xs,h1,rfl⟩:=Option.map_eq_some_iff.1 h;obtain⟨vs,h2,h3,h4⟩:=gD (P:=P) h1 hf;refine⟨.tuple vs.toArray,?_,by simp only[XR];exact⟨_,rfl,h3⟩⟩
  have hl:vs.length≠1:=by
   intro hv;rw[hv]at h4;obtain⟨r,hr⟩:=List.length_eq_one_iff.1 h4.symm;rw[hr]at h1 hne;cases r with
   |tmp t=>exact hne t rfl
   |cell _ _=>simp[YF]at h1
  rw[YM,Array.mapM_eq_mapM_toList];simp[h2,hl]
end
end Go.Proofs.YtfhnbabcbhgffaaGreatDoor.Am
namespace Go.Proofs.YtfhnbabcbhgffaaGreatDoor.Am
open Go
def EnterOK.of{P:Program}{g:FuncId}{fn:Func}{c:Code}(hf:P.funcs[g]?=some fn)(hb:fn.body=some c)(hn:fn.name ≠ "runtime.NumGoroutine"):EnterOK P g:=λargs w=>by
 simp[callFunc,hf,hb,hn]
section
variable{P:Program}{Y:Nat→Prop}{w:World}
def kq{O:Nat→Prop}{E:EI}:∀{args:List AV} {vs:List Value} (t:Nat),XRs w O E args vs []→XR w O E (args.getD t .u) (vs.getD t undef) []
 |[],vs,t,h=>by simp[XR]
 |x::args,vs,t,h=>by
  simp only[XRs]at h;obtain⟨v,vs',n1,n2,rfl,h2,h3,h4⟩:=h;obtain⟨rfl,rfl⟩:=List.append_eq_nil_iff.1 h2.symm;cases t with
  |zero=>simpa using h3
  |succ t=>simpa using kq t h4
def Sim.init[Wd]{N:Nat}{E0:EI}{F0:Nat→Prop}{ρ:Dl}{K:KS}{args:List AV}{vs:List Value}(hN:args.length≤N)(hX:XRs w (OO K ρ Y) (EK K ρ) args vs [])(hK:xA E0 (EK K ρ))(hS:Sees w (OO K ρ Y) K ρ)
  (hnew:∀j e b,kg K j=some e→b∈fp ρ j→F0 b∨w.heap.size≤b) (hY:(∀b,Y b→b<w.heap.size∧¬F0 b)∧∀w',Ext F0 w w'→Wd.I w') :
  Sim ⟨N,E0⟩ Y w F0 ρ (Jy args) K { tmps:=vs.toArray++Array.replicate (N-vs.toArray.size) undef,defers:=[] } w:=by
 have hl:=XP hX;refine⟨rfl,by simp;omega,hK,λt=>?_,hS,Ext.refl _ _,hnew,hY⟩
 have h:=kq t hX;have e:(vs.toArray++Array.replicate (N-vs.toArray.size) undef).getD t undef=vs.getD t undef:=by
  simp only[Array.getD_eq_getD_getElem?,List.getD_eq_getElem?_getD];by_cases ht:t<vs.length
  ·rw[Array.getElem?_append_left (by simpa using ht)];simp
  ·rw[Array.getElem?_append_right (by simpa using ht)]
   rw[List.getElem?_eq_none (by omega)]
   simp[Array.getElem?_replicate]
   split<;>rfl
 simp only[Jy];rw[e];exact h
def PC.of_code[Wd](hm:P.follows .mixedOrders=true){g:FuncId}{fn:Func}{c:Code}{args:List AV}{R:AV→Prop}(hf:P.funcs[g]?=some fn)(hb:fn.body=some c)(hn:fn.name ≠ "runtime.NumGoroutine")
  (ho:Iz fn.ntmps c=true) (ha:args.length≤fn.ntmps) (h:OP P 0 c (QiE (sE R fn.results.toList)) (Jy args) [] ()):PC P g args R:=by
 refine⟨EnterOK.of hf hb hn,λw vs hI hX=>calls_of_wp hf hb ?_⟩
 let ρ:Dl:=λ_=>(none,[])
 have eO:OO [] ρ FF=FF:=by funext b;simp[OO,kg]
 have eE:EK [] ρ=EN:=by simp[EK,EN,kg]
 have hS:Sim ⟨fn.ntmps,EN⟩ FF w FF ρ (Jy args) [] { tmps:=vs.toArray++Array.replicate (fn.ntmps-vs.toArray.size) undef,defers:=[] } w :=
  Sim.init ha (by rw[eO,eE];exact hX) (by rw[eE];exact⟨Qg _,λ_ _ _ h=>h⟩) ⟨λj e h=>by simp[kg]at h,λj e h=>by simp[kg]at h,λj e b h=>by simp[kg]at h,λj e k e' b h=>by simp[kg]at h⟩
   (λj e b h=>by simp[kg]at h) ⟨λb h=>h.elim,λw' he=>Wd.keep he hI⟩
 refine wp_mono (gf (n:=⟨fn.ntmps,EN⟩) (Qg _) hm c ho hS h) λe a w' hq=>?_
 have fin:Ys ⟨fn.ntmps,EN⟩ FF w FF (sE R fn.results.toList) a w'→a.defers=[]∧∃v,(results fn a.tmps).run P w'=.ok v w'∧(∃v' x nb,Ending.returned v=.returned v'∧R x∧XR w' TT EN x v' nb∧nb.Nodup∧(∀b∈nb,w.heap.size≤b∧b<w'.heap.size)∧Ext FF w w'):=by
  rintro⟨f,K,ρ,hS,hR⟩;refine⟨hS.defers,?_⟩;unfold sE at hR
  split at hR
  ·rename_i x hx
   split at hR
   ·rename_i K1 x' hx'
    obtain⟨v,h1,h2⟩:=Yu (P:=P) hx hS.fr;obtain⟨nb,h3,h4,h5,h6,h7⟩:=UU hS x (λ_ _ h=>h) hx' h2
    refine⟨v,h1,v,x',nb,rfl,hR,h3,h4,λb hb=>?_,hS.ext⟩
    obtain⟨j,e,q1,q2,q3⟩:=h7 b hb;refine⟨?_,hS.sees.lt j e b q1 q3⟩
    rcases hS.new j e b q1 q3 with q|q
    ·exact q.elim
    ·exact q
   ·exact hR.elim
  ·exact hR.elim
 cases e with
 |normal=>exact fin hq
 |ret=>exact fin hq
 |exit id=>obtain⟨_,_,_,_,hq⟩:=hq;exact hq.elim
 |goto l=>exact hq.elim
 |panic l=>exact hq.elim
 |outgrown=>exact hq.elim
def AC.of_code[Wd](hm:P.follows .mixedOrders=true){g:FuncId}{fn:Func}{c:Code}{K1:KS}{args:List AV}{R:AV→KS→Prop}(hf:P.funcs[g]?=some fn)(hb:fn.body=some c)(hn:fn.name ≠ "runtime.NumGoroutine")
  (ho:Iz fn.ntmps c=true) (ha:args.length≤fn.ntmps) (h:OP P K1.length c (QiE (uW R fn.results.toList)) (Jy args) K1 ()):AC P g K1 args R:=by
 refine⟨EnterOK.of hf hb hn,λw ρ Y vs hI hY hSe hX=>calls_of_wp hf hb ?_⟩
 let F0:Nat→Prop:=λb=>∃j e,kg K1 j=some e∧b∈fp ρ j
 have hS:Sim ⟨fn.ntmps,EK K1 ρ⟩ Y w F0 ρ (Jy args) K1 { tmps:=vs.toArray++Array.replicate (fn.ntmps-vs.toArray.size) undef,defers:=[] } w :=
  Sim.init ha hX ⟨Qg _,λ_ _ _ h=>h⟩ hSe (λj e b hj hb=>.inl ⟨j,e,hj,hb⟩) ⟨λb hb=>⟨(hY b hb).1,λ⟨j,e,hj,hb'⟩=>(hY b hb).2 j e hj hb'⟩,hI⟩
 refine wp_mono (gf (n:=⟨fn.ntmps,EK K1 ρ⟩) (Qg _) hm c ho hS h) λe a w' hq=>?_
 have fin:Ys ⟨fn.ntmps,EK K1 ρ⟩ Y w F0 (uW R fn.results.toList) a w'→a.defers=[]∧∃v,(results fn a.tmps).run P w'=.ok v w'∧(∃v' r K' ρ',Ending.returned v=.returned v'∧R r K'∧K1.length≤K'.length∧XR w' (OO K' ρ' Y) (EK K' ρ') r v' []∧Sees w' (OO K' ρ' Y) K' ρ' ∧
   Ext (λb=>∃j e,kg K1 j=some e∧b∈fp ρ j) w w'∧(∀j e b,kg K' j=some e→b∈fp ρ' j→(∃i e',kg K1 i=some e'∧b∈fp ρ i)∨w.heap.size≤b) ∧
   ∀j e',j<K1.length→kg K' j=some e'→∃e,kg K1 j=some e∧(ρ' j).1=(ρ j).1∧e'.n=e.n∧e'.rows.length=e.rows.length):=by
  rintro⟨f,K,ρ1,hS,hR⟩;refine⟨hS.defers,?_⟩;unfold uW at hR
  split at hR
  ·rename_i x hx
   obtain⟨v,h1,h2⟩:=Yu (P:=P) hx hS.fr;refine⟨v,h1,v,x,K,ρ1,rfl,hR,hS.keep.1,h2,hS.sees,hS.ext,hS.new,λj e' hj hj'=>?_⟩
   have h3:=hS.keep.2 j ((ρ1 j).1,e'.n,e'.rows.length) hj (by simp[EK,hj'])
   simp only[EK]at h3;obtain⟨e,h4,h5⟩:=Option.map_eq_some_iff.1 h3;injection h5 with h5 h6;injection h6 with h6 h7
   exact⟨e,h4,h5.symm,h6.symm,h7.symm⟩
  ·exact hR.elim
 cases e with
 |normal=>exact fin hq
 |ret=>exact fin hq
 |exit id=>obtain⟨_,_,_,_,hq⟩:=hq;exact hq.elim
 |goto l=>exact hq.elim
 |panic l=>exact hq.elim
 |outgrown=>exact hq.elim
end
end Go.Proofs.YtfhnbabcbhgffaaGreatDoor.Am
namespace Go.Proofs.YtfhnbabcbhgffaaGreatDoor.Am
open Go
def Lj[Wd]{P:Program}{o:Op}{f f':Fr}{K:KS}{k:AV→KS→Prop}(h:∀x∈o.operands,ev f x=ev f' x):Sy P o f K k ()=Sy P o f' K k ():=by
 have pairs:∀ps:Array (Nat×Operand),(∀x∈(ps.toList.map (·.2)).toArray,ev f x=ev f' x)→(ps.toList.map λp=>(p.1,ev f p.2))=ps.toList.map λp=>(p.1,ev f' p.2):=λps hp =>
  List.map_congr_left λp hm=>by rw[hp p.2 (by simp;exact⟨p.1,by simpa using hm⟩)]
 have args:∀{c:Callee} {xs:Array Operand} {ts:Array TypeId},(∀x∈(Op.call ⟨c,xs,ts⟩).operands,ev f x=ev f' x)→∀x∈xs.toList,ev f x=ev f' x:=λ{c xs ts} h x hx =>
  h x (by simp only[Op.operands,Call.operands];cases c<;>simp<;>simp at hx<;>simp[hx])
 unfold Sy
 split
 all_goals try simp only[Op.operands]at h
 case h_6=>rw[pairs _ h]
 case h_7=>rw[pairs _ h]
 all_goals try (simp at h;simp[h];done)
 case h_13 g first caps =>
  have:caps.toList.map (ev f)=caps.toList.map (ev f'):=List.map_congr_left λx hx=>h x (by simp at hx ⊢;exact .inr hx)
  rw[this]
 case h_17 as ts =>
  have ha:=args h
  split
  ·rename_i h1 h2
   rw[h1]at ha;rw[ha _ (by simp)]
  ·rfl
 case h_18 as ts =>
  have ha:=args h
  split
  ·rename_i h1 h2
   rw[h1]at ha;rw[ha _ (by simp),ha _ (by simp)]
  ·rfl
 case h_19 as ts =>
  have ha:=args h
  split
  ·rename_i h1
   rw[h1]at ha;rw[ha _ (by simp),ha _ (by simp)]
  ·rfl
 case h_20 as ts =>
  have ha:=args h
  split
  ·rename_i h1
   rw[h1]at ha;rw[ha _ (by simp),ha _ (by simp)]
  ·rfl
 case h_21 g as ts =>
  have ha:=args h;have hg:=h g (by simp[Call.operands])
  rw[hg,List.map_congr_left ha]
 case h_23 t x lo hi =>
  have e1:lo.map (ev f)=lo.map (ev f'):=by
   cases lo with
   |none=>rfl
   |some o=>simp only[Option.map_some];rw[h o (by simp)]
  have e2:hi.map (ev f)=hi.map (ev f'):=by
   cases hi with
   |none=>rfl
   |some o=>simp only[Option.map_some];rw[h o (by simp)]
  rw[h x (by simp),e1,e2]
end Go.Proofs.YtfhnbabcbhgffaaGreatDoor.Am
namespace Go.Proofs.YtfhnbabcbhgffaaGreatDoor.Am
open Go
def Km:Op→Bool
 |.binOp _ _ _ y _=>!FL y
 |.move _|.assign _|.pick _ _ _|.unOp _ _ _|.slice _ _ _ _ none|.index _ _ _|.makeFunc _ _ _|.extract _ _|.field _ _ _=>true
 |.call { callee:=.builtin .min,.. }|.call { callee:=.builtin .max,.. }=>true
 |_=>false
def qz:Op→Bool
 |.load _ _|.convert _ _ _=>true
 |_=>false
def Gm:Op→Bool
 |.build _ _|.load _ _|.convert _ _ _|.fieldAddr _ _ _|.indexAddr _ _ _=>true
 |.call { callee:=.builtin .len,.. }=>true
 |o=>Km o
def j7:List Operand→Bool
 |x::_=>FL x
 |[]=>false
def KV:AV→Bool
 |.sl _=>true
 |_=>false
def S3:Op→Bool
 |.alloc _|.box _ _|.makeSlice _ _ _=>true
 |.call { callee:=.value _,.. }=>true
 |.call { callee:=.builtin .append,args,.. }=>j7 args.toList
 |_=>false
def zB:List Nat→Bool
 |[]=>true
 |0::l=>zB l
 |_::_=>false
def dQ:List AV→Bool
 |[]=>true
 |c::l=>!KV c&&dQ l
def bsF(P:Program):Op→Bool
 |.buildSlice t _ _=>zB (Is P t)
 |_=>false
def RS(P:Program)(o:Op):Bool:=S3 o||bsF P o
def gW(K:KS)(t:Option (TypeId×Nat×List AV))(len:Nat)(parts:List (Nat×AV)):Bool:=match t with
 |some (_,m,z)=>match DU K (λi=>some (i*m,m)) (HF len z) parts with
  |some cs=>dQ cs
  |none=>true
 |none=>true
def NZ(P:Program):Op→Bool
 |.store t _ _=>flT P t
 |_=>false
def Keeps(K K':KS):Prop:=∀j e,kg K j=some e→kg K' j=some e
def Shape(K K':KS):Prop:=∀j e,kg K j=some e→∃e',kg K' j=some e'∧e'.n=e.n∧e'.rows.length=e.rows.length
def Keeps.shape{K K':KS}(h:Keeps K K'):Shape K K':=λj e hj=>⟨e,h j e hj,rfl,rfl⟩
def T9(o:Op)(K K':KS):Prop:=Km o=true∨(qz o=false∧Shape K K')∨Keeps K K'
section
variable{k:AV→Prop}
def bX{te:Option (List CK)}{xs ys:List AV}{k:Bool→Prop}{l}(h:c7 te xs ys k l):∃b,k b∧∀k':Bool→Prop,k' b→c7 te xs ys k' ():=by
 unfold c7 at h ⊢
 split at h
 ·split at h
  ·exact⟨_,h,λk' hk=>hk⟩
  ·exact h.elim
 ·exact h.elim
def pm{t x lo hi l}(h:fu t x lo hi k l):∃v,k v∧∀k':AV→Prop,k' v→fu t x lo hi k' ():=by
 unfold fu at h ⊢
 split at h
 ·split at h
  ·rename_i hm
   split at h
   ·exact⟨_,h.2,λk' hk=>by rw[if_pos hm];exact⟨h.1,hk⟩⟩
   ·exact h.elim
  ·exact h.elim
 ·split at h
  ·exact⟨_,h.2,λk' hk=>⟨h.1,hk⟩⟩
  ·exact h.elim
 ·exact h.elim
def oc{t x i l}(h:gJ t x i k l):∃v,k v∧∀k':AV→Prop,k' v→gJ t x i k' ():=by
 unfold gJ at h ⊢
 split at h
 ·exact⟨_,h.2,λk' hk=>⟨h.1,hk⟩⟩
 ·exact h.elim
def oX{te op x y l}(h:ft te op x y k l):∃v,k v∧∀k':AV→Prop,k' v→ft te op x y k' ():=by
 unfold ft at h ⊢
 split at h
 ·split at h
  ·obtain⟨b,h1,h2⟩:=bX h
   exact⟨_,h1,λk' hk=>h2 _ hk⟩
  ·obtain⟨b,h1,h2⟩:=bX h
   exact⟨_,h1,λk' hk=>h2 _ hk⟩
  ·exact h.elim
 ·split at h<;>first
    |exact⟨_,h,λk' hk=>hk⟩
    |exact h.elim
 ·split at h
  ·rename_i hs
   simp only[if_pos hs];exact⟨_,h.2,λk' hk=>⟨h.1,hk⟩⟩
  rename_i hs;simp only[if_neg hs]
  split at h
  ·rename_i he
   subst he;simp only[if_true]
   split at h<;>first
    |exact⟨_,h,λk' hk=>hk⟩
    |exact⟨_,h.2,λk' hk=>⟨h.1,hk⟩⟩
    |exact h.elim
  ·exact h.elim
 ·split at h<;>first
    |exact⟨_,h,λk' hk=>hk⟩
    |exact⟨_,h.2,λk' hk=>⟨h.1,hk⟩⟩
    |exact h.elim
 ·exact h.elim
def qc{op x l}(h:xun op x k l):∃v,k v∧∀k':AV→Prop,k' v→xun op x k' ():=by
 unfold xun at h ⊢
 split at h<;>first
    |exact⟨_,h,λk' hk=>hk⟩
    |exact h.elim
def iQ{c x y l}(h:TS c x y k l):∃v,k v∧∀k':AV→Prop,k' v→TS c x y k' ():=by
 unfold TS at h ⊢
 split at h<;>first
    |exact⟨_,h,λk' hk=>hk⟩
    |exact h.elim
def n0{x i l}(h:eG x i k l):∃v,k v∧∀k':AV→Prop,k' v→eG x i k' ():=by
 unfold eG at h ⊢
 split at h
 ·split at h
  ·exact⟨_,h,λk' hk=>hk⟩
  ·exact h.elim
 ·exact h.elim
def oJ{o x l}(h:eA o x k l):∃v,k v∧∀k':AV→Prop,k' v→eA o x k' ():=by
 unfold eA at h ⊢
 split at h
 ·unfold eT at h ⊢
  split at h
  ·unfold K6 at h ⊢
   split at h
   ·split at h
    ·exact⟨_,h,λk' hk=>hk⟩
    ·exact h.elim
   ·split at h
    ·rename_i hm;exact⟨_,h,λk' hk=>by rw[if_pos hm];exact hk⟩
    ·exact h.elim
   ·exact h.elim
  ·exact h.elim
 ·exact h.elim
def ox{x y l}(h:eP x y k l):∃v,k v∧∀k':AV→Prop,k' v→eP x y k' ():=by
 unfold eP at h ⊢
 split at h<;>first
    |exact⟨_,h,λk' hk=>hk⟩
    |exact h.elim
def nw{x y l}(h:eV x y k l):∃v,k v∧∀k':AV→Prop,k' v→eV x y k' ():=by
 unfold eV at h ⊢
 split at h<;>first
    |exact⟨_,h,λk' hk=>hk⟩
    |exact h.elim
def iR{t x l}(h:TH t x k l):∃v,k v∧∀k':AV→Prop,k' v→TH t x k' ():=by
 unfold TH at h ⊢
 split at h<;>first
    |exact⟨_,h,λk' hk=>hk⟩
    |exact h.elim
variable{K:KS}
def iM{t x l}(h:Rx K t x k l):∃v,k v∧∀(K':KS) (k':AV→Prop),Keeps K K'→k' v→Rx K' t x k' ():=by
 unfold Rx at h
 split at h
 ·split at h
  ·rename_i h1
   split at h
   ·rename_i h2
    refine⟨_,h,λK' k' hs hk=>?_⟩
    unfold Rx;simp only[hs _ _ h1,h2];exact hk
   ·exact h.elim
  ·exact h.elim
 ·exact h.elim
def oN{x o l}(h:gk K x o k l):∃v,k v∧∀(K':KS) (k':AV→Prop),Shape K K'→k' v→gk K' x o k' ():=by
 unfold gk at h ⊢
 split at h
 ·split at h
  ·rename_i e he
   refine⟨_,h,λK' k' hs hk=>?_⟩
   obtain⟨e',h1,_⟩:=hs _ _ he;simp only[h1];exact hk
  ·exact h.elim
 ·exact⟨_,h,λK' k' hs hk=>hk⟩
 ·exact h.elim
def oz{t x l}(h:gG K t x k l):∃v,k v∧∀(K':KS) (k':AV→Prop),Shape K K'→k' v→gG K' t x k' ():=by
 unfold gG at h ⊢
 split at h
 ·exact⟨_,h,λK' k' hs hk=>hk⟩
 ·exact⟨_,h,λK' k' hs hk=>hk⟩
 ·split at h
  ·rename_i e he
   refine⟨_,h,λK' k' hs hk=>?_⟩
   obtain⟨e',h1,_,h2⟩:=hs _ _ he;simp only[h1,h2];exact hk
  ·exact h.elim
 ·exact⟨_,h,λK' k' hs hk=>hk⟩
 ·exact⟨_,h,λK' k' hs hk=>hk⟩
 ·exact h.elim
def nJ{t x i l}(h:eF K t x i k l):∃v,k v∧∀(K':KS) (k':AV→Prop),Shape K K'→k' v→eF K' t x i k' ():=by
 unfold eF at h ⊢
 split at h
 ·split at h
  ·rename_i hm;exact⟨_,h.2,λK' k' hs hk=>by rw[if_pos hm];exact⟨h.1,hk⟩⟩
  ·exact h.elim
 ·split at h
  ·rename_i e he
   split at h
   ·rename_i hm
    refine⟨_,h.2,λK' k' hs hk=>?_⟩
    obtain⟨e',h1,h2,h3⟩:=hs _ _ he;simp only[h1,h2,h3];rw[if_pos hm];exact⟨h.1,hk⟩
   ·exact h.elim
  ·exact h.elim
 ·split at h
  ·rename_i e he
   refine⟨_,h.2,λK' k' hs hk=>?_⟩
   obtain⟨e',h1,h2,h3⟩:=hs _ _ he;simp only[h1];exact⟨h.1,hk⟩
  ·exact h.elim
 ·exact h.elim
def aU{K':KS}{x:AV}(h:Keeps K K')(hne:Z9 K x≠[]):Z9 K' x=Z9 K x:=by
 unfold Z9 at hne ⊢
 split at hne
 ·split at hne
  ·rename_i hj;simp only[h _ _ hj,hj]
  ·rename_i hj;simp only[h _ _ hj,hj]
  ·exact absurd rfl hne
 ·rfl
 ·rfl
def iH{t x l}(h:K6 t (Z9 K x) k l):∃v,k v∧∀(K':KS) (k':AV→Prop),Keeps K K'→k' v→K6 t (Z9 K' x) k' ():=by
 have hne:Z9 K x≠[]:=by
  intro h0;rw[h0]at h;unfold K6 at h
  split at h
  ·exact h
  ·split at h
   ·rename_i hm;simp at hm;omega
   ·exact h
  ·exact h
 have key:∃v,k v∧∀(k':AV→Prop),k' v→K6 t (Z9 K x) k' ():=by
  unfold K6 at h ⊢
  split at h
  ·split at h
   ·rename_i hc;exact⟨_,h,λk' hk=>hk⟩
   ·exact h.elim
  ·split at h
   ·rename_i hm;exact⟨_,h,λk' hk=>by rw[if_pos hm];exact hk⟩
   ·exact h.elim
  ·exact h.elim
 obtain⟨v,h1,h2⟩:=key;exact⟨v,h1,λK' k' hs hk=>by rw[aU hs hne];exact h2 k' hk⟩
def dn{K':KS}{v:AV}{cs:List AV}(hs:Shape K K')(h:GS K v=some cs):GS K' v=some cs:=by
 unfold GS at h ⊢
 split at h
 ·exact h
 ·split at h
  ·rename_i hc
   have:BI K' v=true:=by
    unfold BI at hc ⊢
    split at hc<;>first
     |rfl
     |(obtain⟨e,he⟩:=Option.isSome_iff_exists.1 hc;obtain⟨e',h1,_⟩:=hs _ _ he;simp[h1];done)
     |cases hc
   rw[if_pos this];exact h
  ·cases h
def Nx{K':KS}{place:Nat→Option (Nat×Nat)}(hs:Shape K K'):∀{parts:List (Nat×AV)} {cs out:List AV},DU K place cs parts=some out→DU K' place cs parts=some out
 |[],cs,out,h=>h
 |(i,v)::parts,cs,out,h=>by
  unfold DU at h ⊢
  split at h
  ·rename_i o m ds ho hd
   rw[ho,dn hs hd];simp only
   split at h
   ·rename_i hc;rw[if_pos hc];exact Nx hs h
   ·cases h
  ·cases h
def fE{t parts l}(h:Ng K t parts k l):∃v,k v∧∀(K':KS) (k':AV→Prop),Shape K K'→k' v→Ng K' t parts k' ():=by
 unfold Ng at h ⊢
 split at h
 ·split at h
  ·rename_i cs hc;exact⟨_,h,λK' k' hs hk=>by simp only[Nx hs hc];exact hk⟩
  ·exact h.elim
 ·split at h
  ·rename_i cs hc;exact⟨_,h,λK' k' hs hk=>by simp only[Nx hs hc];exact hk⟩
  ·exact h.elim
 ·exact h.elim
end
def er[Wd]{P:Program}{o:Op}{f:Fr}{K:KS}{k:AV→KS→Prop}(hp:Gm o=true)(h:Sy P o f K k ()) :
  ∃v,k v K∧∀(K':KS) (k':AV→KS→Prop),T9 o K K'→k' v K'→Sy P o f K' k' ():=by
 have fr:∀{step:(AV→Prop)→Prop},(∃v,k v K∧∀k':AV→Prop,k' v→step k')→∃v,k v K∧∀(K':KS) (k':AV→KS→Prop),T9 o K K'→k' v K'→step (λv=>k' v K') :=
  λ⟨v,h1,h2⟩=>⟨v,h1,λK' k' _ hk=>h2 _ hk⟩
 have sh:∀{step:KS→(AV→Prop)→Prop},Km o=false→(∃v,k v K∧∀(K':KS) (k':AV→Prop),Shape K K'→k' v→step K' k')→∃v,k v K∧∀(K':KS) (k':AV→KS→Prop),T9 o K K'→k' v K'→step K' (λv=>k' v K') :=
  λhf ⟨v,h1,h2⟩=>⟨v,h1,λK' k' hs hk=>h2 _ _ (by
   rcases hs with hs|hs|hs
   ·rw[hf]at hs;cases hs
   ·exact hs.2
   ·exact hs.shape) hk⟩
 unfold Sy at h ⊢
 split at h
 case h_1=>exact⟨_,h,λK' k' _ hk=>hk⟩
 case h_2=>exact⟨_,h,λK' k' _ hk=>hk⟩
 case h_3=>exact fr (iQ h)
 case h_6=>exact sh rfl (fE h)
 case h_8 =>
  obtain⟨v,h1,h2⟩:=iH h;refine⟨v,h1,λK' k' hs hk=>h2 K' _ ?_ hk⟩
  rcases hs with hs|hs|hs
  ·cases hs
  ·cases hs.1
  ·exact hs
 case h_10 op t x y s =>
  have hy:FL y=false:=by simpa[Gm,Km]using hp
  simp only[hy,Bool.false_eq_true,if_false]at h ⊢;exact fr (oX h)
 case h_11=>exact fr (qc h)
 case h_12 =>
  split at h
  ·rename_i hb
   obtain⟨v,h1,h2⟩:=iM h;refine⟨v,h1,λK' k' hs hk=>?_⟩
   rw[if_pos hb];refine h2 K' _ ?_ hk
   rcases hs with hs|hs|hs
   ·cases hs
   ·cases hs.1
   ·exact hs
  ·rename_i hb
   split at h
   ·rename_i hc
    obtain⟨v,h1,h2⟩:=iR h;exact⟨v,h1,λK' k' _ hk=>by rw[if_neg hb,if_pos hc];exact h2 _ hk⟩
   ·exact h.elim
 case h_13 =>
  split at h
  ·rename_i hc;exact⟨_,h,λK' k' _ hk=>by rw[if_pos hc];exact hk⟩
  ·exact h.elim
 case h_14=>exact sh rfl (oN h)
 case h_15=>exact sh rfl (nJ h)
 case h_16=>exact fr (n0 h)
 case h_17 =>
  split at h
  ·exact sh rfl (oz h)
  ·exact h.elim
 case h_19 =>
  split at h
  ·exact fr (ox h)
  ·exact h.elim
 case h_20 =>
  split at h
  ·exact fr (nw h)
  ·exact h.elim
 case h_23=>exact fr (pm h)
 case h_24=>exact fr (oc h)
 case h_26=>exact fr (oJ h)
 case h_27=>exact h.elim
 all_goals cases hp
end Go.Proofs.YtfhnbabcbhgffaaGreatDoor.Am
namespace Go.Proofs.YtfhnbabcbhgffaaGreatDoor.Am
open Go
def Keeps.refl(K:KS):Keeps K K:=λ_ _ h=>h
def Keeps.app(K L:KS):Keeps K (K++L):=λj e h=>by rw[KI,if_pos (Gr h)];exact h
def Shape.refl(K:KS):Shape K K:=(Keeps.refl K).shape
def Gk[Wd](P:Program)(o:Op)(f:Fr)(K:KS)(k:AV→KS→Prop)(_:Lk (o,f,k)):Prop :=
 match o with
 |.call { callee:=.value x,args,.. }=>dY (ev f x) (λg caps=>wc P g K (args.toList.map (ev f)++caps) k ()) ()
 |.call { callee:=.builtin .append,args,argTypes }=>(j7 args.toList=true→(args.toList.map (ev f)).all (λx=>!KV x)=true)∧Sy P (.call { callee:=.builtin .append,args,argTypes }) f K k ()
 |.buildSlice t len ps=>(bsF P (.buildSlice t len ps)=true→gW K (Lr P t) len (ps.toList.map λp=>(p.1,ev f p.2))=true)∧Sy P (.buildSlice t len ps) f K k ()
 |o=>Sy P o f K k ()
def K4[Wd]{P:Program}{o:Op}{f:Fr}{K:KS}{k:AV→KS→Prop}(h:Gk P o f K k ()):Sy P o f K k ():=by
 unfold Gk at h
 split at h
 ·rename_i x args _
  show dY (ev f x) (λg caps=>TF P g K (args.toList.map (ev f)++caps) k ()) ()
  unfold dY at h ⊢
  split at h
  ·exact .inl h
  ·exact h.elim
 ·exact h.2
 ·exact h.2
 ·exact h
def T4:∀(cs:List AV) {K K1:KS} {ds:List AV},dQ cs=true→XJ K cs=some (K1,ds)→K1=K
 |[],K,K1,ds,_,h=>by simp[XJ]at h;exact h.1.symm
 |c::cs,K,K1,ds,hc,h=>by
  simp only[dQ,Bool.and_eq_true,Bool.not_eq_true']at hc;cases c with
  |sl j=>simp[KV]at hc
  |_ =>
   unfold XJ at h
   split at h
   ·obtain⟨p,h1,h2⟩:=Option.map_eq_some_iff.1 h
    injection h2 with h2 h3
    rw[←h2];exact T4 cs hc.2 h1
   ·cases h
def cF{ns:List Nat}{K:KS}{t:Option (TypeId×Nat×List AV)}{len:Nat}{parts:List (Nat×AV)}{k k':AV→KS→Prop}(hf:gW K t len parts=true)(h:F9 ns K t len parts k ())(hk:∀v K',Keeps K K'→k v K'→k' v K'):F9 ns K t len parts k' ():=by
 unfold F9 at h ⊢;unfold gW at hf;cases t with
 |none=>exact h.elim
 |some q =>
  obtain⟨e,m,z⟩:=q;simp only at h hf ⊢;by_cases h0:len=0
  ·rw[if_pos h0]at h ⊢
   cases parts with
   |nil=>exact hk _ _ (Keeps.app _ _) h
   |cons _ _=>exact h.elim
  ·rw[if_neg h0]at h ⊢
   by_cases h1:len*m≤16777216
   ·rw[if_pos h1]at h ⊢
    cases hx:DU K (λi=>some (i*m,m)) (HF len z) parts with
    |none=>rw[hx]at h;exact h.elim
    |some cs =>
     rw[hx]at h hf;simp only at h hf ⊢;cases ha:XJ K cs with
     |none=>rw[ha]at h;exact h.elim
     |some q =>
      obtain⟨K1,ds⟩:=q;rw[ha]at h;have:=T4 cs hf ha;subst this;exact hk _ _ (Keeps.app _ _) h
   ·rw[if_neg h1]at h;exact h.elim
def pj[Wd]{P:Program}{o:Op}{f:Fr}{K:KS}{k k':AV→KS→Prop}(hg:RS P o=true)(h:Gk P o f K k ())(hk:∀v K',Keeps K K'→k v K'→k' v K'):Gk P o f K k' ():=by
 have hg2:S3 o=true∨bsF P o=true:=by simpa[RS]using hg
 unfold Gk at h ⊢
 split at h
 ·unfold dY at *
  split at h
  ·obtain⟨R,h1,h2⟩:=h
   exact⟨R,h1,λx hx=>hk _ _ (Keeps.app _ _) (h2 x hx)⟩
  ·exact h.elim
 ·rename_i args ts
  have hg':j7 args.toList=true:=by simpa[RS,S3,bsF]using hg
  obtain⟨h0,h⟩:=h;refine⟨h0,?_⟩;have h0:=h0 hg';unfold Sy at h ⊢;simp only at h ⊢
  split at h
  ·rename_i s x t tx tl h1 h2
   rw[h1]at hg' h0
   split at h
   ·rename_i ht
    rw[if_pos ht];have hs:ev f s=.nil:=by
     cases s with
     |const v =>
      cases v<;>first|(cases hg';done)|skip
      rename_i a l c;cases a<;>cases l<;>cases c<;>first|rfl|cases hg'
     |_=>cases hg'
    simp only[List.map_cons,List.map_nil,List.all_cons,List.all_nil,Bool.and_true,Bool.and_eq_true,Bool.not_eq_true']at h0;rw[hs]at h ⊢;unfold Ip at h ⊢
    split at h
    ·have hsrc:∀m rows K1,GN K m (ev f x)=some (rows,K1)→K1=K:=by
      intro m rows K1 hr;unfold GN at hr
      split at hr
      ·injection hr with hr;injection hr with _ hr;exact hr.symm
      ·split at hr
       ·injection hr with hr;injection hr with _ hr;exact hr.symm
       ·cases hr
      ·rename_i j hj
       rw[hj]at h0;exact absurd h0.2 (by simp[KV])
      ·cases hr
     split at h
     ·rename_i rows K1 hr
      have:=hsrc _ rows K1 hr;subst this;exact⟨h.1,hk _ _ (Keeps.app _ _) h.2⟩
     ·exact h.elim
    ·exact h.elim
   ·exact h.elim
  ·exact h.elim
 ·rename_i t len ps
  have hb:bsF P (.buildSlice t len ps)=true:=by simpa[RS,S3]using hg
  exact⟨h.1,cF (h.1 hb) h.2 hk⟩
 ·rename_i hnc hna hnb
  have hg:=hg2.resolve_right λhb=>by
   unfold bsF at hb
   split at hb
   ·exact hnb _ _ _ rfl
   ·cases hb
  unfold Sy at h ⊢
  split at h
  all_goals try (cases hg;done)
  case h_4 =>
   unfold SI at *
   split at h
   ·exact hk _ _ (Keeps.app _ _) h
   ·exact h.elim
  case h_5 =>
   unfold nP at *
   split at h
   ·split at h
    ·rename_i hc;rw[if_pos hc];exact hk _ _ (Keeps.app _ _) h
    ·exact h.elim
   ·split at h
    ·rename_i hc;rw[if_pos hc];exact hk _ _ (Keeps.app _ _) h
    ·exact h.elim
  case h_18=>exact(hna _ _ rfl).elim
  case h_21=>exact(hnc _ _ _ rfl).elim
  case h_22 =>
   unfold bw at *
   split at h
   ·split at h
    ·rename_i hc;rw[if_pos hc];exact⟨h.1,hk _ _ (Keeps.app _ _) h.2⟩
    ·exact h.elim
   ·exact h.elim
  case h_27=>exact h.elim
def bx{K:KS}{j:Nat}{e e':QE}(hj:kg K j=some e)(hn:e'.n=e.n)(hl:e'.rows.length=e.rows.length):Shape K (K.set j (some e')):=λi e0 hi=>by
 rw[Zu _ _ _ _ (Gr hj)];by_cases h:i=j
 ·subst h
  rw[hj]at hi;injection hi with hi;subst hi
  exact⟨e',by simp,hn,hl⟩
 ·exact⟨e0,by rw[if_neg h];exact hi,rfl,rfl⟩
def bE{cs:List AV}{o:Nat}{t:TK}{v:AV}{ok:AV→Bool}{k k':List AV→Prop}{l}(h:ct cs o t v ok k l)(hk:∀ds,ds.length=cs.length→k ds→k' ds):ct cs o t v ok k' ():=by
 unfold ct at h ⊢
 split at h
 ·split at h
  ·rename_i hc;rw[if_pos hc];exact hk _ (by simp[putCells];omega) h
  ·exact h.elim
 ·split at h
  ·rename_i hc;rw[if_pos hc];exact hk _ (by simp) h
  ·exact h.elim
 ·exact h.elim
def Ig{K:KS}{t:TK}{p v:AV}{k k':KS→Prop}{l}(h:Ly K t p v k l)(hk:∀K',Shape K K'→k K'→k' K'):Ly K t p v k' ():=by
 unfold Ly at h ⊢
 split at h
 ·split at h
  ·rename_i cs hj
   split at h
   ·rename_i hi
    rw[if_pos hi];exact bE h λds hd h=>hk _ (bx hj hd (by simp[QE.rows])) h
   ·exact h.elim
  ·rename_i n rows hj
   split at h
   ·rename_i hi
    rw[if_pos hi];exact bE h λds hd h=>hk _ (bx hj rfl (by simp[QE.rows])) h
   ·exact h.elim
  ·exact h.elim
 ·exact h.elim
def Tv{K:KS}{t:TK}{j i o n:Nat}{rows:List (List AV)}{v:AV}{k k':KS→Prop}{l}{ns:List Nat}(h:Kh ns K t j i o n rows v k l)(hk:∀K',k K'→k' K'):Kh ns K t j i o n rows v k' ():=by
 unfold Kh at h ⊢
 split at h
 ·rename_i hi
  rw[if_pos hi]
  split at h
  ·split at h
   ·rename_i hc;rw[if_pos hc];exact hk _ h
   ·exact h.elim
  ·exact h.elim
 ·exact h.elim
def aB{K:KS}{t:TK}{p v:AV}{k k':KS→Prop}{l}{ns:List Nat}(h:CL true ns K t p v k l)(hk:∀K',Shape K K'→k K'→k' K'):CL true ns K t p v k' ():=by
 unfold CL at h ⊢
 split at h
 ·split at h
  ·split at h
   ·rename_i hc;rw[if_pos hc];exact Ig h hk
   ·split at h
    ·rename_i hf;cases hf
    ·exact h.elim
  ·exact Ig h hk
 ·exact h.elim
def dS{fl:Bool}{K:KS}{t:TK}{p v:AV}{k k':KS→Prop}{l}{ns:List Nat}(h:CL fl ns K t p v k l)(hk:∀K',k K'→k' K'):CL fl ns K t p v k' ():=by
 unfold CL at h ⊢
 split at h
 ·split at h
  ·split at h
   ·rename_i hc;rw[if_pos hc];exact Ig h λK' _=>hk K'
   ·rename_i hc
    rw[if_neg hc]
    split at h
    ·rename_i hf;rw[if_pos hf];exact Tv h hk
    ·exact h.elim
  ·exact Ig h λK' _=>hk K'
 ·exact h.elim
end Go.Proofs.YtfhnbabcbhgffaaGreatDoor.Am
namespace Go.Proofs.YtfhnbabcbhgffaaGreatDoor.Am
open Go
def G8[Wd](P:Program)(ops:Array Oper)(o:Oper)(f:Fr)(K:KS)(c:Fr→KS→Prop):Prop :=
 match o.guard with
 |none=>Gk P o.op f K (λv K'=>Gl o.dst v f (λf=>c f K') ()) ()
 |some (j,want)=>uA ((ops[j]?).bind (·.dst)) want f (λf=>Gk P o.op f K (λv K'=>Gl o.dst v f (λf=>c f K') ()) ()) (λf=>Gl o.dst (.tup []) f (λf=>c f K) ()) ()
def KX[Wd](P:Program)(ops:Array Oper)(k:Fr→KS→Prop):Nat→Array Bool→Fr→KS→Prop
 |0,listed,f,K=>Region.ready .any ops listed=[]∧k f K
 |fuel+1,listed,f,K=>(Region.ready .any ops listed=[]→k f K) ∧
  ∀i∈Region.ready .any ops listed,∀o,ops[i]?=some o→G8 P ops o f K (λf K=>KX P ops k fuel (listed.setIfInBounds i true) f K)
section
variable{P:Program}{n:NE}{Y:Nat→Prop}{w0:World}{F0:Nat→Prop}{ρ:Dl}{f:Fr}{K:KS}{a:Act}{w:World}
def dP[Wd]{ops:Array Oper}{Q:Exit→Act→World→Prop}{i:Nat}{o:Oper}(ho:ops[i]?=some o)(hd:Ba n.n o=true){c:Fr→KS→Prop}(hS:Sim n Y w0 F0 ρ f K a w)(h:G8 P ops o f K c) :
  wpOp P ops Q i (λa w=>Ys n Y w0 F0 c a w) a w:=by
 have hdst:∀d,o.dst=some d→d<n.n:=λd hd'=>by simpa[Ba,hd']using hd
 unfold wpOp;simp only[ho];have run:∀{f},Sim n Y w0 F0 ρ f K a w→Gk P o.op f K (λv K'=>Gl o.dst v f (λf=>c f K') ()) ()→o.wp P a w (λa w=>Ys n Y w0 F0 c a w) Q:=λ{f} hS h =>
  (YG hS (K4 h)).wp λv w' ⟨av,K',ρ',h1,h2,h3⟩=>by
   obtain⟨f',h4,h5⟩:=h1.putO hdst h2 h3;exact⟨f',K',ρ',h4,h5⟩
 unfold G8 at h
 split at h
 ·rename_i hg
  rw[if_pos (by simp[Region.wanted,hg])]
  exact .inl (run hS h)
 ·rename_i j want hg
  unfold uA at h
  split at h
  ·rename_i d hj
   have no:∀f,Sim n Y w0 F0 ρ f K a w→Gl o.dst (.tup []) f (λf=>c f K) ()→Ys n Y w0 F0 c (a.put o.dst undef) w:=λf hS h=>by
    obtain⟨f',h4,h5⟩:=hS.putO hdst (v:=undef) (W9 _ _ _) h;exact⟨f',K,ρ,h4,h5⟩
   split at h
   ·rename_i x hx
    have hv:=hS.fr d;rw[hx]at hv;simp only[XR]at hv;have hdn:d<n.n:=by
     refine Nat.lt_of_not_le λhge=>?_
     have:=hv.1;rw[Array.getD_eq_getD_getElem?,Array.getElem?_eq_none (by rw[hS.size];exact hge)]at this
     cases this
    have hy:yielded ops a.tmps j=some x:=by
     unfold yielded;have h1:a.tmps[d]?=some (.bool x):=by
      have h2:=hv.1;rw[Array.getD_eq_getD_getElem?]at h2;rw[Array.getElem?_eq_getElem (by rw[hS.size];exact hdn)]at h2 ⊢
      simpa using h2
     simp only[hj,Qa,h1]
    have hw:Region.wanted o (yielded ops a.tmps)=(x==want):=by simp[Region.wanted,hg,hy]
    have hS':=hS.self d;rw[hx]at hS';unfold XBr at h;rw[hw];cases x<;>cases want<;>simp at h ⊢
    ·exact .inl (run hS' h)
    ·exact no _ hS' h
    ·exact no _ hS' h
    ·exact .inl (run hS' h)
   ·rename_i hx
    have hv:=hS.fr d;rw[hx]at hv;rw[OR hg hj hv];simp;exact no _ hS h
   ·exact h.elim
  ·exact h.elim
def d7[Wd]{ops:Array Oper}{Q:Exit→Act→World→Prop}{k:Fr→KS→Prop}(hd:ops.toList.all (Ba n.n)=true)(hQ:∀a w,Ys n Y w0 F0 k a w→Q .normal a w) :
  ∀(fuel:Nat) (listed:Array Bool) (ρ:Dl) (f:Fr) (K:KS) (a:Act) (w:World),Sim n Y w0 F0 ρ f K a w→KX P ops k fuel listed f K→wpAny P .any ops Q fuel listed a w
 |0,listed,ρ,f,K,a,w,hS,h=>⟨h.1,hQ a w ⟨f,K,ρ,hS,h.2⟩⟩
 |fuel+1,listed,ρ,f,K,a,w,hS,h=>⟨λh0=>hQ a w ⟨f,K,ρ,hS,h.1 h0⟩,λi hi=>by
  cases ho:ops[i]? with
  |none =>
   have:=hi;simp[Region.ready,ho]at this
  |some o =>
   have hdo:Ba n.n o=true:=(List.all_eq_true.1 hd) o (by rw[←Array.getElem?_toList]at ho;exact List.mem_of_getElem? ho)
   exact wpOp_mono (λa w ⟨f,K,ρ,h1,h2⟩=>d7 hd hQ fuel _ ρ f K a w h1 h2) (dP ho hdo hS (h.2 i hi o ho))⟩
end
end Go.Proofs.YtfhnbabcbhgffaaGreatDoor.Am
namespace Go.Proofs.YtfhnbabcbhgffaaGreatDoor.Am
open Go
def AU(f:Fr)(d:Option Tmp)(v:AV):Fr:=match d with|some d=>up f d v|none=>f
def RK(d:Option Tmp)(v:AV)(f:Fr)(k:Fr→Prop)(l):Gl d v f k l=k (AU f d v):=by cases d<;>rfl
def dX(f:Fr)(d:Nat)(v:AV)(h:f d=v):up f d v=f:=by funext t;unfold up;split<;>simp[*]
def zi(f:Fr)(d e:Nat)(v x:AV)(h:d≠e):up (up f d v) e x=up (up f e x) d v:=by
 funext t;unfold up;by_cases h1:t=e
 ·subst h1;simp[Ne.symm h]
 ·simp[h1]
def Agree(ops:Array Oper)(o:Oper)(f f':Fr):Prop:=∀t∈o.looksAt ops,f' t=f t
def Agree.ev{ops:Array Oper}{o:Oper}{f f':Fr}(h:Agree ops o f f'):∀x∈o.op.operands,Am.ev f x=Am.ev f' x:=λx hx=>by
 cases x with
 |tmp t=>exact(h t (List.mem_append_left _ (List.mem_filterMap.2 ⟨.tmp t,by simpa using hx,rfl⟩))).symm
 |const v=>rfl
 |global g=>rfl
 |func g=>rfl
def fP{f f':Fr}:∀(l:List (Nat×Operand)),(∀p∈l,Am.ev f p.2=Am.ev f' p.2)→(l.map λp=>(p.1,Am.ev f p.2))=l.map λp=>(p.1,Am.ev f' p.2)
 |[],_=>rfl
 |p::l,h=>by rw[List.map_cons,List.map_cons,h p (by simp),fP l λq hq=>h q (by simp[hq])]
def Wc[Wd]{P:Program}{o:Op}{f f':Fr}{K:KS}{k:AV→KS→Prop}(h:∀x∈o.operands,Am.ev f x=Am.ev f' x):Gk P o f K k ()=Gk P o f' K k ():=by
 unfold Gk
 split
 ·rename_i x as ts
  have hx:=h x (by simp[Op.operands,Call.operands])
  have ha:as.toList.map (Am.ev f)=as.toList.map (Am.ev f'):=List.map_congr_left λy hy=>h y (by simp at hy;simp[Op.operands,Call.operands,hy])
  rw[hx,ha]
 ·rename_i as ts
  have ha:as.toList.map (Am.ev f)=as.toList.map (Am.ev f'):=List.map_congr_left λy hy=>h y (by simp at hy;simp[Op.operands,Call.operands,hy])
  rw[ha,Lj h]
 ·rename_i t len ps
  have ha:(ps.toList.map λp=>(p.1,Am.ev f p.2))=ps.toList.map λp=>(p.1,Am.ev f' p.2):=fP _ λp hp=>h p.2 (by
   simp only[Op.operands];simp only[List.mem_toArray,List.mem_map];exact⟨p,hp,rfl⟩)
  rw[ha,Lj h]
 ·exact Lj h
def L6[Wd]{P:Program}{o:Op}(hp:Gm o=true){f:Fr}{K:KS}{k:AV→KS→Prop}:Gk P o f K k ()=Sy P o f K k ():=by
 unfold Gk
 split
 ·cases hp
 ·cases hp
 ·cases hp
 ·rfl
def gd(ops:Array Oper)(o:Oper)(f:Fr):Option Bool :=
 match o.guard with
 |none=>some true
 |some (j,want)=>match(ops[j]?).bind (·.dst)with
  |some g=>match f g with|.b x=>some (x==want)|.tup []=>some false|_=>none
  |none=>none
def Dz[Wd]{P:Program}{ops:Array Oper}{o:Oper}{f:Fr}{K:KS}{c:Fr→KS→Prop}:G8 P ops o f K c ↔
  match gd ops o f with
  |some true=>Gk P o.op f K (λv K'=>c (AU f o.dst v) K') ()
  |some false=>c (AU f o.dst (.tup [])) K
  |none=>False:=by
 have e1:∀f:Fr,(λv K'=>Gl o.dst v f (λf=>c f K') ())=(λv K'=>c (AU f o.dst v) K'):=λf=>by funext v K';exact RK _ _ _ _ _
 have e2:(λf=>Gk P o.op f K (λv K'=>Gl o.dst v f (λf=>c f K') ()) ())=(λf=>Gk P o.op f K (λv K'=>c (AU f o.dst v) K') ()):=by
  funext f;exact congrArg (λq=>Gk P o.op f K q ()) (e1 f)
 have e3:(λf=>Gl o.dst (.tup []) f (λf=>c f K) ())=(λf=>c (AU f o.dst (.tup [])) K):=by funext f;exact RK _ _ _ _ _
 unfold G8 gd
 split
 ·rename_i hg;rw[e1]<;>simp only[hg]
 ·rename_i j want hg
  show uA _ want f (λf=>Gk P o.op f K (λv K'=>Gl o.dst v f (λf=>c f K') ()) ()) (λf=>Gl o.dst (.tup []) f (λf=>c f K) ()) ()↔_
  rw[show uA ((ops[j]?).bind (·.dst)) want f (λf=>Gk P o.op f K (λv K'=>Gl o.dst v f (λf=>c f K') ()) ()) (λf=>Gl o.dst (.tup []) f (λf=>c f K) ()) ()=uA ((ops[j]?).bind (·.dst)) want f (λf=>Gk P o.op f K (λv K'=>c (AU f o.dst v) K') ()) (λf=>c (AU f o.dst (.tup [])) K) ()from by
   have:=congrArg (λq=>uA ((ops[j]?).bind (·.dst)) want f q (λf=>Gl o.dst (.tup []) f (λf=>c f K) ()) ()) e2
   exact this.trans (congrArg (λq=>uA ((ops[j]?).bind (·.dst)) want f (λf=>Gk P o.op f K (λv K'=>c (AU f o.dst v) K') ()) q ()) e3)]
  unfold uA
  split
  ·rename_i g hj
   simp only[hg,hj];cases hx:f g with
   |b x =>
    have e1:∀b,x=b→up f g (.b b)=f:=λb hb=>dX f g _ (by rw[hx,hb])
    unfold XBr;cases x<;>cases want<;>simp<;>rw[e1 _ rfl]
   |tup vs=>cases vs<;>exact Iff.rfl
   |_=>exact Iff.rfl
  ·rename_i hj
   simp only[hg,hj]
def PM{ops:Array Oper}{o:Oper}{f f':Fr}(h:Agree ops o f f'):gd ops o f'=gd ops o f:=by
 unfold gd
 split
 ·rfl
 ·rename_i j want hg
  cases hj:(ops[j]?).bind (·.dst)with
  |none=>rfl
  |some g =>
   have:=h g (List.mem_append_right _ (by rw[hg];simp only;rw[hj];simp))
   simp only[this]
def XV[Wd](P:Program)(ops:Array Oper)(o:Oper)(r:AV)(f:Fr)(K:KS):Prop :=
 ∀(f':Fr) (K':KS) (c:Fr→KS→Prop),Agree ops o f f'→T9 o.op K K'→c (AU f' o.dst r) K'→G8 P ops o f' K' c
def NI[Wd]{P:Program}{ops:Array Oper}{o:Oper}(hp:Gm o.op=true){f:Fr}{K:KS}{c:Fr→KS→Prop}(h:G8 P ops o f K c):∃r,c (AU f o.dst r) K∧XV P ops o r f K:=by
 have h1:=Dz.1 h;cases hg:gd ops o f with
 |none=>rw[hg]at h1;exact h1.elim
 |some b =>
  rw[hg]at h1;cases b with
  |false=>exact⟨.tup [],h1,λf' K' c' ha hs hc=>Dz.2 (by rw[PM ha,hg];exact hc)⟩
  |true =>
   simp only at h1;rw[L6 hp]at h1;obtain⟨v,h2,h3⟩:=er hp h1;refine⟨v,h2,λf' K' c' ha hs hc=>Dz.2 ?_⟩
   rw[PM ha,hg];simp only;rw[L6 hp,←Lj ha.ev];exact h3 K' _ hs hc
def XV.agree[Wd]{P:Program}{ops:Array Oper}{o:Oper}{r:AV}{f f1:Fr}{K K1:KS}(h:XV P ops o r f K)(ha:Agree ops o f f1)(hs:∀K',T9 o.op K1 K'→T9 o.op K K'):XV P ops o r f1 K1 :=
 λf' K' c ha' hs' hc=>h f' K' c (λt ht=>(ha' t ht).trans (ha t ht)) (hs K' hs') hc
end Go.Proofs.YtfhnbabcbhgffaaGreatDoor.Am
namespace Go.Proofs.YtfhnbabcbhgffaaGreatDoor.Am
open Go
def Rel(P:Program)(o:Op)(K K':KS):Prop:=Gm o=true∧K'=K∨RS P o=true∧Keeps K K'∨NZ P o=true∧Shape K K'
def Yf(P:Program)(o:Op):Bool:=Gm o||RS P o||NZ P o
def Rel.refl{P:Program}{o:Op}(h:Yf P o=true)(K:KS):Rel P o K K:=by
 simp only[Yf,Bool.or_eq_true]at h
 rcases h with(h|h)|h
 ·exact .inl ⟨h,rfl⟩
 ·exact .inr (.inl ⟨h,Keeps.refl K⟩)
 ·exact .inr (.inr ⟨h,Shape.refl K⟩)
def Yy[Wd]{P:Program}{o:Op}{f:Fr}{K:KS}{k k':AV→KS→Prop}(hc:Yf P o=true)(h:Gk P o f K k ())(hk:∀v K',Rel P o K K'→k v K'→k' v K'):Gk P o f K k' ():=by
 simp only[Yf,Bool.or_eq_true]at hc
 rcases hc with(hc|hc)|hc
 ·rw[L6 hc]at h ⊢
  obtain⟨v,h1,h2⟩:=er hc h;exact h2 K _ (.inr (.inr (Keeps.refl K))) (hk _ _ (.inl ⟨hc,rfl⟩) h1)
 ·exact pj hc h λv K' hs h=>hk _ _ (.inr (.inl ⟨hc,hs⟩)) h
 ·cases o<;>simp[NZ]at hc
  rename_i t p v;have h':CL (flT P t) (slz P 9 t) K (tk P t) (ev f p) (ev f v) (λK=>k .u K) ():=h
  show CL (flT P t) (slz P 9 t) K (tk P t) (ev f p) (ev f v) (λK=>k' .u K) ()
  rw[hc]at h' ⊢;exact aB h' λK' hs h=>hk _ _ (.inr (.inr ⟨hc,hs⟩)) h
def fC{ops:Array Oper}{oj:Oper}{d:Nat}{r:AV}{f:Fr}(h:d∉oj.looksAt ops):Agree ops oj f (up f d r):=λt ht=>by
 have:t≠d:=λh'=>by subst h';exact h ht
 simp[up,this]
def oK(f:Fr)(d:Nat)(dj:Option Nat)(v x:AV)(h:dj≠some d):AU (up f d v) dj x=up (AU f dj x) d v:=by
 cases dj with
 |none=>rfl
 |some e=>exact zi f d e v x (λh'=>h (by rw[h']))
end Go.Proofs.YtfhnbabcbhgffaaGreatDoor.Am
namespace Go.Proofs.YtfhnbabcbhgffaaGreatDoor.Am
open Go
def IU(f:Fr)(d dj:Option Nat)(v x:AV)(h:∀e,d=some e→dj≠some e):AU (AU f d v) dj x=AU (AU f dj x) d v:=by
 cases d with
 |none=>rfl
 |some e=>exact oK f e dj v x (h e rfl)
def RG{ops:Array Oper}{oj:Oper}{d:Option Nat}{r:AV}{f:Fr}(h:∀e,d=some e→e∉oj.looksAt ops):Agree ops oj f (AU f d r):=by
 cases d with
 |none=>exact λt _=>rfl
 |some e=>exact fC (h e rfl)
section
variable{P:Program}{f:Fr}{K:KS}
def cu{ns t len parts}{k k':AV→KS→Prop}{l}(h:F9 ns K t len parts k l)(hk:∀v K,k v K→k' v K):F9 ns K t len parts k' ():=by
 unfold F9 at h ⊢
 split at h
 ·split at h
  ·rename_i h0;rw[if_pos h0]
   split at h
   ·exact hk _ _ h
   ·exact h.elim
  ·rename_i h0;rw[if_neg h0]
   split at h
   ·rename_i h1;rw[if_pos h1]
    split at h
    ·rename_i cs hf
     split at h
     ·exact hk _ _ h
     ·exact h.elim
    ·exact h.elim
   ·exact h.elim
 ·exact h.elim
def gx{op:BinOp}{x:AV}{k k':AV→Prop}{l}(h:MU op x k l)(hk:∀v,k v→k' v):MU op x k' ():=by
 unfold MU at h ⊢
 split at h
 ·exact⟨λe=>hk _ (h.1 e),hk _ h.2⟩
 ·exact⟨λe=>hk _ (h.1 e),hk _ h.2⟩
 ·exact h.elim
def Rb{t b s x}{k k':AV→KS→Prop}{l}(h:Ip K t b s x k l)(hk:∀v K,k v K→k' v K):Ip K t b s x k' ():=by
 unfold Ip at h ⊢
 split at h
 ·split at h
  ·rename_i rows' K1 hs
   split at h
   ·split at h
    ·rename_i n rows hj
     split at h
     ·rename_i hn;rw[if_pos hn];exact⟨h.1,hk _ _ h.2⟩
     ·exact h.elim
    ·exact h.elim
   ·exact⟨h.1,hk _ _ h.2⟩
   ·exact h.elim
  ·exact h.elim
 ·exact h.elim
def CN[Wd]{o:Op}{k k':AV→KS→Prop}(h:Gk P o f K k ())(hk:∀v K,k v K→k' v K):Gk P o f K k' ():=by
 by_cases hc:Yf P o=true
 ·exact Yy hc h λv K' _=>hk v K'
 ·unfold Gk at h ⊢
  split at h
  ·exact absurd rfl hc
  ·refine⟨h.1,?_⟩
   have h:=h.2;unfold Sy at h ⊢;simp only at h ⊢
   split at h
   ·split at h
    ·rename_i ht;rw[if_pos ht];exact Rb h hk
    ·exact h.elim
   ·exact h.elim
  ·rename_i t len ps
   exact⟨h.1,cu (show F9 (Is P t) K (Lr P t) len (ps.toList.map λp=>(p.1,ev f p.2)) k ()from h.2) hk⟩
  ·rename_i hnb
   unfold Sy at h ⊢
   split at h
   all_goals try (exact absurd rfl hc)
   case h_7=>exact(hnb _ _ _ rfl).elim
   case h_10 =>
    split at h
    ·rename_i hn
     rw[if_pos hn]
     split at h
     ·rename_i ht;rw[if_pos ht];exact gx h λv=>hk v K
     ·exact h.elim
    ·rename_i hn;exact absurd (by simp[Yf,Gm,Km,hn]) hc
   case h_9=>exact dS h λK'=>hk _ K'
   case h_18 =>
    split at h
    ·split at h
     ·rename_i ht;rw[if_pos ht];exact Rb h hk
     ·exact h.elim
    ·exact h.elim
   case h_25 =>
    unfold xP at h ⊢
    split at h
    ·split at h
     ·exact hk _ _ h
     ·exact h.elim
    ·exact hk _ _ h
    ·exact h.elim
   case h_27=>exact h.elim
end
def QkE(P:Program)(o:Op)(K K':KS):Prop:=Yf P o=true→Rel P o K K'
def U6[Wd]{P:Program}{ops:Array Oper}{oi oj:Oper}{r:AV}{f:Fr}{K:KS}{c c':Fr→KS→Prop}(hap:oi.apart ops oj=true)
  (h:G8 P ops oj (AU f oi.dst r) K c) (hk:∀f' K',(∃x,f'=AU f oj.dst x)→QkE P oj.op K K'→c (AU f' oi.dst r) K'→c' f' K'):G8 P ops oj f K c':=by
 obtain⟨a1,a2,a3⟩:=Oper.apart_spec hap;have hag:Agree ops oj f (AU f oi.dst r):=RG a1;have h1:=Dz.1 h;refine Dz.2 ?_;rw[PM hag]at h1;cases hg:gd ops oj f with
 |none=>rw[hg]at h1;exact h1.elim
 |some b =>
  rw[hg]at h1;cases b with
  |false =>
   simp only at h1 ⊢;rw[IU _ _ _ _ _ a2]at h1;exact hk _ _ ⟨_,rfl⟩ (λhc=>Rel.refl hc K) h1
  |true =>
   simp only at h1 ⊢;rw[←Wc hag.ev]at h1;by_cases hc:Yf P oj.op=true
   ·exact Yy hc h1 λv K' hr hk'=>hk _ _ ⟨v,rfl⟩ (λ_=>hr) (by rw[IU _ _ _ _ _ a2]at hk';exact hk')
   ·exact CN h1 λv K' hk'=>hk _ _ ⟨v,rfl⟩ (λh=>absurd h hc) (by rw[IU _ _ _ _ _ a2]at hk';exact hk')
def KH(P:Program)(ops:Array Oper)(oi oj:Oper):Bool:=oi.apart ops oj&&(Km oi.op||(Yf P oj.op&&(Gm oj.op||RS P oj.op||(!qz oi.op&&NZ P oj.op))))
def Shape.trans{K K1 K2:KS}(h:Shape K K1)(h':Shape K1 K2):Shape K K2:=λj e hj=>by
 obtain⟨e1,h1,h2,h3⟩:=h j e hj;obtain⟨e2,h4,h5,h6⟩:=h' j e1 h1;exact⟨e2,h4,h5.trans h2,h6.trans h3⟩
def fY{P:Program}{ops:Array Oper}{oi oj:Oper}(h:KH P ops oi oj=true){K K':KS}(hr:QkE P oj.op K K'):∀K'',T9 oi.op K' K''→T9 oi.op K K'':=by
 intro K'' hs;simp only[KH,Bool.and_eq_true,Bool.or_eq_true,Bool.not_eq_true']at h
 rcases h.2 with h2|⟨hc,h2⟩
 ·exact .inl h2
 have hr:=hr hc
 rcases hs with hs|hs|hs
 ·exact .inl hs
 ·rcases hr with⟨_,rfl⟩|⟨_,hr⟩|⟨_,hr⟩
  ·exact .inr (.inl hs)
  ·exact .inr (.inl ⟨hs.1,hr.shape.trans hs.2⟩)
  ·exact .inr (.inl ⟨hs.1,hr.trans hs.2⟩)
 ·rcases hr with⟨_,rfl⟩|⟨_,hr⟩|⟨hst,hr⟩
  ·exact .inr (.inr hs)
  ·exact .inr (.inr λj e hj=>hs j e (hr j e hj))
  ·rcases h2 with(h2|h2)|h2
   ·exfalso;cases hx:oj.op<;>rw[hx]at h2 hst<;>first|(cases hst;done)|cases h2
   ·exfalso;cases hx:oj.op<;>rw[hx]at h2 hst<;>first|(cases hst;done)|(simp[RS,S3,bsF]at h2;done)|cases h2
   ·exact .inr (.inl ⟨h2.1,hr.trans hs.shape⟩)
def WJ[Wd]{P:Program}{ops:Array Oper}{k:Fr→KS→Prop}{i:Nat}{oi:Oper}(hi:ops[i]?=some oi){r:AV}{D:List Nat}
  (hD:∀j∈D,∃oj,ops[j]?=some oj∧∃e∈oj.after,Region.binds .any e=true∧(e.on=i∨e.on∈D)) :
  ∀(fuel:Nat) (listed:Array Bool) (f:Fr) (K:KS),
   (∀j oj,ops[j]?=some oj→j≠i→listed.getD j true=false→j∉D→KH P ops oi oj=true)→(∀j∈D,listed.getD j true=false) →
   i∈Region.ready .any ops listed→XV P ops oi r f K→KX P ops k fuel (listed.setIfInBounds i true) (AU f oi.dst r) K→KX P ops k (fuel+1) listed f K:=by
 have here:∀{fuel:Nat} {listed:Array Bool} {f:Fr} {K:KS},XV P ops oi r f K→KX P ops k fuel (listed.setIfInBounds i true) (AU f oi.dst r) K→G8 P ops oi f K (λf K=>KX P ops k fuel (listed.setIfInBounds i true) f K) :=
  λhv H=>hv _ _ _ (λ_ _=>rfl) (.inr (.inr (Keeps.refl _))) H
 intro fuel
 induction fuel with
 |zero =>
  intro listed f K _ _ hr hv H;refine⟨λh=>(by rw[h]at hr;cases hr),λj hj o ho=>?_⟩
  by_cases hji:j=i
  ·subst hji;rw[hi]at ho;injection ho with ho;subst ho;exact here hv H
  ·have:=ready_mono hj hji
   rw[H.1]at this;cases this
 |succ fuel ih =>
  intro listed f K hfree hun hr hv H;refine⟨λh=>(by rw[h]at hr;cases hr),λj hj oj hoj=>?_⟩
  by_cases hji:j=i
  ·subst hji;rw[hi]at hoj;injection hoj with ho;subst ho;exact here hv H
  ·have h1:=H.2 j (ready_mono hj hji) oj hoj
   obtain⟨hjun,oj',hoj',hall⟩:=mem_ready.1 hj;rw[hoj]at hoj';injection hoj' with hoj';subst hoj'
   have hnot:j∉D:=λhjD=>by
    obtain⟨oj',q1,e,q2,q3,q4⟩:=hD j hjD;rw[hoj]at q1;injection q1 with q1;subst q1
    have h1:=hall e q2 q3;have h0:listed.getD e.on true=false:=by
     rcases q4 with q4|q4
     ·rw[q4];exact(mem_ready.1 hr).1
     ·exact hun _ q4
    rcases Nat.lt_or_ge e.on listed.size with h'|h'
    ·simp[h']at h0 h1;rw[h0]at h1;cases h1
    ·simp[Array.getElem?_eq_none h']at h1
   have hok:=hfree j oj hoj hji hjun hnot;have hok':=hok;simp only[KH,Bool.and_eq_true]at hok';have hset:∀m,m≠j→(listed.setIfInBounds j true).getD m true=listed.getD m true:=λm hm=>getD_set_ne true (Ne.symm hm)
   have hfree':∀k ok,ops[k]?=some ok→k≠i→(listed.setIfInBounds j true).getD k true=false →
     k∉D→KH P ops oi ok=true:=λk ok hk hki hun hno=>by
    refine hfree k ok hk hki ?_ hno;by_cases hjk:j=k
    ·subst hjk;exact hjun
    ·rw[hset k (Ne.symm hjk)]at hun;exact hun
   refine U6 hok'.1 h1 λf' K' ⟨x,hf'⟩ hrel h3=>?_
   refine ih (listed.setIfInBounds j true) f' K' hfree' (λm hm=>?_) (ready_mono hr (Ne.symm hji)) ?_ ?_
   ·rw[hset m (λh=>hnot (h▸hm))];exact hun m hm
   ·refine hv.agree (λt ht=>?_) (fY hok hrel)
    rw[hf'];obtain⟨a1,a2,a3⟩:=Oper.apart_spec hok'.1;cases hd:oj.dst with
    |none=>rfl
    |some e =>
     have:t≠e:=λh'=>by subst h';exact a3 t hd ht
     simp[AU,up,this]
   ·rw[Array.setIfInBounds_comm _ _ hji]
    exact h3
def So(ops:Array Oper)(i:Nat)(D:List Nat)(j:Nat):List Nat:=match ops[j]? with
 |some oj=>if(oj.after.any λe=>Region.binds .any e&&(e.on==i||D.contains e.on))=true then j::D else D
 |none=>D
def Kx(ops:Array Oper)(i:Nat):List Nat:=(List.range ops.size).foldl (So ops i) []
def Kd{ops:Array Oper}{i:Nat}:∀j∈Kx ops i,∃oj,ops[j]?=some oj∧∃e∈oj.after,Region.binds .any e=true∧(e.on=i∨e.on∈Kx ops i):=by
 have key:∀(l D:List Nat),(∀j∈D,∃oj,ops[j]?=some oj∧∃e∈oj.after,Region.binds .any e=true∧(e.on=i∨e.on∈D)) →
   ∀j∈l.foldl (So ops i) D,∃oj,ops[j]?=some oj∧∃e∈oj.after,Region.binds .any e=true∧(e.on=i∨e.on∈l.foldl (So ops i) D):=by
  intro l
  induction l with
  |nil=>intro D h;exact h
  |cons a l ih =>
   intro D h;refine ih (So ops i D a) ?_;unfold So
   split
   ·rename_i oa hoa
    split
    ·rename_i hany
     intro j hj
     rcases List.mem_cons.1 hj with hj|hj
     ·subst hj
      obtain⟨m,hm,he⟩:=Array.any_iff_exists.1 hany;simp only[Bool.and_eq_true,Bool.or_eq_true,beq_iff_eq,List.contains_iff_mem]at he;refine⟨oa,hoa,oa.after[m],Array.getElem_mem _,he.2.2.1,?_⟩
      rcases he.2.2.2 with h1|h1
      ·exact .inl h1
      ·exact .inr (List.mem_cons_of_mem _ h1)
     ·obtain⟨oj,q1,e,q2,q3,q4⟩:=h j hj
      refine⟨oj,q1,e,q2,q3,?_⟩
      rcases q4 with q4|q4
      ·exact .inl q4
      ·exact .inr (List.mem_cons_of_mem _ q4)
    ·exact h
   ·exact h
 exact key (List.range ops.size) [] (λj hj=>by cases hj)
section
variable{P:Program}{f:Fr}{K:KS}
def K7[Wd]{ops:Array Oper}{o:Oper}{c c':Fr→KS→Prop}(h:G8 P ops o f K c)(hk:∀f K,c f K→c' f K):G8 P ops o f K c':=by
 have h1:=Dz.1 h;refine Dz.2 ?_;cases hg:gd ops o f with
 |none=>rw[hg]at h1;exact h1.elim
 |some b =>
  rw[hg]at h1;cases b with
  |false=>exact hk _ _ h1
  |true=>exact CN h1 λv K'=>hk _ _
end
def LN[Wd](P:Program)(ops:Array Oper):List Oper→Fr→KS→(Fr→KS→Prop)→Prop
 |[],f,K,k=>k f K
 |o::r,f,K,k=>G8 P ops o f K λf K=>LN P ops r f K k
def SB[Wd]{P:Program}{ops:Array Oper}:∀{l:List Oper} {f:Fr} {K:KS} {k k':Fr→KS→Prop},LN P ops l f K k→(∀f K,k f K→k' f K)→LN P ops l f K k'
 |[],f,K,k,k',h,hk=>hk _ _ h
 |o::r,f,K,k,k',h,hk=>K7 h λf K h=>SB h hk
def kD(P:Program)(ops:Array Oper)(listed:Array Bool)(i:Nat)(oi:Oper):Bool :=
 (Kx ops i).all (λj=>!listed.getD j true)&&(List.range ops.size).all λj=>j==i||listed.getD j true||(Kx ops i).contains j||match ops[j]? with
  |some oj=>KH P ops oi oj
  |none=>true
def Y5(P:Program)(ops:Array Oper):List Nat→Array Bool→Bool
 |[],listed=>(Region.ready .any ops listed).isEmpty
 |i::r,listed=>match ops[i]? with
  |some oi=>(Region.ready .any ops listed).contains i&&((Region.ready .any ops listed)==[i]||(Gm oi.op&&kD P ops listed i oi))&&Y5 P ops r (listed.setIfInBounds i true)
  |none=>false
def Lz{P:Program}{ops:Array Oper}{listed:Array Bool}{i:Nat}{oi:Oper}(h:kD P ops listed i oi=true) :
  (∀j oj,ops[j]?=some oj→j≠i→listed.getD j true=false→j∉Kx ops i→KH P ops oi oj=true)∧∀j∈Kx ops i,listed.getD j true=false:=by
 unfold kD at h;rw[Bool.and_eq_true,List.all_eq_true,List.all_eq_true]at h;refine⟨λj oj hj hji hl hno=>?_,λj hj=>by simpa using h.1 j hj⟩
 have hlt:j<ops.size:=by
  rcases Nat.lt_or_ge j ops.size with h'|h'
  ·exact h'
  ·rw[Array.getElem?_eq_none h']at hj;cases hj
 have:=h.2 j (List.mem_range.2 hlt);simp only[hj,Bool.or_eq_true,beq_iff_eq,List.contains_iff_mem]at this
 rcases this with((h1|h1)|h1)|h1
 ·exact absurd h1 hji
 ·rw[hl]at h1;cases h1
 ·exact absurd h1 hno
 ·exact h1
def Th[Wd]{P:Program}{ops:Array Oper}{k:Fr→KS→Prop}:∀(is:List Nat) (listed:Array Bool) (fuel:Nat) (f:Fr) (K:KS),Y5 P ops is listed=true→is.length≤fuel →
  LN P ops (is.filterMap (ops[·]?)) f K k→KX P ops k fuel listed f K
 |[],listed,fuel,f,K,ho,_,h=>by
  have hr:Region.ready .any ops listed=[]:=by simpa[Y5]using ho
  cases fuel with
  |zero=>exact⟨hr,h⟩
  |succ fuel=>exact⟨λ_=>h,λi hi=>by rw[hr]at hi;cases hi⟩
 |i::is,listed,0,f,K,ho,hl,h=>by simp at hl
 |i::is,listed,fuel+1,f,K,ho,hl,h=>by
  unfold Y5 at ho
  split at ho
  ·rename_i oi hi
   simp only[Bool.and_eq_true,Bool.or_eq_true,beq_iff_eq]at ho;obtain⟨⟨h1,h2⟩,h3⟩:=ho;have hmem:i∈Region.ready .any ops listed:=by simpa using h1
   have hfm:(i::is).filterMap (ops[·]?)=oi::is.filterMap (ops[·]?):=by simp[hi]
   rw[hfm]at h;have h':G8 P ops oi f K λf K=>KX P ops k fuel (listed.setIfInBounds i true) f K:=K7 h λf K h=>Th is _ fuel f K h3 (by simpa using hl) h
   rcases h2 with h2|h2
   ·refine⟨λh0=>(by rw[h0]at hmem;cases hmem),λj hj o ho=>?_⟩
    rw[h2]at hj;simp only[List.mem_singleton]at hj;subst hj;rw[hi]at ho;injection ho with ho;subst ho
    exact h'
   ·obtain⟨r,hr1,hr2⟩:=NI h2.1 h'
    exact WJ hi Kd fuel listed f K (Lz h2.2).1 (Lz h2.2).2 hmem hr2 hr1
  ·cases ho
inductive OT where
 |done
 |one (i:Nat) (t:OT)
 |alt (a b:OT)
def OT.depth:OT→Nat
 |.done=>0
 |.one _ t=>t.depth+1
 |.alt a b=>max a.depth b.depth
def OT.heads:OT→List Nat
 |.done=>[]
 |.one i _=>[i]
 |.alt a b=>a.heads++b.heads
def Ks[Wd](P:Program)(ops:Array Oper):OT→Fr→KS→(Fr→KS→Prop)→Prop
 |.done,f,K,k=>k f K
 |.one i t,f,K,k=>match ops[i]? with
  |some oi=>G8 P ops oi f K λf K=>Ks P ops t f K k
  |none=>False
 |.alt a b,f,K,k=>Ks P ops a f K k∧Ks P ops b f K k
def I0(P:Program)(ops:Array Oper):OT→Bool→Array Bool→Bool
 |.done,br,listed=>!br&&(Region.ready .any ops listed).isEmpty
 |.one i t,br,listed=>match ops[i]? with
  |some oi=>(br||((Region.ready .any ops listed).contains i&&((Region.ready .any ops listed)==[i]||(Gm oi.op&&kD P ops listed i oi))))&&I0 P ops t false (listed.setIfInBounds i true)
  |none=>false
 |.alt a b,br,listed=>(br||(!(Region.ready .any ops listed).isEmpty&&(Region.ready .any ops listed).all λi=>(a.heads++b.heads).contains i))&&(I0 P ops a true listed&&I0 P ops b true listed)
def Lv[Wd]{P:Program}{ops:Array Oper}{k:Fr→KS→Prop}{i:Nat}{listed:Array Bool}{f:Fr}{K:KS}:∀{t:OT},I0 P ops t true listed=true→i∈t.heads→Ks P ops t f K k →
  ∃oi t',ops[i]?=some oi∧G8 P ops oi f K (λf K=>Ks P ops t' f K k)∧I0 P ops t' false (listed.setIfInBounds i true)=true∧t'.depth+1≤t.depth
 |.done,_,hi,_=>by cases hi
 |.one j t,ho,hi,h=>by
  simp only[OT.heads,List.mem_singleton]at hi;subst hi;unfold I0 at ho;unfold Ks at h
  split at ho
  ·rename_i oi hoi
   simp only[hoi]at h;simp only[Bool.true_or,Bool.true_and]at ho;exact⟨oi,t,hoi,h,ho,Qg _⟩
  ·cases ho
 |.alt a b,ho,hi,h=>by
  unfold I0 at ho;simp only[Bool.true_or,Bool.true_and,Bool.and_eq_true]at ho;simp only[OT.heads,List.mem_append]at hi
  rcases hi with hi|hi
  ·obtain⟨oi,t',h1,h2,h3,h4⟩:=Lv ho.1 hi h.1
   exact⟨oi,t',h1,h2,h3,Nat.le_trans h4 (Nat.le_max_left _ _)⟩
  ·obtain⟨oi,t',h1,h2,h3,h4⟩:=Lv ho.2 hi h.2
   exact⟨oi,t',h1,h2,h3,Nat.le_trans h4 (Nat.le_max_right _ _)⟩
def gg[Wd]{P:Program}{ops:Array Oper}{k:Fr→KS→Prop}:∀(fuel:Nat) (t:OT) (listed:Array Bool) (f:Fr) (K:KS),I0 P ops t false listed=true→t.depth≤fuel →
  Ks P ops t f K k→KX P ops k fuel listed f K:=by
 have go:∀(fuel:Nat),(∀(t:OT) (listed:Array Bool) (f:Fr) (K:KS),I0 P ops t false listed=true→t.depth≤fuel→Ks P ops t f K k→KX P ops k fuel listed f K) →
   ∀(t:OT) (listed:Array Bool) (f:Fr) (K:KS),I0 P ops t false listed=true→t.depth≤fuel+1→Ks P ops t f K k→KX P ops k (fuel+1) listed f K:=by
  intro fuel ih t listed f K ho hd h;cases t with
  |done =>
   have hr:Region.ready .any ops listed=[]:=by simpa[I0]using ho
   exact⟨λ_=>h,λi hi=>by rw[hr]at hi;cases hi⟩
  |one i t =>
   unfold I0 at ho;unfold Ks at h
   split at ho
   ·rename_i oi hi
    simp only[hi]at h;simp only[Bool.false_or,Bool.and_eq_true,Bool.or_eq_true,beq_iff_eq]at ho;obtain⟨⟨h1,h2⟩,h3⟩:=ho;have hmem:i∈Region.ready .any ops listed:=by simpa using h1
    have h':G8 P ops oi f K λf K=>KX P ops k fuel (listed.setIfInBounds i true) f K:=K7 h λf K h=>ih t _ f K h3 (by simp only[OT.depth]at hd;omega) h
    rcases h2 with h2|h2
    ·refine⟨λh0=>(by rw[h0]at hmem;cases hmem),λj hj o ho=>?_⟩
     rw[h2]at hj;simp only[List.mem_singleton]at hj;subst hj;rw[hi]at ho;injection ho with ho;subst ho
     exact h'
    ·obtain⟨r,hr1,hr2⟩:=NI h2.1 h'
     exact WJ hi Kd fuel listed f K (Lz h2.2).1 (Lz h2.2).2 hmem hr2 hr1
   ·cases ho
  |alt a b =>
   have ho':=ho;unfold I0 at ho;simp only[Bool.false_or,Bool.and_eq_true,Bool.not_eq_true']at ho;obtain⟨⟨h1,h2⟩,h3,h4⟩:=ho;refine⟨λh0=>(by rw[h0]at h1;cases h1),λj hj o hoj=>?_⟩
   rw[List.all_eq_true]at h2;have hm:j∈(OT.alt a b).heads:=by simpa[OT.heads]using h2 j hj
   have ht:I0 P ops (.alt a b) true listed=true:=by unfold I0;simp[h3,h4]
   obtain⟨oi,t',q1,q2,q3,q4⟩:=Lv ht hm h;rw[hoj]at q1;injection q1 with q1;subst q1
   exact K7 q2 λf K hx=>ih t' _ f K q3 (by omega) hx
 intro fuel
 induction fuel with
 |zero =>
  intro t listed f K ho hd h;cases t with
  |done =>
   have hr:Region.ready .any ops listed=[]:=by simpa[I0]using ho
   exact⟨hr,h⟩
  |one i t=>simp[OT.depth]at hd
  |alt a b =>
   exfalso;unfold I0 at ho;simp only[Bool.false_or,Bool.and_eq_true,Bool.not_eq_true']at ho;obtain⟨⟨h1,h2⟩,h3,h4⟩:=ho;cases hr:Region.ready .any ops listed with
   |nil=>rw[hr]at h1;cases h1
   |cons j js =>
    rw[hr,List.all_eq_true]at h2;have hm:j∈(OT.alt a b).heads:=by simpa[OT.heads]using h2 j (by simp)
    have ht:I0 P ops (.alt a b) true listed=true:=by unfold I0;simp[h3,h4]
    obtain⟨oi,t',q1,q2,q3,q4⟩:=Lv ht hm h;omega
 |succ fuel ih=>exact go fuel ih
end Go.Proofs.YtfhnbabcbhgffaaGreatDoor.Am
