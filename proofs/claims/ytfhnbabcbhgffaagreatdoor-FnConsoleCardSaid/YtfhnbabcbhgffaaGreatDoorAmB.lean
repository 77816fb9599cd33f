import Derived.Test.YtfhnbabcbhgffaaGreatDoorAmA
import Derived.Laws.Sem
import Derived.Laws.Strings
import Derived.Laws.StructEq
set_option linter.unusedVariables false
set_option linter.unusedSimpArgs false
set_option linter.defProp false
namespace Go.Proofs.YtfhnbabcbhgffaaGreatDoor.Am
open Go
def QbF(w:World)(O:Nat→Prop)(E:EI)(v:Value):XR w O E (cv v) v []:=by
 unfold cv
 split<;>simp[XR]
def ii(a b:List UInt8):(⟨a.toArray⟩:ByteArray)++⟨b.toArray⟩=⟨(a++b).toArray⟩:=by
 ext1;simp
section
variable{P:Program}{n:NE}{Y:Nat→Prop}{w0:World}{F0:Nat→Prop}{ρ:Dl}{f:Fr}{K:KS}{a:Act}{w:World}
def Sim.ev[Wd](h:Sim n Y w0 F0 ρ f K a w)(x:Operand):XR w (OO K ρ Y) (EK K ρ) (ev f x) (a.eval x) []:=by
 cases x with
 |tmp t=>exact h.fr t
 |const v=>exact QbF _ _ _ _
 |global g=>simp[Am.ev,XR]
 |func g=>simp[Am.ev,XR,XRs,Act.eval]
def Sim.put[Wd](h:Sim n Y w0 F0 ρ f K a w){d:Nat}{v:Value}{av:AV}(hd:d<n.n)(hv:XR w (OO K ρ Y) (EK K ρ) av v []) :
  Sim n Y w0 F0 ρ (up f d av) K (a.put (some d) v) w:=by
 refine⟨h.defers,by simp[Act.put,h.size],h.keep,λt=>?_,h.sees,h.ext,h.new,h.yl⟩
 simp only[Act.put,up];by_cases ht:t=d
 ·subst ht
  have:t<a.tmps.size:=by rw[h.size];exact hd
  simp[this,hv]
 ·have:=h.fr t
  rw[if_neg ht];simpa[Array.getElem?_setIfInBounds,Ne.symm ht]using this
def Out[Wd](n:NE)(Y:Nat→Prop)(w0:World)(F0:Nat→Prop)(f:Fr)(a:Act)(k:AV→KS→Prop)(v:Value)(w':World):Prop :=
 ∃av K' ρ',Sim n Y w0 F0 ρ' f K' a w'∧XR w' (OO K' ρ' Y) (EK K' ρ') av v []∧k av K'
def Out.here[Wd](h:Sim n Y w0 F0 ρ f K a w){av:AV}{v:Value}{k:AV→KS→Prop}(hv:XR w (OO K ρ Y) (EK K ρ) av v [])(hk:k av K):Out n Y w0 F0 f a k v w :=
 ⟨av,K,ρ,h,hv,hk⟩
def Yl(P:Program)(s:Sem Value)(v:Value):Prop:=∀w,s.run P w=.ok v w
def cq(d:Nat)(t:TypeId):ic P (d+1) t=(match P.underlying t with
  |some .bool=>some [.b]
  |some (.int _)=>some [.i]
  |some .string=>some [.s]
  |some (.struct fs)=>if P.stoodInHeld t=true then none else PO (ic P d) P fs.toList 0
  |_=>none):=by rw[ic];rfl
def oL(ks:List CK)(xs ys:List AV):V1 (.t::ks) xs ys=none:=by
 cases xs with
 |nil=>cases ys<;>rfl
 |cons x xs=>cases ys with
  |nil=>cases x<;>rfl
  |cons y ys=>cases x<;>cases y<;>rfl
def Ph(P:Program)(t:TypeId)(v:Value):Prop :=
 match P.underlying t with
 |some (.struct _)=>∃cs,v=.agg cs
 |_=>∀cs,v≠.agg cs
def Dn:∀{ks:List CK} {xs ys:List AV} {b:Bool},V1 ks xs ys=some b→xs.length=ks.length∧ys.length=ks.length
 |ks,xs,ys,b,h=>by
  unfold V1 at h
  split at h
  ·simp
  ·split at h
   ·obtain⟨b',h',_⟩:=Option.map_eq_some_iff.1 h
    have:=Dn h';simp[this]
   ·cases h
  ·obtain⟨b',h',_⟩:=Option.map_eq_some_iff.1 h
   have:=Dn h';simp[this]
  ·obtain⟨b',h',_⟩:=Option.map_eq_some_iff.1 h
   have:=Dn h';simp[this]
  ·cases h
def Kk:∀{k1 k2:List CK} {xs ys:List AV} {b:Bool},V1 (k1++k2) xs ys=some b→∃b1 b2,b=(b1&&b2)∧V1 k1 (xs.take k1.length) (ys.take k1.length)=some b1∧V1 k2 (xs.drop k1.length) (ys.drop k1.length)=some b2
 |[],k2,xs,ys,b,h=>⟨true,b,by simp,by simp[V1],by simpa using h⟩
 |.i::k1,k2,xs,ys,b,h=>by
  cases xs with
  |nil=>simp[V1]at h
  |cons x xs=>cases ys with
   |nil=>cases x<;>simp[V1]at h
   |cons y ys =>
    cases x<;>cases y<;>simp only[List.cons_append,V1]at h<;>try cases h
    split at h
    ·rename_i hk
     obtain⟨b',h',rfl⟩:=Option.map_eq_some_iff.1 h;obtain⟨b1,b2,rfl,h1,h2⟩:=Kk h';refine⟨_&&b1,b2,(Bool.and_assoc _ _ _).symm,?_,by simpa using h2⟩
     simp only[List.length_cons,List.take_succ_cons,V1,if_pos hk,h1,Option.map_some]
    ·cases h
 |.b::k1,k2,xs,ys,b,h=>by
  cases xs with
  |nil=>simp[V1]at h
  |cons x xs=>cases ys with
   |nil=>cases x<;>simp[V1]at h
   |cons y ys =>
    cases x<;>cases y<;>simp only[List.cons_append,V1]at h<;>try cases h
    obtain⟨b',h',rfl⟩:=Option.map_eq_some_iff.1 h;obtain⟨b1,b2,rfl,h1,h2⟩:=Kk h';refine⟨_&&b1,b2,(Bool.and_assoc _ _ _).symm,?_,by simpa using h2⟩
    simp only[List.length_cons,List.take_succ_cons,V1,h1,Option.map_some]
 |.s::k1,k2,xs,ys,b,h=>by
  cases xs with
  |nil=>simp[V1]at h
  |cons x xs=>cases ys with
   |nil=>cases x<;>simp[V1]at h
   |cons y ys =>
    cases x<;>cases y<;>simp only[List.cons_append,V1]at h<;>try cases h
    obtain⟨b',h',rfl⟩:=Option.map_eq_some_iff.1 h;obtain⟨b1,b2,rfl,h1,h2⟩:=Kk h';refine⟨_&&b1,b2,(Bool.and_assoc _ _ _).symm,?_,by simpa using h2⟩
    simp only[List.length_cons,List.take_succ_cons,V1,h1,Option.map_some]
 |.t::k1,k2,xs,ys,b,h=>by rw[List.cons_append,oL]at h;cases h
def lu{O:Nat→Prop}{E:EI}:∀{cs:List AV} {vs:List Value} {i:Nat} {c:AV},XRs w O E cs vs []→cs[i]?=some c→∃v,vs[i]?=some v∧XR w O E c v []
 |[],_,_,_,_,h=>by cases h
 |c::cs,vs,i,d,h,hi=>by
  simp only[XRs]at h;obtain⟨v,vs',n1,n2,rfl,h2,h3,h4⟩:=h;obtain⟨rfl,rfl⟩:=List.append_eq_nil_iff.1 h2.symm;cases i with
  |zero=>simp at hi;subst hi;exact⟨v,by simp,h3⟩
  |succ i=>simpa using lu h4 (by simpa using hi)
def XP{O:Nat→Prop}{E:EI}:∀{cs:List AV} {vs:List Value} {nb:List Nat},XRs w O E cs vs nb→vs.length=cs.length
 |[],_,_,h=>by simp only[XRs]at h;simp[h.1]
 |c::cs,vs,nb,h=>by
  simp only[XRs]at h;obtain⟨v,vs',n1,n2,rfl,h2,h3,h4⟩:=h;simp[XP h4]
def Iv{O:Nat→Prop}{E:EI}:∀(i:Nat) {cs:List AV} {vs:List Value},XRs w O E cs vs []→XRs w O E (cs.drop i) (vs.drop i) []
 |0,_,_,h=>by simpa using h
 |i+1,[],_,h=>by simp only[XRs]at h;simp[h.1,XRs]
 |i+1,c::cs,vs,h=>by
  simp only[XRs]at h;obtain⟨v,vs',n1,n2,rfl,h2,h3,h4⟩:=h;obtain⟨rfl,rfl⟩:=List.append_eq_nil_iff.1 h2.symm;simpa using Iv i h4
def MM{O:Nat→Prop}{E:EI}:∀(i:Nat) {cs:List AV} {vs:List Value},XRs w O E cs vs []→XRs w O E (cs.take i) (vs.take i) []
 |0,_,_,h=>by simp[XRs]
 |i+1,[],_,h=>by simp only[XRs]at h;simp[h.1,XRs]
 |i+1,c::cs,vs,h=>by
  simp only[XRs]at h;obtain⟨v,vs',n1,n2,rfl,h2,h3,h4⟩:=h;obtain⟨rfl,rfl⟩:=List.append_eq_nil_iff.1 h2.symm;simp only[List.take_succ_cons,XRs];exact⟨v,_,[],[],rfl,rfl,h3,MM i h4⟩
def Gg{x:Value}(h:∀cs,x≠.agg cs):x.cells.toList=[x]:=by
 cases x<;>first|rfl|exact absurd rfl (h _)
def z6(a b:List UInt8):((⟨a.toArray⟩:ByteArray)==⟨b.toArray⟩)=decide (a=b):=by
 rw[beq_toListBytes,ByteArray.toList_eq,ByteArray.toList_eq];by_cases h:a=b
 ·subst h;simp
 ·simp[h]
def AV.plain:AV→Bool
 |.i _ _|.b _|.s _=>true
 |_=>false
def Hz:∀{ks:List CK} {xs ys:List AV} {b:Bool},V1 ks xs ys=some b→(∀x∈xs,x.plain=true)∧∀y∈ys,y.plain=true
 |ks,xs,ys,b,h=>by
  unfold V1 at h
  split at h
  ·simp
  ·split at h
   ·obtain⟨b',h',_⟩:=Option.map_eq_some_iff.1 h
    have:=Hz h';simp[AV.plain];exact this
   ·cases h
  ·obtain⟨b',h',_⟩:=Option.map_eq_some_iff.1 h
   have:=Hz h';simp[AV.plain];exact this
  ·obtain⟨b',h',_⟩:=Option.map_eq_some_iff.1 h
   have:=Hz h';simp[AV.plain];exact this
  ·cases h
def W7{O:Nat→Prop}{E:EI}:∀{xs:List AV} {vs:List Value},(∀x∈xs,x.plain=true)→XRs w O E xs vs []→∀v∈vs,∀cs,v≠.agg cs
 |[],vs,_,h=>by simp only[XRs]at h;simp[h.1]
 |x::xs,vs,hp,h=>by
  simp only[XRs]at h;obtain⟨v,vs',n1,n2,rfl,h2,h3,h4⟩:=h;obtain⟨rfl,rfl⟩:=List.append_eq_nil_iff.1 h2.symm;intro u hu
  rcases List.mem_cons.1 hu with rfl|hu
  ·intro cs
   have:=hp x (by simp)
   cases x<;>simp[AV.plain]at this<;>simp only[XR]at h3<;>rw[h3.1]<;>simp
  ·exact W7 (λx hx=>hp x (by simp[hx])) h4 u hu
def tU{t:TypeId}{d:TypeDesc}{m:Nat}{cs:Array Value}{o:Nat}(hz:tz P t=some m)(ho:o+m≤cs.size)(hu:P.underlying t=some d)(hk:(∃fs,d=.struct fs)∨(m=1∧Nk d=false))
  (hn:∀v∈(cs.toList.drop o).take m,∀cs,v≠.agg cs) :
  ∃v,(∀w:World,(part t cs o).run P w=.ok v w)∧Ph P t v∧v.cells.toList=(cs.toList.drop o).take m:=by
 have hs:∀w:World,(sizeOf t).run P w=.ok m w:=by
  intro w;unfold tz at hz;cases hi:P.info? t with
  |none=>rw[hi]at hz;cases hz
  |some i=>rw[hi]at hz;simp at hz;simp[sizeOf,typeInfo,hi,hz]
 rcases hk with⟨fs,rfl⟩|⟨rfl,hd⟩
 ·refine⟨.agg (cs.extract o (o+m)),λw=>?_,by simp[Ph,hu],?_⟩
  ·simp[part,isAgg,underlying,hu,hs]
  ·simp[Value.cells]
 ·have hlt:o<cs.size:=by omega
  have hl:(cs.toList.drop o).take 1=[cs[o]]:=by
   rw[List.drop_eq_getElem_cons (by simpa using hlt)];simp
  have hno:∀c,cs[o]≠.agg c:=hn _ (by rw[hl];simp)
  refine⟨cs[o],λw=>?_,?_,?_⟩
  ·have:(isAgg t).run P w=.ok false w:=by
    cases d<;>first|(simp[Nk]at hd;done)|simp[isAgg,underlying,hu]
   simp only[part,Sem.run_bind,this,Result.andThen_ok];simp[hlt]
  ·unfold Ph;rw[hu]
   cases d<;>first|(simp[Nk]at hd;done)|exact hno
  ·rw[hl,Gg hno]
def qV{d:Nat}{t:TypeId}{ks:List CK}(h:ic P d t=some ks):∃ds,P.underlying t=some ds∧((∃fs,ds=.struct fs)∨(ks.length=1∧Nk ds=false)):=by
 cases d with
 |zero=>rw[ic]at h;cases h
 |succ d =>
  rw[cq]at h
  split at h
  ·rename_i hu;injection h with h;subst h;exact⟨_,hu,.inr ⟨rfl,rfl⟩⟩
  ·rename_i hu;injection h with h;subst h;exact⟨_,hu,.inr ⟨rfl,rfl⟩⟩
  ·rename_i hu;injection h with h;subst h;exact⟨_,hu,.inr ⟨rfl,rfl⟩⟩
  ·rename_i fs hu;exact⟨_,hu,.inl ⟨_,rfl⟩⟩
  ·cases h
def lK{O:Nat→Prop}{E:EI}{d D:Nat}(ih:∀(t:TypeId) (ks:List CK) (vx vy:Value) (xs ys:List AV) (b:Bool),ic P d t=some ks→Ph P t vx→Ph P t vy →
   XRs w O E xs vx.cells.toList []→XRs w O E ys vy.cells.toList []→V1 ks xs ys=some b→∀w':World,(Op.equalIn D t vx vy).run P w'=.ok b w') :
  ∀(fs:List Field) (o:Nat) (ks:List CK) (vx vy:Array Value) (xs ys:List AV) (b:Bool),PO (ic P d) P fs o=some ks→XRs w O E xs (vx.toList.drop o) []→XRs w O E ys (vy.toList.drop o) []→V1 ks xs ys=some b →
   ∀w':World,(Op.eqFields D vx vy fs).run P w'=.ok b w'
 |[],o,ks,vx,vy,xs,ys,b,h,hx,hy,hc,w'=>by
  rw[PO]at h;injection h with h;subst h
  obtain⟨h1,h2⟩:=Dn hc;obtain rfl:=List.length_eq_zero_iff.1 h1;obtain rfl:=List.length_eq_zero_iff.1 h2;rw[V1]at hc;injection hc with hc;subst hc
  simp[Op.eqFields]
 |f::fs,o,ks,vx,vy,xs,ys,b,h,hx,hy,hc,w'=>by
  rw[PO]at h
  split at h
  ·rename_i hf
   obtain⟨rfl,hname⟩:=hf
   split at h
   ·rename_i k1 hk1
    split at h
    ·rename_i hz
     obtain⟨k2,hk2,rfl⟩:=Option.map_eq_some_iff.1 h;obtain⟨b1,b2,rfl,hc1,hc2⟩:=Kk hc;obtain⟨ds,hu,hds⟩:=qV hk1;obtain⟨hl1,hl2⟩:=Dn hc1;obtain⟨hp1,hp2⟩:=Hz hc1;have hX:=MM k1.length hx;have hY:=MM k1.length hy;have e1:=XP hX;have e2:=XP hY;rw[hl1]at e1;rw[hl2]at e2;simp at e1 e2;have o1:f.offset+k1.length≤vx.size∨k1.length=0:=by omega
     have o2:f.offset+k1.length≤vy.size∨k1.length=0:=by omega
     have part1:∀(v:Array Value),f.offset+k1.length≤v.size∨k1.length=0→(∀u∈(v.toList.drop f.offset).take k1.length,∀cs,u≠.agg cs)→∃u,(∀w:World,(part f.type v f.offset).run P w=.ok u w)∧Ph P f.type u∧u.cells.toList=(v.toList.drop f.offset).take k1.length:=by
      intro v hv hn
      rcases hv with hv|hv
      ·exact tU hz hv hu hds hn
      ·rcases hds with⟨fs',rfl⟩|⟨h1,_⟩
       ·refine⟨.agg (v.extract f.offset (f.offset+k1.length)),λw=>?_,by simp[Ph,hu],?_⟩
        ·have hs:(sizeOf f.type).run P w=.ok k1.length w:=by
          unfold tz at hz;cases hi:P.info? f.type with
          |none=>rw[hi]at hz;cases hz
          |some i=>rw[hi]at hz;simp at hz;simp[sizeOf,typeInfo,hi,hz]
         simp[part,isAgg,underlying,hu,hs]
        ·simp[Value.cells,hv]
       ·omega
     obtain⟨u1,p1,q1,r1⟩:=part1 vx o1 (W7 hp1 hX);obtain⟨u2,p2,q2,r2⟩:=part1 vy o2 (W7 hp2 hY);have hr:=ih f.type k1 u1 u2 _ _ b1 hk1 q1 q2 (by rw[r1];exact hX) (by rw[r2];exact hY) hc1
     have hx2:=Iv k1.length hx;have hy2:=Iv k1.length hy;rw[List.drop_drop]at hx2 hy2;have hrec:=lK ih fs (f.offset+k1.length) k2 vx vy _ _ b2 hk2 hx2 hy2 hc2;simp only[Op.eqFields,if_pos hname,Sem.run_bind,p1,p2,hr,Result.andThen_ok];cases b1
     ·simp
     ·simp[hrec]
    ·cases h
   ·cases h
  ·cases h
def KY{O:Nat→Prop}{E:EI}{x:AV}{v:Value}(h:XRs w O E [x] [v] []):XR w O E x v []:=by
 simp only[XRs]at h;obtain⟨u,us,n1,n2,h1,h2,h3,h4,_⟩:=h;obtain⟨rfl,rfl⟩:=List.append_eq_nil_iff.1 h2.symm;injection h1 with h1
 rw[h1];exact h3
def kR{O:Nat→Prop}{E:EI}:∀(d D:Nat),d≤D→∀(t:TypeId) (ks:List CK) (vx vy:Value) (xs ys:List AV) (b:Bool),ic P d t=some ks→Ph P t vx→Ph P t vy →
   XRs w O E xs vx.cells.toList []→XRs w O E ys vy.cells.toList []→V1 ks xs ys=some b→∀w':World,(Op.equalIn D t vx vy).run P w'=.ok b w'
 |0,_,_,t,ks,vx,vy,xs,ys,b,h,_,_,_,_,_,_=>by rw[ic]at h;cases h
 |d+1,0,hd,_,_,_,_,_,_,_,_,_,_,_,_,_,_=>by omega
 |d+1,D+1,hd,t,ks,vx,vy,xs,ys,b,h,fx,fy,hx,hy,hc,w'=>by
  rw[cq]at h
  split at h
  ·rename_i hu
   injection h with h;subst h
   unfold Ph at fx fy;rw[hu]at fx fy;rw[Gg fx]at hx;rw[Gg fy]at hy;obtain⟨x,y,rfl,rfl⟩:∃x y,xs=[x]∧ys=[y]:=by
    obtain⟨h1,h2⟩:=Dn hc;obtain⟨x,rfl⟩:=List.length_eq_one_iff.1 h1;obtain⟨y,rfl⟩:=List.length_eq_one_iff.1 h2;exact⟨x,y,rfl,rfl⟩
   replace hx:=KY hx;replace hy:=KY hy;cases x<;>cases y<;>simp only[V1,Option.map_some,reduceCtorEq]at hc;rename_i p q;injection hc with hc
   subst hc;simp only[XR]at hx hy;rw[hx.1,hy.1];simp[Op.equalIn,run_underlying hu];by_cases hpq:p=q<;>simp[hpq]
  ·rename_i k hu
   injection h with h;subst h
   unfold Ph at fx fy;rw[hu]at fx fy;rw[Gg fx]at hx;rw[Gg fy]at hy;obtain⟨x,y,rfl,rfl⟩:∃x y,xs=[x]∧ys=[y]:=by
    obtain⟨h1,h2⟩:=Dn hc;obtain⟨x,rfl⟩:=List.length_eq_one_iff.1 h1;obtain⟨y,rfl⟩:=List.length_eq_one_iff.1 h2;exact⟨x,y,rfl,rfl⟩
   replace hx:=KY hx;replace hy:=KY hy;cases x<;>cases y<;>simp only[V1,Option.map_some,reduceCtorEq]at hc;rename_i k1 p k2 q
   split at hc
   ·rename_i hk
    subst hk;injection hc with hc
    subst hc;simp only[XR]at hx hy;rw[hx.1,hy.1];simp[Op.equalIn,run_underlying hu];by_cases hpq:p=q<;>simp[hpq]
   ·cases hc
  ·rename_i hu
   injection h with h;subst h
   unfold Ph at fx fy;rw[hu]at fx fy;rw[Gg fx]at hx;rw[Gg fy]at hy;obtain⟨x,y,rfl,rfl⟩:∃x y,xs=[x]∧ys=[y]:=by
    obtain⟨h1,h2⟩:=Dn hc;obtain⟨x,rfl⟩:=List.length_eq_one_iff.1 h1;obtain⟨y,rfl⟩:=List.length_eq_one_iff.1 h2;exact⟨x,y,rfl,rfl⟩
   replace hx:=KY hx;replace hy:=KY hy;cases x<;>cases y<;>simp only[V1,Option.map_some,reduceCtorEq]at hc;rename_i p q;injection hc with hc
   subst hc;simp only[XR]at hx hy;rw[hx.1,hy.1];simp[Op.equalIn,run_underlying hu,z6]
  ·rename_i fs hu
   split at h
   ·cases h
   ·rename_i hst
    unfold Ph at fx fy;rw[hu]at fx fy;obtain⟨cx,rfl⟩:=fx;obtain⟨cy,rfl⟩:=fy;have hfo:P.fieldsOf t=fs:=by simp[Program.fieldsOf,hu]
    rw[run_equalIn_struct w' D t cx cy (by rw[hfo];exact hu) (by simpa using hst),hfo]
    exact lK (λt ks vx vy xs ys b=>kR d D (by omega) t ks vx vy xs ys b) fs.toList 0 ks cx cy xs ys b h (by simpa[Value.cells]using hx) (by simpa[Value.cells]using hy) hc w'
  ·cases h
def teq_no_t:∀(d:Nat) (t:TypeId),(∀ks,ic P d t=some ks→CK.t∉ks)
 |0,t,ks,h=>by rw[ic]at h;cases h
 |d+1,t,ks,h=>by
  rw[cq]at h
  split at h<;>first|(injection h with h;subst h;simp;done)|skip
  ·split at h
   ·cases h
   ·exact fs_no_t d (teq_no_t d) _ _ _ h
  ·cases h
where
 fs_no_t (d:Nat) (ih:∀t ks,ic P d t=some ks→CK.t∉ks):∀(fs:List Field) (o:Nat) (ks:List CK),PO (ic P d) P fs o=some ks→CK.t∉ks
  |[],o,ks,h=>by rw[PO]at h;injection h with h;subst h;simp
  |f::fs,o,ks,h=>by
   rw[PO]at h
   split at h
   ·split at h
    ·rename_i k1 hk1
     split at h
     ·obtain⟨k2,hk2,rfl⟩:=Option.map_eq_some_iff.1 h
      simp only[List.mem_append,not_or];exact⟨ih _ _ hk1,fs_no_t d ih _ _ _ hk2⟩
     ·cases h
    ·cases h
   ·cases h
def MO(op:BinOp)(t:TypeId)(x y:Operand)(p q:Bool)(w:World):(eqGuard op t x y (.bool p) (.bool q)).run P w=.ok () w:=by
 cases op<;>simp[eqGuard]
def l6(p q:Bool):(p==q)=decide (p=q):=by cases p<;>cases q<;>rfl
def d9{t:TypeId}{p q:Bool}(hu:P.underlying t=some .bool)(w:World):(binOp .eql t (.bool p) (.bool q)).run P w=.ok (.bool (decide (p=q))) w:=by
 have he:(Op.equalIn 10000 t (.bool p) (.bool q)).run P w=.ok (p==q) w:=run_equalIn_bool' w 9999 t p q hu;simp only[binOp];simp only[Op.equal,Op.maxDepth,Sem.run_bind,he,Result.andThen_ok,Sem.run_pure,l6]
def cD{t:TypeId}{p q:Bool}(hu:P.underlying t=some .bool)(w:World):(binOp .neq t (.bool p) (.bool q)).run P w=.ok (.bool (!decide (p=q))) w:=by
 have he:(Op.equalIn 10000 t (.bool p) (.bool q)).run P w=.ok (p==q) w:=run_equalIn_bool' w 9999 t p q hu;simp only[binOp];simp only[Op.equal,Op.maxDepth,Sem.run_bind,he,Result.andThen_ok,Sem.run_pure,l6]
def wI{O:Nat→Prop}{E:EI}{op:BinOp}{x y:AV}{k:AV→Prop}{l}{t:TypeId}{cx cy:Operand}{vx vy:Value}(h:ft (L5 P t) op x y k l)(hx:XR w O E x vx [])(hy:XR w O E y vy []) :
  ∃v av,Yl P (do eqGuard op t cx cy vx vy;binOp op t vx vy) v∧XR w O E av v []∧k av:=by
 unfold ft at h
 split at h
 ·rename_i xs ys
  simp only[XR]at hx hy;obtain⟨vs,rfl,hX⟩:=hx;obtain⟨us,rfl,hY⟩:=hy;have key:∀{kk:Bool→Prop},c7 (L5 P t) xs ys kk ()→∃b,kk b∧P.eqGuardType P.depth t=false∧∀w':World,(Op.equalIn 10000 t (.agg vs) (.agg us)).run P w'=.ok b w':=by
   intro kk h;unfold c7 at h
   split at h
   ·rename_i ks hks
    split at h
    ·rename_i b hb
     unfold L5 at hks
     split at hks
     ·rename_i fs hu
      split at hks
      ·cases hks
      ·rename_i hg
       exact⟨b,h,by simpa using hg,kR 9 10000 (by omega) t ks _ _ xs ys b hks (by simp[Ph,hu]) (by simp[Ph,hu]) hX hY hb⟩
     ·injection hks with hks
      subst hks;simp[V1]at hb
     ·cases hks
    ·exact h.elim
   ·exact h.elim
  split at h
  ·obtain⟨b,hk,hg,hr⟩:=key h
   exact⟨.bool b,_,λw=>by simp only[Sem.run_bind,run_eqGuard_agg w _ t _ _ _ _ hg,Result.andThen_ok,run_eql_struct,hr],by simp[XR],hk⟩
  ·obtain⟨b,hk,hg,hr⟩:=key h
   exact⟨.bool (!b),_,λw=>by simp only[Sem.run_bind,run_eqGuard_agg w _ t _ _ _ _ hg,Result.andThen_ok,run_neq_struct,hr],by simp[XR],hk⟩
  ·exact h.elim
 ·rename_i p q
  simp only[XR]at hx hy;obtain⟨rfl,_⟩:=hx;obtain⟨rfl,_⟩:=hy;have hb:L5 P t=some [.t]→P.underlying t=some .bool:=by
   intro ht;unfold L5 at ht
   split at ht
   ·rename_i fs hu
    split at ht
    ·cases ht
    ·rw[cq,hu]at ht
     simp only at ht
     split at ht
     ·cases ht
     ·exact absurd (List.mem_singleton.2 rfl) (teq_no_t.fs_no_t 8 (teq_no_t 8) _ _ _ ht)
   ·assumption
   ·cases ht
  split at h
  ·rename_i ht
   exact⟨.bool (decide (p=q)),_,λw=>by simp only[Sem.run_bind,MO,Result.andThen_ok,d9 (hb ht)],by simp[XR],h⟩
  ·rename_i ht
   exact⟨.bool (!decide (p=q)),_,λw=>by simp only[Sem.run_bind,MO,Result.andThen_ok,cD (hb ht)],by simp[XR],h⟩
  ·exact h.elim
 ·simp only[XR]at hx hy
  obtain⟨rfl,_⟩:=hx;obtain⟨rfl,_⟩:=hy
  split at h
  ·rename_i hs
   obtain⟨hb,hk⟩:=h;have hb':¬(_<(0:Int)):=Int.not_lt.2 hb;cases op<;>first
    |(cases hs;done)
    |exact⟨_,_,λw=>by simp[eqGuard,binOp,Op.shift,hb'];rfl,by simp[XR,zJ],hk⟩
  split at h
  ·rename_i hcd
   subst hcd
   split at h<;>first
    |exact h.elim
    |exact⟨_,_,λw=>by simp[eqGuard,binOp,Op.intArith,Op.intCmp,Op.intBits];rfl,by simp[XR,KC],h⟩
    |(obtain⟨hb,hk⟩:=h;exact⟨_,_,λw=>by simp[eqGuard,binOp,Op.intDiv,hb];rfl,by simp[XR],hk⟩)
  ·exact h.elim
 ·simp only[XR]at hx hy
  obtain⟨rfl,_⟩:=hx;obtain⟨rfl,_⟩:=hy
  split at h<;>first
   |exact h.elim
   |exact⟨_,_,λw=>by simp[eqGuard,binOp,Op.stringOp];rfl,by simp[XR,bne],h⟩
   |(obtain⟨hb,hk⟩:=h;exact⟨_,_,λw=>by simp[eqGuard,binOp,Op.stringOp];rw[if_neg (by simp[ByteArray.size];omega),ii],by simp[XR],hk⟩)
 ·exact h.elim
def Qcz{O:Nat→Prop}{E:EI}{op:UnOp}{x:AV}{k:AV→Prop}{l}{vx:Value}(h:xun op x k l)(hx:XR w O E x vx []) :
  ∃v av,Yl P (Op.unary op vx) v∧XR w O E av v []∧k av:=by
 unfold xun at h
 split at h
 ·simp only[XR]at hx
  obtain⟨rfl,_⟩:=hx;exact⟨_,_,λw=>by simp[Op.unary];rfl,by simp[XR],h⟩
 ·simp only[XR]at hx
  obtain⟨rfl,_⟩:=hx;exact⟨_,_,λw=>by simp[Op.unary];rfl,by simp[XR],h⟩
 ·exact h.elim
def sG{O:Nat→Prop}{E:EI}{c x y:AV}{k:AV→Prop}{l}{vc vx vy:Value}(h:TS c x y k l)(hc:XR w O E c vc [])(hx:XR w O E x vx [])(hy:XR w O E y vy []) :
  ∃v av,Yl P (do pure (if ←asBool vc then vx else vy)) v∧XR w O E av v []∧k av:=by
 unfold TS at h
 split at h
 ·simp only[XR]at hc
  obtain⟨rfl,_⟩:=hc;exact⟨vx,_,λw=>by simp[asBool],hx,h⟩
 ·simp only[XR]at hc
  obtain⟨rfl,_⟩:=hc;exact⟨vy,_,λw=>by simp[asBool],hy,h⟩
 ·exact h.elim
def xi{O:Nat→Prop}{E:EI}{x:AV}{i:Nat}{k:AV→Prop}{l}{vx:Value}(h:eG x i k l)(hx:XR w O E x vx []) :
  ∃v av,Yl P (Instr.extract vx i) v∧XR w O E av v []∧k av:=by
 unfold eG at h
 split at h
 ·rename_i cs
  simp only[XR]at hx;obtain⟨vs,rfl,hx⟩:=hx
  split at h
  ·rename_i c hc
   obtain⟨v,hv,hr⟩:=lu hx hc;exact⟨v,c,λw=>by simp at hv;simp[Instr.extract,hv],hr,h⟩
  ·exact h.elim
 ·exact h.elim
def YX{t:TypeId}{e m:Nat}(h:ti P t=.sl e m):P.underlying t=some (.slice e)∧tz P e=some m:=by
 unfold ti at h
 split at h
 ·split at h
  ·injection h with h1 h2;subst h1 h2;exact⟨by assumption,by assumption⟩
  ·cases h
 ·split at h<;>cases h
 ·cases h
 ·cases h
 ·cases h
def vZ{t:TypeId}{l e m:Nat}(h:ti P t=.arr l e m):P.underlying t=some (.array l e)∧tz P e=some m:=by
 unfold ti at h
 split at h
 ·split at h<;>cases h
 ·split at h
  ·injection h with h0 h1 h2;subst h0 h1 h2;exact⟨by assumption,by assumption⟩
  ·cases h
 ·cases h
 ·cases h
 ·cases h
def da{t:TypeId}(h:ti P t=.str):P.underlying t=some .string:=by
 unfold ti at h
 split at h
 ·split at h<;>cases h
 ·split at h<;>cases h
 ·assumption
 ·cases h
 ·cases h
def sD{t:TypeId}{k:IntKind}(h:ti P t=.int k):P.underlying t=some (.int k):=by
 unfold ti at h
 split at h
 ·split at h<;>cases h
 ·split at h<;>cases h
 ·cases h
 ·injection h with h;subst h;assumption
 ·cases h
def V4{t:TypeId}{d:TypeDesc}(h:P.underlying t=some d)(w:World):(underlying t).run P w=.ok d w:=by simp[underlying,h]
def Xb{t:TypeId}{m:Nat}(h:tz P t=some m)(w:World):(sizeOf t).run P w=.ok m w:=by
 unfold tz at h;cases hi:P.info? t with
 |none=>rw[hi]at h;cases h
 |some i=>rw[hi]at h;simp at h;simp[sizeOf,typeInfo,hi,h]
def Sim.mem[Wd](hS:Sim n Y w0 F0 ρ f K a w){j:Nat}{e:QE}(hj:kg K j=some e)(hr:e.rows≠[]) :
  ∃b,(ρ j).1=some b∧Whole w b (e.rows.length*e.n)∧RR w (OO K ρ Y) (e.E (EK K ρ)) e.n b 0 e.rows (ρ j).2∧(e.isBox=true→(ρ j).2=[]):=by
 have h:=hS.sees.reg j e hj;unfold Reg at h;cases hb:(ρ j).1 with
 |none=>rw[hb]at h;exact absurd h.1 hr
 |some b=>rw[hb]at h;exact⟨b,rfl,h⟩
def NB[Wd](hS:Sim n Y w0 F0 ρ f K a w){j:Nat}{e:QE}{v:Value}(hj:kg K j=some e)(h:XR w (OO K ρ Y) (EK K ρ) (.sl j) v []) :
  ∃ad cap,v=.slice ad e.rows.length cap∧e.rows.length≤cap∧(((ρ j).1=none∧cap=0∧e.rows=[])∨∃b,(ρ j).1=some b∧ad=some ⟨b,0,none⟩∧Whole w b (cap*e.n)):=by
 simp only[XR]at h;cases hb:(ρ j).1 with
 |none =>
  have hr:=hS.sees.reg j e hj;rw[hb]at hr;obtain⟨q,hv⟩:=h.2.2.1 e.n e.rows.length (by simp[EK,hj,hb])
  have h0:e.rows=[]:=hr.1;exact⟨q,0,by rw[hv,h0];rfl,by rw[h0];exact Qg _,.inl ⟨rfl,rfl,h0⟩⟩
 |some b =>
  obtain⟨cap,h1,h2,h3⟩:=h.2.2.2 b e.n e.rows.length (by simp[EK,hj,hb])
  exact⟨_,cap,h1,h2,.inr ⟨b,rfl,rfl,h3⟩⟩
def Fg[Wd](hS:Sim n Y w0 F0 ρ f K a w){j i o:Nat}{e:QE}{v:Value}(hj:kg K j=some e)(h:XR w (OO K ρ Y) (EK K ρ) (.ptr j i o) v []) :
  ∃b,(ρ j).1=some b∧v=.pointer (some ⟨b,i*e.n+o,none⟩):=by
 simp only[XR]at h;cases hb:(ρ j).1 with
 |none=>exact(h.2.2.1 e.n e.rows.length (by simp[EK,hj,hb])).elim
 |some b=>exact⟨b,rfl,h.2.2.2 b e.n e.rows.length (by simp[EK,hj,hb])⟩
def NF{E:EI}{O:Nat→Prop}{j i o bl:Nat}{e:QE}(hj:kg K j=some e)(hb:(ρ j).1=some bl)(hlt:j<K.length):XR w O (EK K ρ) (.ptr j i o) (.pointer (some ⟨bl,i*e.n+o,none⟩)) []:=by
 simp only[XR];refine⟨trivial,hlt,λn len h=>?_,λb n len h=>?_⟩
 ·simp[EK,hj,hb]at h
 ·simp[EK,hj,hb]at h
  obtain⟨rfl,rfl,rfl⟩:=h;rfl
def Wx(x:List UInt8):(⟨x.toArray⟩:ByteArray).size=x.length:=by simp[ByteArray.size]
def wF[Wd](hS:Sim n Y w0 F0 ρ f K a w){x:AV}{k:AV→Prop}{l}{vx:Value}{T:Array TypeId}{t ty:TypeId}(hT:T[0]?=some t)
  (h:gG K (ti P t) x k l) (hx:XR w (OO K ρ Y) (EK K ρ) x vx []) :
  ∃v av,Yl P (Builtin.len_ T ty #[vx]) v∧XR w (OO K ρ Y) (EK K ρ) av v []∧k av:=by
 unfold gG at h
 split at h
 ·rename_i e m ht
  have hu:=(YX ht).1;simp only[XR]at hx;obtain⟨⟨q,rfl⟩,_⟩:=hx;exact⟨_,_,λw=>by simp[Builtin.len_,hT,underlying,hu,goInt];rfl,by simp[XR],h⟩
 ·rename_i e m nn rows ht
  have hu:=(YX ht).1;simp only[XR]at hx;obtain⟨_,a,cap,rfl,_,_⟩:=hx;exact⟨_,_,λw=>by simp[Builtin.len_,hT,underlying,hu,goInt];rfl,by simp[XR],h⟩
 ·rename_i e m j ht
  have hu:=(YX ht).1
  split at h
  ·rename_i e he
   obtain⟨ad,cap,rfl,_,_⟩:=NB hS he hx;exact⟨_,_,λw=>by simp[Builtin.len_,hT,underlying,hu,goInt];rfl,by simp[XR],h⟩
  ·exact h.elim
 ·rename_i x ht
  have hu:=da ht;simp only[XR]at hx;obtain⟨rfl,_⟩:=hx;exact⟨_,_,λw=>by simp[Builtin.len_,hT,underlying,hu,goInt,-ByteArray.size_data,Wx];rfl,by simp[XR],h⟩
 ·rename_i l e m ht
  have hu:=(vZ ht).1;exact⟨_,_,λw=>by simp[Builtin.len_,hT,underlying,hu,goInt];rfl,by simp[XR],h⟩
 ·exact h.elim
def DY(b o k:Nat):(⟨b,o,none⟩:Addr).add k=⟨b,o+k,none⟩:=by
 unfold Addr.add;split
 ·rename_i h;subst h;rfl
 ·rfl
def yb[Wd](hS:Sim n Y w0 F0 ρ f K a w){x i:AV}{k:AV→Prop}{l}{vx vi:Value}{t:TypeId}
  (h:eF K (ti P t) x i k l) (hx:XR w (OO K ρ Y) (EK K ρ) x vx []) (hi:XR w (OO K ρ Y) (EK K ρ) i vi []) :
  ∃v av,Yl P (Instr.indexAt t vx vi) v∧XR w (OO K ρ Y) (EK K ρ) av v []∧k av:=by
 unfold eF at h
 split at h
 ·rename_i e m nn rows c i ht
  obtain⟨hu,hz⟩:=YX ht;simp only[XR]at hi;obtain⟨rfl,_⟩:=hi
  split at h
  ·rename_i hm
   subst hm;obtain⟨⟨h0,h1⟩,hk⟩:=h;simp only[XR]at hx;obtain⟨_,ad,cap,rfl,hc,hr⟩:=hx
   rcases hr with rfl|⟨bl,off,rfl,hO,hb,hR⟩
   ·simp at h1;omega
   ·refine⟨.pointer (some ⟨bl,off+i.toNat*m,none⟩),_,λw=>?_,?_,hk⟩
    ·simp[Instr.indexAt,asIntOf,V4 hu,Xb hz,h0,h1,DY]
    ·simp only[XR,true_and,Nat.add_zero]
     exact⟨bl,off,rfl,hO,hb,hR⟩
  ·exact h.elim
 ·rename_i e m j c i ht
  obtain⟨hu,hz⟩:=YX ht;simp only[XR]at hi;obtain⟨rfl,_⟩:=hi
  split at h
  ·rename_i e he
   split at h
   ·rename_i hm
    subst hm;obtain⟨⟨h0,h1⟩,hk⟩:=h;have hx':=hx;obtain⟨ad,cap,rfl,hc,hw⟩:=NB hS he hx;simp only[XR]at hx'
    rcases hw with⟨_,_,h0'⟩|⟨b,hb,rfl,hw⟩
    ·rw[h0']at h1;simp at h1;omega
    refine⟨.pointer (some ⟨b,i.toNat*e.n,none⟩),_,λw=>?_,?_,hk⟩
    ·simp[Instr.indexAt,asIntOf,V4 hu,Xb hz,h0,h1,DY]
    ·exact NF (E:=EN) (o:=0) he hb hx'.2.1
   ·exact h.elim
  ·exact h.elim
 ·rename_i len e m j r o c i ht
  obtain⟨hu,hz⟩:=vZ ht;simp only[XR]at hi;obtain⟨rfl,_⟩:=hi
  split at h
  ·rename_i e' he
   obtain⟨⟨h0,h1⟩,hk⟩:=h;obtain⟨b,hb,hv⟩:=Fg hS he hx;subst hv;have hx':=hx;simp only[XR]at hx';refine⟨.pointer (some ⟨b,r*e'.n+(o+i.toNat*m),none⟩),_,λw=>?_,?_,hk⟩
   ·simp[Instr.indexAt,Instr.sureAddr,asIntOf,V4 hu,Xb hz,h0,h1,DY,Nat.add_assoc]
   ·exact NF (E:=EN) he hb hx'.2.1
  ·exact h.elim
 ·exact h.elim
def kX{O:Nat→Prop}{E:EI}{m:Nat}:∀(i:Nat) {rs:List (List AV)} {bl off:Nat},i≤rs.length→RR w O E m bl off rs []→RR w O E m bl (off+i*m) (rs.drop i) []
 |0,rs,bl,off,_,h=>by simpa using h
 |i+1,[],bl,off,hl,h=>by simp at hl
 |i+1,r::rs,bl,off,hl,h=>by
  simp only[RR]at h;obtain⟨n1,n2,h1,h2,h3,h4⟩:=h;obtain⟨rfl,rfl⟩:=List.append_eq_nil_iff.1 h1.symm;have:=kX i (by simpa using hl) h4
  rw[List.drop_succ_cons,Nat.succ_mul,Nat.add_comm (i*m) m,←Nat.add_assoc];exact this
def mv{O:Nat→Prop}{E:EI}{m:Nat}:∀(i:Nat) {rs:List (List AV)} {bl off:Nat},RR w O E m bl off rs []→RR w O E m bl off (rs.take i) []
 |0,rs,bl,off,h=>by simp[RR]
 |i+1,[],bl,off,h=>by simp[RR]
 |i+1,r::rs,bl,off,h=>by
  simp only[RR]at h;obtain⟨n1,n2,h1,h2,h3,h4⟩:=h;obtain⟨rfl,rfl⟩:=List.append_eq_nil_iff.1 h1.symm;simp only[List.take_succ_cons,RR];exact⟨[],[],rfl,h2,h3,mv i h4⟩
def QaG[Wd](hS:Sim n Y w0 F0 ρ f K a w){d l:Int}{lo:Option Operand}(h:bd d (lo.map (Am.ev f))=some l):(lo=none∧l=d)∨∃o c,lo=some o∧a.eval o=.int c l:=by
 cases lo with
 |none=>simp[bd]at h;exact .inl ⟨rfl,h.symm⟩
 |some o =>
  refine .inr ⟨o,?_⟩;have hx:=hS.ev o;simp only[Option.map_some]at h;unfold bd at h
  split at h
  ·rename_i heq;cases heq
  ·rename_i c i heq
   injection heq with heq
   injection h with h
   subst h;rw[heq]at hx;simp only[XR]at hx;exact⟨c,rfl,hx.1⟩
  ·cases h
def Y8[Wd](hS:Sim n Y w0 F0 ρ f K a w){isS:Bool}{len cap:Nat}{lo hi:Option Operand}{l h:Int}(h1:bd 0 (lo.map (Am.ev f))=some l)(h2:bd len (hi.map (Am.ev f))=some h)(h0:0≤l∧l≤h∧h≤len)(hc:len≤cap)(w':World) :
  (Instr.sliceBounds isS len cap (lo.map a.eval) (hi.map a.eval) none).run P w'=.ok (l.toNat,h.toNat,cap) w':=by
 have bound:∀(c:IntKind) (i:Int) (y:Nat) (code:BoundsCode),0≤i→i≤y→(Instr.sliceBound (.int c i) y code).run P w'=.ok i.toNat w':=λc i y code q1 q2=>by simp[Instr.sliceBound,asIntOf,q1,q2]
 have e0:(h.toNat:Int)=h:=by omega
 rcases QaG hS h1 with⟨rfl,rfl⟩|⟨o1,c1,rfl,e1⟩<;>rcases QaG hS h2 with⟨rfl,rfl⟩|⟨o2,c2,rfl,e2⟩
 ·simp[Instr.sliceBounds]
 ·simp only[Instr.sliceBounds,Option.map_some,Option.map_none,e2,Sem.run_bind,Sem.run_pure,Result.andThen_ok]
  rw[bound _ _ _ _ (by omega) (by omega)];simp
 ·simp only[Instr.sliceBounds,Option.map_some,Option.map_none,e1,Sem.run_bind,Sem.run_pure,Result.andThen_ok]
  rw[bound _ _ _ _ (by omega) (by omega)];simp
 ·simp only[Instr.sliceBounds,Option.map_some,Option.map_none,e1,e2,Sem.run_bind,Sem.run_pure,Result.andThen_ok]
  rw[bound _ _ _ _ (by omega) (by omega),Result.andThen_ok,bound _ _ _ _ (by omega) (by omega)];simp
def gi(x:List UInt8)(l h:Nat):(⟨x.toArray⟩:ByteArray).extract l h=⟨((x.take h).drop l).toArray⟩:=by
 ext1
 simp only[ByteArray.data_extract];apply Array.toList_inj.1;simp[List.drop_take]
def wS(x:List UInt8)(i:Nat)(h:i<x.length):(⟨x.toArray⟩:ByteArray)[i]?=some (x.getD i default):=by
 have:i<(⟨x.toArray⟩:ByteArray).size:=by rw[Wx];exact h
 rw[getElem?_pos (⟨x.toArray⟩:ByteArray) i this];simp only[List.getD_eq_getElem?_getD,List.getElem?_eq_getElem h,Option.getD_some];rfl
def yH[Wd](hS:Sim n Y w0 F0 ρ f K a w){x:AV}{k:AV→Prop}{l}{vx:Value}{t:TypeId}{lo hi:Option Operand}
  (h:fu (ti P t) x (lo.map (Am.ev f)) (hi.map (Am.ev f)) k l) (hx:XR w (OO K ρ Y) (EK K ρ) x vx []) :
  ∃v av,Yl P (Instr.sliceAt t vx (lo.map a.eval) (hi.map a.eval) none) v∧XR w (OO K ρ Y) (EK K ρ) av v []∧k av:=by
 unfold fu at h
 split at h
 ·rename_i e m nn rows ht
  obtain⟨hu,hz⟩:=YX ht
  split at h
  ·rename_i hm
   subst hm
   split at h
   ·rename_i lv hv h1 h2
    obtain⟨h0,hk⟩:=h;simp only[XR]at hx;obtain⟨_,ad,cap,rfl,hc,hr⟩:=hx;have hb:=Y8 (P:=P) (isS:=true) hS h1 h2 h0 hc;refine⟨.slice (if cap=lv.toNat then ad else ad.map (·.add (lv.toNat*m))) (hv.toNat-lv.toNat) (cap-lv.toNat),_,λw=>?_,?_,hk⟩
    ·simp[Instr.sliceAt,Instr.slice,V4 hu,hb,Xb hz]
    ·have hlen:((rows.take hv.toNat).drop lv.toNat).length=hv.toNat-lv.toNat:=by simp;omega
     simp only[XR,true_and];rw[hlen];refine⟨_,_,rfl,by omega,?_⟩
     by_cases hlt:lv.toNat=hv.toNat
     ·exact .inl (List.length_eq_zero_iff.1 (by rw[hlen];omega))
     ·rcases hr with rfl|⟨bl,off,rfl,hO,hbl,hR⟩
      ·simp at h0;omega
      ·refine .inr ⟨bl,off+lv.toNat*m,?_,hO,hbl,?_⟩
       ·rw[if_neg (by omega)];simp[DY]
       ·exact kX _ (by simp;omega) (mv _ hR)
   ·exact h.elim
  ·exact h.elim
 ·rename_i x ht
  have hu:=da ht
  split at h
  ·rename_i lv hv h1 h2
   obtain⟨h0,hk⟩:=h;simp only[XR]at hx;obtain⟨rfl,_⟩:=hx;have hb:=Y8 (P:=P) (isS:=false) hS h1 h2 h0 (Qg _);refine⟨.string ⟨((x.take hv.toNat).drop lv.toNat).toArray⟩,_,λw=>?_,by simp[XR],hk⟩
   simp[Instr.sliceAt,Instr.slice,V4 hu,-ByteArray.size_data,Wx,hb,gi]
  ·exact h.elim
 ·exact h.elim
def Qam{O:Nat→Prop}{E:EI}{x i:AV}{k:AV→Prop}{l}{vx vi:Value}{t:TypeId}(h:gJ (ti P t) x i k l)(hx:XR w O E x vx [])(hi:XR w O E i vi []) :
  ∃v av,Yl P (Instr.index t vx vi) v∧XR w O E av v []∧k av:=by
 unfold gJ at h
 split at h
 ·rename_i x c i ht
  have hu:=da ht;obtain⟨h0,hk⟩:=h;simp only[XR]at hx hi;obtain⟨rfl,_⟩:=hx;obtain⟨rfl,_⟩:=hi;have h1:i.toNat<x.length:=by omega
  refine⟨.int .u8 ((x.getD i.toNat default).toNat:Int),_,λw=>?_,by simp[XR],hk⟩
  simp only[Instr.index,asIntOf,V4 hu,h0.1,if_true,Sem.run_bind,Sem.run_pure,Result.andThen_ok,wS x _ h1]
 ·exact h.elim
def qB{t:TypeId}{i o:Nat}{k:TK}(h:E7 P t i=some (o,k)):∃fs fd m,P.underlying t=some (.struct fs)∧fs[i]?=some fd∧tz P fd.type=some (m+1)∧fd.offset=o∧k=tk P fd.type:=by
 unfold E7 at h
 split at h
 ·rename_i fs hu
  split at h
  ·rename_i fd hf
   split at h
   ·rename_i m hz
    injection h with h;injection h with h1 h2
    exact⟨fs,fd,m,hu,hf,hz,h1,h2.symm⟩
   ·cases h
  ·cases h
 ·cases h
def dC{t:TypeId}{m:Nat}(h:tk P t=.agg m):tz P t=some m∧∃d,P.underlying t=some d∧Nk d=true:=by
 unfold tk at h
 split at h
 ·rename_i d hu
  split at h
  ·rename_i hd
   split at h
   ·injection h with h;subst h;exact⟨by assumption,d,hu,hd⟩
   ·cases h
  ·split at h<;>cases h
 ·cases h
def WD{t:TypeId}(h:tk P t=.one):tz P t=some 1∧∃d,P.underlying t=some d∧Nk d=false:=by
 unfold tk at h
 split at h
 ·rename_i d hu
  split at h
  ·split at h<;>cases h
  ·rename_i hd
   split at h
   ·exact⟨by assumption,d,hu,by simpa using hd⟩
   ·cases h
 ·cases h
def KU{t:TypeId}{d:TypeDesc}(hu:P.underlying t=some d)(w:World):(isAgg t).run P w=.ok (Nk d) w:=by
 simp only[isAgg,Sem.run_bind,V4 hu,Result.andThen_ok];cases d<;>rfl
def w8[Wd](hS:Sim n Y w0 F0 ρ f K a w){x:AV}{k:AV→Prop}{l}{vx:Value}{t:TypeId}{i:Nat}
  (h:gk K x (E7 P t i) k l) (hx:XR w (OO K ρ Y) (EK K ρ) x vx []) :
  ∃v av,Yl P (Instr.fieldAt t vx i) v∧XR w (OO K ρ Y) (EK K ρ) av v []∧k av:=by
 unfold gk at h
 split at h
 ·rename_i j r p o kk ho
  obtain⟨fs,fd,m,hu,hf,hm,rfl,_⟩:=qB ho
  split at h
  ·rename_i e he
   obtain⟨b,hb,hv⟩:=Fg hS he hx;subst hv;have hx':=hx;simp only[XR]at hx';refine⟨.pointer (some ⟨b,r*e.n+(p+fd.offset),none⟩),_,λw=>?_,?_,h⟩
   ·simp[Instr.fieldAt,Instr.sureAddr,V4 hu,hf,fieldPlace,Xb hm,DY,Nat.add_assoc]
   ·exact NF (E:=EN) he hb hx'.2.1
  ·exact h.elim
 ·rename_i nn rows r p o kk ho
  obtain⟨fs,fd,m,hu,hf,hm,rfl,_⟩:=qB ho;simp only[XR]at hx;obtain⟨_,bl,off,rfl,hO,hb,hR⟩:=hx;refine⟨.pointer (some ⟨bl,off+(r*nn+(p+fd.offset)),none⟩),_,λw=>?_,?_,h⟩
  ·simp[Instr.fieldAt,Instr.sureAddr,V4 hu,hf,fieldPlace,Xb hm,DY,Nat.add_assoc]
  ·simp only[XR,true_and]
   exact⟨bl,off,rfl,hO,hb,hR⟩
 ·exact h.elim
def I4{O:Nat→Prop}{E:EI}:∀{cs:List AV} {bl o:Nat} {nb:List Nat},CR w O E bl o cs nb →
  ∃vs:List Value,vs.length=cs.length∧(∀i,i<cs.length→w.cell? ⟨bl,o+i,none⟩=vs[i]?)∧XRs w O E cs vs nb∧∀v∈vs,VI v=true
 |[],bl,o,nb,h=>⟨[],rfl,λi hi=>by simp at hi,by simp only[CR]at h;simp[XRs,h],by simp⟩
 |c::cs,bl,o,nb,h=>by
  simp only[CR]at h;obtain⟨v,n1,n2,h1,rfl,h3,h4⟩:=h;obtain⟨vs,hl,hv,hx,hone⟩:=I4 h4;refine⟨v::vs,by simp[hl],λi hi=>?_,by simp only[XRs];exact⟨v,vs,n1,n2,rfl,rfl,h3,hx⟩,λu hu=>by rcases List.mem_cons.1 hu with rfl|hu;exact h1.2;exact hone u hu⟩
  cases i with
  |zero=>simpa using h1.1
  |succ i =>
   have:=hv i (by simpa using hi)
   simpa[Nat.add_assoc,Nat.add_comm 1 i]using this
def QjQ{O:Nat→Prop}{E:EI}{c:AV}{v:Value}{nb:List Nat}(h:XR w O EN c v nb):XR w O E (ld c) v []:=by
 cases c<;>simp[ld,AV.closed,XR]at h ⊢<;>first|exact h.1|exact h.2|trivial
def iJ{O:Nat→Prop}{E:EI}:∀{cs:List AV} {vs:List Value} {nb:List Nat},XRs w O EN cs vs nb→XRs w O E (cs.map ld) vs []
 |[],vs,nb,h=>by simp only[XRs]at h;simp[XRs,h.1]
 |c::cs,vs,nb,h=>by
  simp only[XRs]at h;obtain⟨v,vs',n1,n2,rfl,rfl,h3,h4⟩:=h;simp only[List.map_cons,XRs];exact⟨v,vs',[],[],rfl,rfl,QjQ h3,iJ h4⟩
def Ti{O:Nat→Prop}{E:EI}{n:Nat}:∀{rs:List (List AV)} {bl off:Nat} {nb:List Nat} {i:Nat},RR w O E n bl off rs nb→i<rs.length →
  ∃nb',(VJ rs i).length=n∧CR w O E bl (off+i*n) (VJ rs i) nb'∧∀b∈nb',b∈nb
 |[],_,_,_,_,_,hi=>by simp at hi
 |r::rs,bl,off,nb,i,h,hi=>by
  simp only[RR]at h;obtain⟨n1,n2,rfl,hr,h3,h4⟩:=h;cases i with
  |zero=>exact⟨n1,by simpa[VJ]using hr,by simpa[VJ]using h3,λb hb=>by simp[hb]⟩
  |succ i =>
   obtain⟨nb',h5,h6,h7⟩:=Ti h4 (by simpa using hi:i<rs.length)
   refine⟨nb',by simpa[VJ]using h5,?_,λb hb=>by simp[h7 b hb]⟩
   have e:off+n+i*n=off+(i+1)*n:=by rw[Nat.succ_mul];omega
   rw[e]at h6;simpa[VJ]using h6
def Wi[Wd](hS:Sim n Y w0 F0 ρ f K a w){p:AV}{vp:Value}(hx:XR w (OO K ρ Y) (EK K ρ) p vp [])(hne:Z9 K p≠[]) :
  ∃bl o,∃vs:List Value,vp=.pointer (some ⟨bl,o,none⟩)∧bl<w.heap.size∧vs.length=(Z9 K p).length∧(∀i,i<vs.length→w.cell? ⟨bl,o+i,none⟩=vs[i]?)∧XRs w (OO K ρ Y) (EK K ρ) (Z9 K p) vs []:=by
 unfold Z9 at hne ⊢
 split at hne
 ·rename_i j i o
  split at hne
  ·rename_i cs hj
   split at hne
   ·rename_i hi
    subst hi;obtain⟨bl,hbl,hv⟩:=Fg hS hj hx;obtain⟨bl',hbl',hW,hR,hb⟩:=hS.mem hj (by simp[QE.rows])
    obtain rfl:bl=bl':=by rw[hbl]at hbl';injection hbl'
    have hb:=hb rfl;simp only[QE.rows,QE.n,QE.E,RR]at hR;obtain⟨n1,n2,h1,_,hC,rfl⟩:=hR;rw[hb]at h1;obtain⟨rfl,_⟩:=List.append_eq_nil_iff.1 h1.symm;obtain⟨vs,hl,hc,hX,_⟩:=I4 hC;refine⟨bl,o,vs.drop o,?_,hW.lt,?_,?_,?_⟩
    ·rw[hv];simp
    ·simp[hj,hl]
    ·intro i hi
     rw[List.length_drop]at hi;have:=hc (o+i) (by omega)
     rw[List.getElem?_drop,←this];simp
    ·simpa[hj]using Iv o hX
   ·exact absurd rfl hne
  ·rename_i m rows hj
   have hi:i<rows.length:=by
    rcases Nat.lt_or_ge i rows.length with h|h
    ·exact h
    ·simp[VJ,List.getD,List.getElem?_eq_none h]at hne
   obtain⟨bl,hbl,hv⟩:=Fg hS hj hx;obtain⟨bl',hbl',hW,hR,hb⟩:=hS.mem hj (by simp only[QE.rows];rintro rfl;simp at hi)
   obtain rfl:bl=bl':=by rw[hbl]at hbl';injection hbl'
   simp only[QE.rows,QE.n,QE.E]at hR hv;obtain⟨nb',h5,h6,h7⟩:=Ti hR hi;obtain⟨vs,hl,hc,hX,_⟩:=I4 h6;refine⟨bl,i*m+o,vs.drop o,hv,hW.lt,?_,?_,?_⟩
   ·simp[hj,hl]
   ·intro q hq
    rw[List.length_drop]at hq;have:=hc (o+q) (by omega)
    rw[List.getElem?_drop,←this];simp[Nat.add_assoc]
   ·have:=Iv o (iJ (E:=EK K ρ) hX)
    simpa[hj,List.map_drop]using this
  ·exact absurd rfl hne
 ·rename_i m rows i o
  simp only[XR]at hx;obtain⟨_,bl,off,rfl,hO,hb,hR⟩:=hx;have hi:i<rows.length:=by
   rcases Nat.lt_or_ge i rows.length with h|h
   ·exact h
   ·simp[VJ,List.getD,List.getElem?_eq_none h]at hne
  obtain⟨nb',h5,h6,h7⟩:=Ti hR hi;obtain⟨vs,hl,hc,hX,_⟩:=I4 h6;refine⟨bl,off+(i*m+o),vs.drop o,rfl,hb,?_,?_,?_⟩
  ·simp[hl]
  ·intro q hq
   rw[List.length_drop]at hq;have:=hc (o+q) (by omega)
   rw[List.getElem?_drop,←this];simp[Nat.add_assoc]
  ·have:=Iv o (iJ (E:=EK K ρ) hX)
   simpa[List.map_drop]using this
 ·exact absurd rfl hne
def GP(bl o:Nat):∀(m j:Nat) (acc:Array Value) (vs:List Value),vs.length=m→(∀i,i<m→w.cell? ⟨bl,o+(j+i),none⟩=vs[i]?) →
  (loadCellsFrom ⟨bl,o,none⟩ j m acc).run P w=.ok (acc++vs.toArray) w
 |0,j,acc,vs,hl,h=>by
  have:vs=[]:=List.length_eq_zero_iff.1 hl;subst this;simp[loadCellsFrom]
 |m+1,j,acc,vs,hl,h=>by
  cases vs with
  |nil=>simp at hl
  |cons v vs =>
   have h0:=h 0 (by omega)
   simp only[Nat.add_zero,List.getElem?_cons_zero]at h0;simp only[loadCellsFrom,Sem.run_bind,run_load,DY,h0,Result.andThen_ok];rw[GP bl o m (j+1) (acc.push v) vs (by simpa using hl) (λi hi=>by
    have:=h (i+1) (by omega)
    simpa[Nat.add_assoc,Nat.add_comm 1 i]using this)]
   simp
def fL[Wd](hS:Sim n Y w0 F0 ρ f K a w){p:AV}{k:AV→Prop}{l}{vp:Value}{t:TypeId}
  (h:K6 (tk P t) (Z9 K p) k l) (hx:XR w (OO K ρ Y) (EK K ρ) p vp []) :
  ∃v av,(Instr.loadAt t vp).run P w=.ok v w∧XR w (OO K ρ Y) (EK K ρ) av v []∧k av:=by
 unfold K6 at h
 split at h
 ·rename_i ht
  obtain⟨hz,d,hu,hd⟩:=WD ht
  split at h
  ·rename_i c cs hc
   obtain⟨bl,o,vs,rfl,hb,hl,hv,hX⟩:=Wi hS hx (by rw[hc];simp)
   rw[hc]at hl hX;simp only[XRs]at hX;obtain⟨v,vs',n1,n2,rfl,h2,h3,h4⟩:=hX;obtain⟨rfl,rfl⟩:=List.append_eq_nil_iff.1 h2.symm;have h0:=hv 0 (by simp)
   simp only[Nat.add_zero,List.getElem?_cons_zero]at h0;refine⟨v,c,?_,h3,h⟩;simp[Instr.loadAt,Instr.sureAddr,loadVar,KU hu,hd,h0]
  ·exact h.elim
 ·rename_i m ht
  obtain⟨hz,d,hu,hd⟩:=dC ht
  split at h
  ·rename_i hm
   obtain⟨h0m,hm⟩:=hm;have hm0:Z9 K p≠[]:=λe=>by rw[e]at hm;simp at hm;omega
   ·obtain⟨bl,o,vs,rfl,hb,hl,hv,hX⟩:=Wi hS hx hm0
    refine⟨.agg (vs.take m).toArray,_,?_,?_,h⟩
    ·simp only[Instr.loadAt,Instr.sureAddr,loadVar,Sem.run_bind,Sem.run_pure,Result.andThen_ok,KU hu,hd,if_true,Xb hz,loadCells]
     rw[GP bl o m 0 #[] (vs.take m) (by simp;omega) (λi hi=>by
      have:=hv i (by omega)
      rw[Nat.zero_add,this,List.getElem?_take,if_pos hi])]
     simp
    ·simp only[XR]
     exact⟨_,rfl,by simpa using MM m hX⟩
  ·exact h.elim
 ·exact h.elim
def vz{O:Nat→Prop}{E:EI}{x:AV}{o:Nat}{k:AV→Prop}{l}{cs:Array Value}{t:TypeId}
  (h:eT (tk P t) o x k l) (hx:XR w O E x (.agg cs) []) :
  ∃v av,Yl P (part t cs o) v∧XR w O E av v []∧k av:=by
 unfold eT at h
 split at h
 ·rename_i as
  simp only[XR]at hx;obtain⟨vs,h1,hx⟩:=hx;injection h1 with h1
  subst h1;have hd:=Iv o hx;unfold K6 at h
  split at h
  ·rename_i ht
   obtain⟨hz,d,hu,hdd⟩:=WD ht
   split at h
   ·rename_i c r hc
    rw[hc]at hd;simp only[XRs]at hd;obtain⟨v,vs',n1,n2,h1,h2,h3,h4⟩:=hd;obtain⟨rfl,rfl⟩:=List.append_eq_nil_iff.1 h2.symm;have h0:cs[o]?=some v:=by
     have:=congrArg (λl=>l[0]?) h1
     simpa using this
    refine⟨v,c,λw=>?_,h3,h⟩
    simp[part,KU hu,hdd,h0]
   ·exact h.elim
  ·rename_i m ht
   obtain⟨hz,d,hu,hdd⟩:=dC ht
   split at h
   ·rename_i hm
    refine⟨.agg (cs.extract o (o+m)),_,λw=>?_,?_,h⟩
    ·simp[part,KU hu,hdd,Xb hz]
    ·simp only[XR]
     refine⟨_,rfl,?_⟩;have:=MM m hd;simpa[List.extract_eq_take_drop,List.take_drop]using this
   ·exact h.elim
  ·exact h.elim
 ·exact h.elim
end
structure Put (w w':World) (b off:Nat) (vs:List Value):Prop where
 os:w'.os=w.os
 tape:w'.tape=w.tape
 output:w'.output=w.output
 size:w'.heap.size=w.heap.size
 block:∀k,k≠b→w'.heap[k]?=w.heap[k]?
 here:∃c el c',w.heap[b]?=some (.cells c el (0,0))∧w'.heap[b]?=some (.cells c' el (0,0))∧c'.size=c.size ∧
  (∀k,k<off∨off+vs.length≤k→c'[k]?=c[k]?)∧∀i,i<vs.length→c'[off+i]?=vs[i]?
def bB{P:Program}{w:World}{b o m:Nat}{v:Value}(hW:Whole w b m)(ho:o<m)(hv:VI v=true) :
  (store ⟨b,o,none⟩ v).run P w=.ok () (w.setCell ⟨b,o,none⟩ v):=by
 obtain⟨c,el,hc,hm⟩:=hW;have hcell:w.cell? ⟨b,o,none⟩=some c[o]:=by simp[World.cell?,hc,show o<c.size by omega]
 have hf:w.frozen? ⟨b,o,none⟩=false:=by simp[World.frozen?,hc]
 unfold store;cases v<;>first|(simp[VI]at hv;done)|simp[Sem.run,hcell,hf]
def ml{w:World}{b o m:Nat}{v:Value}(hW:Whole w b m)(ho:o<m):Put w (w.setCell ⟨b,o,none⟩ v) b o [v]:=by
 obtain⟨c,el,hc,hm⟩:=hW;have hb:b<w.heap.size:=Whole.lt ⟨c,el,hc,hm⟩;refine⟨rfl,rfl,rfl,by simp[World.setCell],λk hk=>Go.RowKit.Below.heap_setCell _ _ _ _ hk,c,el,c.setIfInBounds o v,hc,?_,by simp,?_,?_⟩
 ·simp only[World.setCell,Array.getElem?_modify,if_true,hc,Option.map_some]
  simp
 ·intro k hk
  simp at hk;rw[Array.getElem?_setIfInBounds,if_neg (by omega)]
 ·intro i hi
  simp at hi;subst hi;simp[show o<c.size by omega]
def Put.whole{w w':World}{b off:Nat}{vs:List Value}(h:Put w w' b off vs){k m:Nat}(hw:Whole w k m):Whole w' k m:=by
 by_cases hk:k=b
 ·subst hk
  obtain⟨c,el,c',h1,h2,h3,_⟩:=h.here;obtain⟨d,el',h4,h5⟩:=hw;rw[h1]at h4;injection h4 with h4;injection h4 with h4 _ _;subst h4
  exact⟨c',el,h2,by omega⟩
 ·exact hw.same (h.block k hk)
def Put.cons{w w' w'':World}{b off:Nat}{v:Value}{vs:List Value}(h:Put w w' b off [v])(h':Put w' w'' b (off+1) vs):Put w w'' b off (v::vs):=by
 obtain⟨c,el,c',h1,h2,h3,h4,h5⟩:=h.here;obtain⟨d,el',d',g1,g2,g3,g4,g5⟩:=h'.here;rw[h2]at g1;injection g1 with g1;injection g1 with g1 e1 _;subst g1 e1
 refine⟨h'.os.trans h.os,h'.tape.trans h.tape,h'.output.trans h.output,h'.size.trans h.size,λk hk=>(h'.block k hk).trans (h.block k hk),c,el,d',h1,g2,by omega,?_,?_⟩
 ·intro k hk
  simp at hk;rw[g4 k (by omega),h4 k (by simp;omega)]
 ·intro i hi
  cases i with
  |zero=>rw[Nat.add_zero,g4 off (by omega)];have:=h5 0 (by simp);simpa using this
  |succ i =>
   have:=g5 i (by simpa using hi)
   simpa[Nat.add_assoc,Nat.add_comm 1 i]using this
def Put.nil{w:World}{b off m:Nat}(hW:Whole w b m):Put w w b off []:=by
 obtain⟨c,el,hc,hm⟩:=hW;exact⟨rfl,rfl,rfl,rfl,λ_ _=>rfl,c,el,c,hc,hc,rfl,λ_ _=>rfl,λi hi=>by simp at hi⟩
def ER{P:Program}{b off:Nat}:∀(vs:List Value) (i:Nat) {w:World} {m:Nat},Whole w b m→off+i+vs.length≤m→(∀v∈vs,VI v=true) →
  ∃w',(storeCells ⟨b,off,none⟩ vs i).run P w=.ok () w'∧Put w w' b (off+i) vs
 |[],i,w,m,hW,hm,_=>⟨w,by simp[storeCells],Put.nil hW⟩
 |v::vs,i,w,m,hW,hm,hv=>by
  simp at hm;have h1:=bB (P:=P) hW (show off+i<m by omega) (hv v (by simp))
  have hp:=ml (v:=v) hW (show off+i<m by omega)
  obtain⟨w',h2,h3⟩:=ER (P:=P) (off:=off) vs (i+1) (hp.whole hW) (by omega) (λu hu=>hv u (by simp[hu]))
  rw[←Nat.add_assoc]at h3;refine⟨w',?_,hp.cons h3⟩;simp[storeCells,DY,h1,h2]
def Zg{w:World}{O:Nat→Prop}{E:EI}:∀{as bs:List AV} {va vb:List Value} {na nb:List Nat},XRs w O E as va na→XRs w O E bs vb nb→XRs w O E (as++bs) (va++vb) (na++nb)
 |[],bs,va,vb,na,nb,ha,hb=>by simp only[XRs]at ha;obtain⟨rfl,rfl⟩:=ha;simpa using hb
 |a::as,bs,va,vb,na,nb,ha,hb=>by
  simp only[XRs]at ha;obtain⟨v,vs',n1,n2,rfl,rfl,h3,h4⟩:=ha;simp only[List.cons_append,XRs];exact⟨v,_,n1,n2++nb,rfl,by simp,h3,Zg h4 hb⟩
def Eg{w:World}{O:Nat→Prop}{E:EI}:∀(p:Nat) {cs:List AV} {vs:List Value} {nb:List Nat},XRs w O E cs vs nb →
  ∃n1 n2,nb=n1++n2∧XRs w O E (cs.take p) (vs.take p) n1∧XRs w O E (cs.drop p) (vs.drop p) n2
 |0,cs,vs,nb,h=>⟨[],nb,rfl,by simp[XRs],by simpa using h⟩
 |p+1,[],vs,nb,h=>by simp only[XRs]at h;exact⟨[],[],by simp[h.2],by simp[h.1,XRs],by simp[h.1,XRs]⟩
 |p+1,c::cs,vs,nb,h=>by
  simp only[XRs]at h;obtain⟨v,vs',n1,n2,rfl,rfl,h3,h4⟩:=h;obtain⟨m1,m2,rfl,h5,h6⟩:=Eg p h4;refine⟨n1++m1,m2,by simp,?_,by simpa using h6⟩
  simp only[List.take_succ_cons,XRs];exact⟨v,_,n1,m1,rfl,rfl,h3,h5⟩
def ci{w:World}{O:Nat→Prop}{E:EI}:∀{cs:List AV} {bl o:Nat} {nb:List Nat} {vs:List Value},(∀i,i<cs.length→w.cell? ⟨bl,o+i,none⟩=vs[i]?)→(∀v∈vs,VI v=true)→XRs w O E cs vs nb→CR w O E bl o cs nb
 |[],bl,o,nb,vs,_,_,h=>by simp only[XRs]at h;simp[CR,h.2]
 |c::cs,bl,o,nb,vs,hc,ho,h=>by
  simp only[XRs]at h;obtain⟨v,vs',n1,n2,rfl,rfl,h3,h4⟩:=h;simp only[CR];refine⟨v,n1,n2,⟨by simpa using hc 0 (by simp),ho v (by simp)⟩,rfl,h3,ci (vs:=vs') (λi hi=>?_) (λu hu=>ho u (by simp[hu])) h4⟩
  have:=hc (i+1) (by simpa using hi)
  simpa[Nat.add_assoc,Nat.add_comm 1 i]using this
def Yt{w w':World}{O O':Nat→Prop}{E E':EI}{cs:List AV}{bl o:Nat}{nb:List Nat}(hs:Same O E w O' E' w')
  (hc:∀i,i<cs.length→w'.cell? ⟨bl,o+i,none⟩=w.cell? ⟨bl,o+i,none⟩) (hn:∀b∈nb,w'.heap[b]?=w.heap[b]?) (h:CR w O E bl o cs nb):CR w' O' E' bl o cs nb:=by
 obtain⟨vs,hl,hv,hx,ho⟩:=I4 h;exact ci (λi hi=>(hc i hi).trans (hv i hi)) ho (XRs.mono cs hs _ _ hn hx)
def P4{w w':World}{O O':Nat→Prop}{E E':EI}{n:Nat}(hs:Same O E w O' E' w'):∀{rs:List (List AV)} {bl off:Nat} {nb:List Nat},
  (∀i,i<rs.length*n→w'.cell? ⟨bl,off+i,none⟩=w.cell? ⟨bl,off+i,none⟩)→(∀b∈nb,w'.heap[b]?=w.heap[b]?)→RR w O E n bl off rs nb→RR w' O' E' n bl off rs nb
 |[],bl,off,nb,_,_,h=>by simpa only[RR]using h
 |r::rs,bl,off,nb,hc,hn,h=>by
  simp only[RR]at h ⊢;obtain⟨n1,n2,rfl,hr,h3,h4⟩:=h;refine⟨n1,n2,rfl,hr,Yt hs (λi hi=>hc i (by simp[Nat.succ_mul];omega)) (λb hb=>hn b (by simp[hb])) h3,P4 hs (λi hi=>?_) (λb hb=>hn b (by simp[hb])) h4⟩
  have:=hc (n+i) (by simp[Nat.succ_mul];omega)
  simpa[Nat.add_assoc]using this
def tT{w w':World}{O O':Nat→Prop}{E E':EI}{n:Nat}(hs:Same O E w O' E' w'){r':List AV}(hr':r'.length=n):∀{rs:List (List AV)} {bl off:Nat} {nb:List Nat} {i:Nat},i<rs.length →
  (∀k,(k<i*n∨(i+1)*n≤k)→w'.cell? ⟨bl,off+k,none⟩=w.cell? ⟨bl,off+k,none⟩)→(∀b∈nb,w'.heap[b]?=w.heap[b]?) →
  (∀m,m.Sublist nb→CR w O E bl (off+i*n) (VJ rs i) m→∃m',CR w' O' E' bl (off+i*n) r' m'∧m'.Sublist m) →
  RR w O E n bl off rs nb→∃nb',RR w' O' E' n bl off (rs.set i r') nb'∧nb'.Sublist nb
 |[],_,_,_,_,hi,_,_,_,_=>by simp at hi
 |r::rs,bl,off,nb,0,hi,hc,hn,hnew,h=>by
  simp only[RR]at h;obtain⟨n1,n2,rfl,hr,h3,h4⟩:=h;obtain⟨m',h5,h6⟩:=hnew n1 (by simp) (by simpa[VJ]using h3)
  refine⟨m'++n2,?_,by exact List.Sublist.append h6 (List.Sublist.refl _)⟩
  simp only[List.set_cons_zero,RR];refine⟨m',n2,rfl,hr',by simpa using h5,P4 hs (λi hi=>?_) (λb hb=>hn b (by simp[hb])) h4⟩
  have:=hc (n+i) (by right;simp only[Nat.zero_add,Nat.one_mul];omega)
  simpa[Nat.add_assoc]using this
 |r::rs,bl,off,nb,i+1,hi,hc,hn,hnew,h=>by
  simp only[RR]at h;obtain⟨n1,n2,rfl,hr,h3,h4⟩:=h;have e:off+n+i*n=off+(i+1)*n:=by rw[Nat.succ_mul];omega
  obtain⟨nb',h5,h6⟩:=tT hs hr' (rs:=rs) (bl:=bl) (off:=off+n) (nb:=n2) (i:=i) (by simpa using hi) (λk hk=>by
    have:=hc (n+k) (by simp only[Nat.succ_mul]at hk ⊢;omega)
    simpa[Nat.add_assoc]using this) (λb hb=>hn b (by simp[hb])) (λm hm hC=>by
    rw[e]at hC ⊢;exact hnew m (hm.trans (by simp)) (by simpa[VJ]using hC)) h4
  refine⟨n1++nb',?_,List.Sublist.append (List.Sublist.refl _) h6⟩;simp only[List.set_cons_succ,RR];refine⟨n1,nb',rfl,hr,Yt hs (λk hk=>hc k (by simp only[Nat.succ_mul];omega)) (λb hb=>hn b (by simp[hb])) h3,h5⟩
def Zu(K:KS)(j i:Nat)(x:Option QE)(hj:j<K.length):kg (K.set j x) i=if i=j then x else kg K i:=by
 unfold kg;by_cases h:i=j
 ·subst h;simp[List.getD,List.getElem?_set,hj]
 ·simp[List.getD,List.getElem?_set,Ne.symm h,h]
def Gr{K:KS}{j:Nat}{e:QE}(h:kg K j=some e):j<K.length:=by
 unfold kg at h
 rcases Nat.lt_or_ge j K.length with h'|h'
 ·exact h'
 ·simp[List.getD,List.getElem?_eq_none h']at h
def GZ(K:KS)(x:Option QE)(i:Nat):kg (K++[x]) i=if i=K.length then x else kg K i:=by
 unfold kg;by_cases h:i=K.length
 ·subst h;simp[List.getD]
 ·by_cases hl:i<K.length
  ·simp[List.getD,List.getElem?_append_left hl,h]
  ·rw[if_neg h]
   simp[List.getD,List.getElem?_eq_none (show(K++[x]).length≤i by simp;omega),List.getElem?_eq_none (show K.length≤i by omega)]
section
variable{P:Program}{n:NE}{Y:Nat→Prop}{w0:World}{F0:Nat→Prop}{ρ:Dl}{f:Fr}{K:KS}{a:Act}{w:World}
def Same.weak{O O':Nat→Prop}{E:EI}{w:World}(h:∀b,O' b→O b):Same O E w O' E w :=
 ⟨Qg _,λ_ _ _=>rfl,λb hb _ h'=>hb (h b h'),Qg _,λ_ _ _ h=>h,λ_ _ _ _ _ _ _ h=>h⟩
def Sim.wrote[Wd](hS:Sim n Y w0 F0 ρ f K a w){j:Nat}{e e':QE}{w':World}{off bl:Nat}{vs:List Value}{nb':List Nat}(hj:kg K j=some e)(hbl:(ρ j).1=some bl)(hP:Put w w' bl off vs)
  (hn:e'.n=e.n) (hl:e'.rows.length=e.rows.length) (hb:e'.isBox=e.isBox) (hR:RR w' (OO K ρ Y) (e'.E (EK K ρ)) e'.n bl 0 e'.rows nb') (hs:nb'.Sublist (ρ j).2) :
  ∃ρ',Sim n Y w0 F0 ρ' f (K.set j (some e')) a w':=by
 have hjl:=Gr hj;have hE:EK (K.set j (some e')) (λi=>if i=j then((ρ j).1,nb')else ρ i)=EK K ρ:=by
  unfold EK;congr 1
  ·simp
  ·funext i
   rw[Zu _ _ _ _ hjl];by_cases h:i=j
   ·subst h;simp[hj,hn,hl]
   ·simp[h]
 have hsub:∀i e b,kg (K.set j (some e')) i=some e→b∈fp (λi=>if i=j then((ρ j).1,nb')else ρ i) i→∃e0,kg K i=some e0∧b∈fp ρ i:=by
  intro i e0 b hi hb';rw[Zu _ _ _ _ hjl]at hi;by_cases h:i=j
  ·subst h
   refine⟨e,hj,?_⟩;simp only[fp,if_true]at hb' ⊢
   rcases List.mem_append.1 hb' with h|h
   ·exact List.mem_append_left _ h
   ·exact List.mem_append_right _ (hs.subset h)
  ·rw[if_neg h]at hi
   exact⟨e0,hi,by simpa[fp,h]using hb'⟩
 have hO:∀b,OO (K.set j (some e')) (λi=>if i=j then((ρ j).1,nb')else ρ i) Y b→OO K ρ Y b:=by
  rintro b (h|⟨i,e0,hi,hb'⟩)
  ·exact .inl h
  ·obtain⟨e1,h1,h2⟩:=hsub i e0 b hi hb'
   exact .inr ⟨i,e1,h1,h2⟩
 have hjO:OO K ρ Y bl:=.inr ⟨j,e,hj,ED hbl⟩;have same:Same (OO K ρ Y) (EK K ρ) w (OO (K.set j (some e')) (λi=>if i=j then((ρ j).1,nb')else ρ i) Y) (EK (K.set j (some e')) (λi=>if i=j then((ρ j).1,nb')else ρ i)) w':=by
  rw[hE];exact⟨Nat.le_of_eq hP.size.symm,λb hb _=>hP.block b (λh=>hb (h▸hjO)),λb hb _ h=>hb (hO b h),Qg _,λ_ _ _ h=>h,λ_ _ _ _ _ _ _ h=>hP.whole h⟩
 refine⟨_,hS.lift same j ?_ ?_ ?_⟩
 ·intro i e0 hi hij
  rw[Zu _ _ _ _ hjl,if_neg hij]at hi;refine⟨hi,by simp[hij],λb hb'=>hP.block b (λh=>?_)⟩
  subst h;exact hS.sees.dj j e i e0 _ hj hi (Ne.symm hij) (ED hbl) hb'
 ·intro e0 h0
  rw[Zu _ _ _ _ hjl,if_pos rfl]at h0;injection h0 with h0;subst h0
  have hreg:=hS.sees.reg j e hj;rw[hbl]at hreg;obtain⟨hW,hR0,hbx⟩:=hreg;have hnd:=hS.sees.nd j e hj;simp only[if_true,fp]at hnd ⊢;have hss:((ρ j).1.toList++nb').Sublist ((ρ j).1.toList++(ρ j).2):=List.Sublist.append (List.Sublist.refl _) hs;refine⟨?_,hnd.sublist hss,?_⟩
  ·refine Reg.at hbl ⟨?_,?_,?_⟩
   ·rw[hl,hn];exact hP.whole hW
   ·rw[hE]
    have hw:Same (OO K ρ Y) (e'.E (EK K ρ)) w' (OO (K.set j (some e')) (λi=>if i=j then((ρ j).1,nb')else ρ i) Y) (e'.E (EK K ρ)) w':=Same.weak hO
    exact RR.mono _ hw _ _ _ rfl (λ_ _=>rfl) hR
   ·intro h
    rw[hb]at h;have:=hbx h;rw[this]at hs;exact List.sublist_nil.1 hs
  ·intro b hb'
   have h1:=hss.subset hb';exact⟨by rw[hP.size];exact hS.sees.lt j e b hj h1,.inr ⟨j,e,hj,h1,.inl rfl⟩⟩
 ·refine hS.ext.trans (G:=λb=>b=bl) ⟨hP.os,hP.tape,hP.output,Nat.le_of_eq hP.size.symm,λb _ hb=>hP.block b hb,λb m h=>hP.whole h⟩ (λ_ h=>h) (λx hx hx'=>?_)
  subst hx'
  rcases hS.new j e _ hj (ED hbl)with h|h
  ·exact h
  ·omega
def Nu{v:AV}{x:Value}{O:Nat→Prop}(h:BI K v=true)(hx:XR w O (EK K ρ) v x []):VI x=true:=by
 cases v<;>simp[BI]at h<;>simp only[XR]at hx
 case b=>simp[hx.1,VI]
 case i=>simp[hx.1,VI]
 case s=>simp[hx.1,VI]
 case nil=>obtain⟨⟨q,rfl⟩,_⟩:=hx;rfl
 case z=>obtain⟨⟨q,l,c,rfl⟩,_⟩:=hx;rfl
 case imm=>obtain⟨_,a,cap,rfl,_⟩:=hx;simp[VI]
 case iptr=>obtain⟨_,a,cap,rfl,_⟩:=hx;simp[VI]
 case clo=>obtain⟨_,vs,rfl,_⟩:=hx;simp[VI]
 case sl j =>
  obtain⟨e,hj⟩:=Option.isSome_iff_exists.1 h;cases hb:(ρ j).1 with
  |none=>obtain⟨q,rfl⟩:=hx.2.2.1 e.n e.rows.length (by simp[EK,hj,hb]);rfl
  |some b =>
   obtain⟨cap,rfl,_⟩:=hx.2.2.2 b e.n e.rows.length (by simp[EK,hj,hb])
   rfl
 case ptr j i o =>
  obtain⟨e,hj⟩:=Option.isSome_iff_exists.1 h;cases hb:(ρ j).1 with
  |none=>exact(hx.2.2.1 e.n e.rows.length (by simp[EK,hj,hb])).elim
  |some b=>rw[hx.2.2.2 b e.n e.rows.length (by simp[EK,hj,hb])];rfl
def RB{v:AV}(h:v.closed=true):BI K v=true:=by
 cases v<;>simp[AV.closed,BI]at h ⊢
def Hh{x:Value}(h:VI x=true):x.cells=#[x]:=by cases x<;>simp[VI,Value.cells]at h ⊢
def dB{O:Nat→Prop}:∀{vs:List AV} {xs:List Value},vs.all (BI K)=true→XRs w O (EK K ρ) vs xs []→∀x∈xs,VI x=true
 |[],xs,_,h=>by simp only[XRs]at h;simp[h.1]
 |v::vs,xs,ha,h=>by
  simp only[XRs]at h;obtain⟨x,xs',n1,n2,rfl,h2,h3,h4⟩:=h;obtain⟨rfl,rfl⟩:=List.append_eq_nil_iff.1 h2.symm;simp only[List.all_cons,Bool.and_eq_true]at ha;intro y hy
  rcases List.mem_cons.1 hy with rfl|hy
  ·exact Nu ha.1 h3
  ·exact dB ha.2 h4 y hy
def SZ{O:Nat→Prop}{E:EI}{v:AV}{x:Value}{nb:List Nat}(h:v.closed=true)(hx:XR w O E v x nb):XR w O EN v x nb:=by
 cases v<;>simp[AV.closed]at h<;>simpa only[XR]using hx
def WC{O:Nat→Prop}{E:EI}:∀{vs:List AV} {xs:List Value} {nb:List Nat},vs.all AV.closed=true→XRs w O E vs xs nb→XRs w O EN vs xs nb
 |[],xs,nb,_,h=>by simpa only[XRs]using h
 |v::vs,xs,nb,ha,h=>by
  simp only[XRs]at h ⊢;obtain⟨x,xs',n1,n2,rfl,rfl,h3,h4⟩:=h;simp only[List.all_cons,Bool.and_eq_true]at ha;exact⟨x,xs',n1,n2,rfl,rfl,SZ ha.1 h3,WC ha.2 h4⟩
def QbP{w':World}{O:Nat→Prop}{E:EI}{bl o p:Nat}{cs ds:List AV}{us:List Value}{nb:List Nat}(same:Same O E w O E w')(hlen:p+ds.length≤cs.length)
  (hc:∀i,(i<p∨p+us.length≤i)→w'.cell? ⟨bl,o+i,none⟩=w.cell? ⟨bl,o+i,none⟩) (hu:∀i,i<us.length→w'.cell? ⟨bl,o+p+i,none⟩=us[i]?) (hX:XRs w O E ds us []) (ho:∀u∈us,VI u=true)
  (hn:∀b∈nb,w'.heap[b]?=w.heap[b]?) (h:CR w O E bl o cs nb):∃nb',CR w' O E bl o (putCells cs p ds) nb'∧nb'.Sublist nb:=by
 obtain⟨vs,hl,hv,hx,hone⟩:=I4 h;have hul:=XP hX;obtain⟨n1,n2,rfl,h1,h2⟩:=Eg p hx;obtain⟨m1,m2,rfl,h3,h4⟩:=Eg ds.length h2;have e1:=XRs.mono _ same _ _ (λb hb=>hn b (by simp[hb])) h1
 have e2:=XRs.mono _ same _ _ (by simp) hX
 have e3:=XRs.mono _ same _ _ (λb hb=>hn b (by simp[hb])) h4
 have e:=Zg (Zg e1 e2) e3;refine⟨n1++[]++m2,ci (vs:=vs.take p++us++(vs.drop p).drop ds.length) (λi hi=>?_) (λv hv=>by
   rcases List.mem_append.1 hv with hv|hv
   ·rcases List.mem_append.1 hv with hv|hv
    ·exact hone v (List.mem_of_mem_take hv)
    ·exact ho v hv
   ·exact hone v (List.mem_of_mem_drop (List.mem_of_mem_drop hv))) (by simpa[putCells,List.drop_drop,Nat.add_comm]using e),?_⟩
 ·have hi':i<cs.length:=by simp[putCells]at hi;omega
  by_cases hp:i<p
  ·rw[hc i (.inl hp),hv i hi',List.append_assoc,List.getElem?_append_left (by simp;omega),List.getElem?_take,if_pos hp]
  ·by_cases hq:i<p+us.length
   ·have:=hu (i-p) (by omega)
    rw[show o+p+(i-p)=o+i by omega]at this
    rw[this,List.append_assoc,List.getElem?_append_right (by simp;omega),List.getElem?_append_left (by simp;omega)]
    congr 1;simp;omega
   ·rw[hc i (.inr (by omega)),hv i hi',List.getElem?_append_right (by simp;omega),List.getElem?_drop,List.getElem?_drop]
    congr 1;simp;omega
 ·simp only[List.append_nil]
  exact List.Sublist.append (List.Sublist.refl _) (List.sublist_append_right _ _)
def NO{w w':World}{b off:Nat}{vs:List Value}(h:Put w w' b off vs) :
  (∀k,k<off∨off+vs.length≤k→w'.cell? ⟨b,k,none⟩=w.cell? ⟨b,k,none⟩)∧∀i,i<vs.length→w'.cell? ⟨b,off+i,none⟩=vs[i]?:=by
 obtain⟨c,el,c',h1,h2,h3,h4,h5⟩:=h.here;refine⟨λk hk=>?_,λi hi=>?_⟩
 ·simp[World.cell?,h1,h2,h4 k hk]
 ·simp[World.cell?,h2,h5 i hi]
def Qaa(cs:List AV)(o:Nat)(v:AV)(h:o<cs.length):cs.set o v=putCells cs o [v]:=by
 unfold putCells;rw[List.set_eq_take_append_cons_drop,if_pos h];simp
def lc{cs:List AV}{o:Nat}{t:TypeId}{v:AV}{x:Value}{ok:AV→Bool}{k:List AV→Prop}{l}(hok:∀v,ok v=true→BI K v=true){O:Nat→Prop}
  (h:ct cs o (tk P t) v ok k l) (hx:XR w O (EK K ρ) v x []):∃ds,∃us:List Value,x.cells.toList=us∧tz P t=some us.length∧XRs w O (EK K ρ) ds us []∧(∀u∈us,VI u=true) ∧
   ds.all ok=true∧o+ds.length≤cs.length∧0<ds.length+1∧k (putCells cs o ds):=by
 unfold ct at h
 split at h
 ·rename_i m ds ht
  split at h
  ·rename_i hc
   obtain⟨rfl,h2,h3⟩:=hc;simp only[XR]at hx;obtain⟨vs,rfl,hX⟩:=hx;exact⟨ds,vs.toList,rfl,by rw[(dC ht).1,XP hX],hX,dB (by simp only[List.all_eq_true]at h3 ⊢;exact λv hv=>hok v (h3 v hv)) hX,h3,h2,by omega,h⟩
  ·exact h.elim
 ·rename_i ht
  split at h
  ·rename_i hc
   have h1:=Nu (hok _ hc.2) hx;refine⟨[_],[x],by simp[Hh h1],by simp[(WD ht).1],?_,by simp[h1],(by simp only[List.all_cons,List.all_nil,Bool.and_true];exact hc.2),by simp;omega,by simp,?_⟩
   ·simp only[XRs];exact⟨x,[],[],[],rfl,rfl,hx,by simp⟩
   ·rw[←Qaa _ _ _ hc.1];exact h
  ·exact h.elim
 ·exact h.elim
def bD[Wd](hS:Sim n Y w0 F0 ρ f K a w){p v:AV}{k:KS→Prop}{l}{vp x:Value}{t:TypeId}
  (h:Ly K (tk P t) p v k l) (hp:XR w (OO K ρ Y) (EK K ρ) p vp []) (hx:XR w (OO K ρ Y) (EK K ρ) v x []) :
  ∃K' ρ' w',(Instr.storeAt t vp x).run P w=.ok () w'∧Sim n Y w0 F0 ρ' f K' a w'∧k K':=by
 unfold Ly at h
 split at h
 ·rename_i j i o
  split at h
  ·rename_i cs hj
   split at h
   ·rename_i hi
    subst hi;obtain⟨ds,us,hu,hz,hX,h1,hds,hl,_,hk⟩:=lc (λv h=>h) h hx
    obtain⟨bl,hbl,hv⟩:=Fg hS hj hp;obtain⟨bl',hbl',hW,hR,hb⟩:=hS.mem hj (by simp[QE.rows])
    obtain rfl:bl=bl':=by rw[hbl]at hbl';injection hbl'
    have hb:=hb rfl;simp only[QE.rows,QE.n,QE.E,RR]at hR hW;obtain⟨n1,n2,h2,_,hC,rfl⟩:=hR;have hul:=XP hX;obtain⟨w',hr,hP⟩:=ER (P:=P) (b:=bl) (off:=0*cs.length+o) us 0 hW (by simp;omega) h1
    have hP':Put w w' bl o us:=by simpa using hP
    obtain⟨hc1,hc2⟩:=NO hP';have hjO:OO K ρ Y bl:=.inr ⟨j,_,hj,ED hbl⟩;have same:Same (OO K ρ Y) (EK K ρ) w (OO K ρ Y) (EK K ρ) w' :=
     ⟨Nat.le_of_eq hP.size.symm,λb hb _=>hP.block b (λh=>hb (h▸hjO)),λb hb _ h=>hb h,Qg _,λ_ _ _ h=>h,λ_ _ _ _ _ _ _ h=>hP.whole h⟩
    rw[hb]at h2;obtain⟨rfl,_⟩:=List.append_eq_nil_iff.1 h2.symm;obtain⟨nb',hC',hs⟩:=QbP (o:=0) (p:=o) (ds:=ds) (us:=us) same hl (λi hi=>by rw[Nat.zero_add];exact hc1 i hi) (λi hi=>by rw[Nat.zero_add];exact hc2 i hi) hX h1 (by simp) hC
    have:=List.sublist_nil.1 hs;subst this;obtain⟨ρ',hS'⟩:=hS.wrote (e':=.box (putCells cs o ds)) (nb':=[]) hj hbl hP' (by simp[QE.n,putCells];omega) rfl rfl (by
     simp only[QE.rows,QE.n,QE.E,RR];exact⟨[],[],by simp,by simp,hC',by simp⟩) (by simp)
    refine⟨_,ρ',w',?_,hS',hk⟩;simp only[Instr.storeAt,Instr.sureAddr,hv,Sem.run_bind,Sem.run_pure,Result.andThen_ok,storeVar,Xb hz,QE.n];rw[if_neg (by rw[←hu];simp)]
    rw[hu];exact hr
   ·exact h.elim
  ·rename_i m rows hj
   split at h
   ·rename_i hi
    obtain⟨ds,us,hu,hz,hX,h1,hds,hl,_,hk⟩:=lc (λv h=>RB h) h hx
    obtain⟨bl,hbl,hv⟩:=Fg hS hj hp;obtain⟨bl',hbl',hW,hR,hb⟩:=hS.mem hj (by simp only[QE.rows];rintro rfl;simp at hi)
    obtain rfl:bl=bl':=by rw[hbl]at hbl';injection hbl'
    simp only[QE.rows,QE.n,QE.E]at hR hW hv;have hul:=XP hX;obtain⟨nb0,hr0,_,_⟩:=Ti hR hi;have hro:(i+1)*m≤rows.length*m:=Nat.mul_le_mul_right m hi;have hro':(i+1)*m=i*m+m:=Nat.succ_mul i m;obtain⟨w',hr,hP⟩:=ER (P:=P) (b:=bl) (off:=i*m+o) us 0 hW (by omega) h1
    have hP':Put w w' bl (i*m+o) us:=by simpa using hP
    obtain⟨hc1,hc2⟩:=NO hP';have hjO:OO K ρ Y bl:=.inr ⟨j,_,hj,ED hbl⟩;have same:Same (OO K ρ Y) EN w (OO K ρ Y) EN w' :=
     ⟨Nat.le_of_eq hP.size.symm,λb hb _=>hP.block b (λh=>hb (h▸hjO)),λb hb _ h=>hb h,Qg _,λ_ _ _ h=>h,λ_ _ _ _ _ _ _ h=>hP.whole h⟩
    have hnd:=hS.sees.nd j _ hj;have hne:∀b∈(ρ j).2,w'.heap[b]?=w.heap[b]?:=λb hb=>hP.block b (λh=>by
     subst h;simp[fp,hbl]at hnd;exact hnd.1 hb)
    obtain⟨nb',hR',hs⟩:=tT same (r':=putCells (VJ rows i) o ds) (by simp[putCells];omega) (rs:=rows) (bl:=bl) (off:=0) (nb:=(ρ j).2) hi
     (λk hk=>by
      rw[Nat.zero_add];refine hc1 k ?_
      rcases hk with hk|hk
      ·exact .inl (by omega)
      ·exact .inr (by omega)) hne (λq hq hC=>by
      rw[Nat.zero_add]at hC ⊢;exact QbP same hl (λz hz=>by
       rcases hz with hz|hz
       ·exact hc1 _ (.inl (by omega))
       ·exact hc1 _ (.inr (by omega))) (λz hz=>by rw[Nat.add_assoc];rw[←Nat.add_assoc];exact hc2 z hz) (WC hds hX) h1 (λb hb=>hne b (hq.subset hb)) hC) hR
    obtain⟨ρ',hS'⟩:=hS.wrote (e':=.lst m (rows.set i (putCells (VJ rows i) o ds))) (nb':=nb') hj hbl hP' rfl (by simp[QE.rows]) rfl (by simpa[QE.rows,QE.n,QE.E]using hR') hs
    refine⟨_,ρ',w',?_,hS',hk⟩;simp only[Instr.storeAt,Instr.sureAddr,hv,Sem.run_bind,Sem.run_pure,Result.andThen_ok,storeVar,Xb hz];rw[if_neg (by rw[←hu];simp)]
    rw[hu];exact hr
   ·exact h.elim
  ·exact h.elim
 ·exact h.elim
end
section
variable{P:Program}{n:NE}{Y:Nat→Prop}{w0:World}{F0:Nat→Prop}{ρ:Dl}{f:Fr}{K:KS}{a:Act}{w:World}
def Sim.add[Wd](hS:Sim n Y w0 F0 ρ f K a w){K1:KS}(hl:K1.length=K.length)(hk:∀i e,kg K1 i=some e→kg K i=some e){e:QE}{b:Nat}{nb:List Nat}{w':World}
  (hsz:w.heap.size≤w'.heap.size) (hbl:∀x,x≠b→x<w.heap.size→w'.heap[x]?=w.heap[x]?) (hwh:∀x m,Whole w x m→Whole w' x m)
  (hb:b=w.heap.size∨∃j e,kg K j=some e∧kg K1 j=none∧b∈fp ρ j) (hnb:∀x∈nb,∃j e,kg K j=some e∧kg K1 j=none∧x∈fp ρ j) (hnd:(b::nb).Nodup)
  (hW:Whole w' b (e.rows.length*e.n)) (hR:RR w' (λx=>OO K ρ Y x∨x=b) (e.E (EK K ρ)) e.n b 0 e.rows nb) (hbx:e.isBox=true→nb=[])
  (hos:w'.os=w.os) (hta:w'.tape=w.tape) (hou:w'.output=w.output) :
  ∃ρ',Sim n Y w0 F0 ρ' f (K1++[some e]) a w'∧(EK (K1++[some e]) ρ').of K.length=some (some b,e.n,e.rows.length)∧(EK (K1++[some e]) ρ').sz=K.length+1:=by
 let ρ':Dl:=λi=>if i=K.length then(some b,nb)else ρ i
 have hg:∀i,kg (K1++[some e]) i=if i=K.length then some e else kg K1 i:=λi=>by rw[GZ,hl]
 have hKn:kg K K.length=none:=by simp[kg,List.getD]
 have hkl:∀i e0,kg K1 i=some e0→i≠K.length:=λi e0 h h'=>by subst h';have:=hk _ _ h;rw[hKn]at this;cases this
 have hO:∀x,OO (K1++[some e]) ρ' Y x→OO K ρ Y x∨x=b:=by
  rintro x (h|⟨i,e0,hi,hx⟩)
  ·exact .inl (.inl h)
  ·rw[hg]at hi
   by_cases h:i=K.length
   ·subst h
    simp only[fp,ρ',if_true,Option.toList,List.singleton_append]at hx
    rcases List.mem_cons.1 hx with rfl|hx
    ·exact .inr rfl
    ·obtain⟨j,e1,h1,_,h2⟩:=hnb x hx
     exact .inl (.inr ⟨j,e1,h1,h2⟩)
   ·rw[if_neg h]at hi
    exact .inl (.inr ⟨i,e0,hk _ _ hi,by simpa[fp,ρ',h]using hx⟩)
 have hbO:∀x,x<w.heap.size→x=b→OO K ρ Y x:=λx hx h=>by
  subst h
  rcases hb with hb|⟨j,e1,h1,_,h2⟩
  ·omega
  ·exact .inr ⟨j,e1,h1,h2⟩
 have hei:∀j p,j<(EK K ρ).sz→(EK (K1++[some e]) ρ').of j=some p→(EK K ρ).of j=some p:=by
  intro j p hj hp;simp only[EK]at hj hp ⊢;rw[hg]at hp;have:j≠K.length:=by omega
  rw[if_neg this]at hp;cases h1:kg K1 j with
  |none=>rw[h1]at hp;cases hp
  |some e1=>rw[h1]at hp;rw[hk _ _ h1];simpa[ρ',this]using hp
 have same:Same (OO K ρ Y) (EK K ρ) w (OO (K1++[some e]) ρ' Y) (EK (K1++[some e]) ρ') w':=by
  refine⟨hsz,λx hx hlt=>hbl x (λh=>hx (hbO x hlt h)) hlt,λx hx hlt h=>?_,by simp[EK,hl],hei,λ_ _ _ _ _ _ _ h=>hwh _ _ h⟩
  rcases hO x h with h|h
  ·exact hx h
  ·exact hx (hbO x hlt h)
 refine⟨ρ',hS.lift same K.length ?_ ?_ ?_,?_,by simp[EK,hl]⟩
 ·intro i e0 hi hij
  rw[hg,if_neg hij]at hi;refine⟨hk _ _ hi,by simp[ρ',hij],λx hx=>hbl x (λh=>?_) (hS.sees.lt i e0 x (hk _ _ hi) hx)⟩
  subst h
  rcases hb with hb|⟨j,e1,h1,h2,h3⟩
  ·have:=hS.sees.lt i e0 x (hk _ _ hi) hx;omega
  ·have hij':i≠j:=λh=>by subst h;rw[h2]at hi;cases hi
   exact hS.sees.dj i e0 j e1 x (hk _ _ hi) h1 hij' hx h3
 ·intro e0 h0
  rw[hg,if_pos rfl]at h0;injection h0 with h0;subst h0
  have e1:(ρ' K.length)=(some b,nb):=by simp[ρ']
  simp only[e1,fp,Option.toList,List.singleton_append];refine⟨Reg.at rfl ⟨hW,?_,hbx⟩,hnd,λx hx=>?_⟩
  ·have hw:Same (λx=>OO K ρ Y x∨x=b) (e.E (EK K ρ)) w' (OO (K1++[some e]) ρ' Y) (e.E (EK (K1++[some e]) ρ')) w':=by
    have h1:Same (λx=>OO K ρ Y x∨x=b) (EK K ρ) w' (OO (K1++[some e]) ρ' Y) (EK (K1++[some e]) ρ') w' :=
     ⟨Qg _,λ_ _ _=>rfl,λx hx _ h=>hx (hO x h),by simp[EK,hl],hei,λ_ _ _ _ _ _ _ h=>h⟩
    cases e with
    |box cs=>exact h1
    |lst m rows=>exact h1.en
   exact RR.mono _ hw _ _ _ rfl (λ_ _=>rfl) hR
  ·rcases List.mem_cons.1 hx with rfl|hx
   ·refine⟨hW.lt,?_⟩
    rcases hb with hb|⟨j,e1,h1,h2,h3⟩
    ·exact .inl (by omega)
    ·have:kg (K1++[some e]) j=none:=by
      rw[hg];have:j≠K.length:=λh=>by subst h;rw[hKn]at h1;cases h1
      rw[if_neg this];exact h2
     exact .inr ⟨j,e1,h1,h3,.inr this⟩
   ·obtain⟨j,e1,h1,h2,h3⟩:=hnb x hx
    have h4:=hS.sees.lt j e1 x h1 h3;have:kg (K1++[some e]) j=none:=by
     rw[hg];have:j≠K.length:=λh=>by subst h;rw[hKn]at h1;cases h1
     rw[if_neg this];exact h2
    exact⟨by omega,.inr ⟨j,e1,h1,h3,.inr this⟩⟩
 ·refine hS.ext.trans (G:=λx=>x=b) ⟨hos,hta,hou,hsz,λx hx h=>hbl x h hx,hwh⟩ (λ_ h=>h) (λx hx h=>?_)
  subst h
  rcases hb with hb|⟨j,e1,h1,h2,h3⟩
  ·have:=hS.ext.size;omega
  ·rcases hS.new j e1 _ h1 h3 with h|h
   ·exact h
   ·omega
 ·simp[EK,hg,ρ']
def L3(w:World)(c:Array Value)(el:TypeId):World:={ w with heap:=w.heap.push (.cells c el) }
def M2(w:World)(c:Array Value)(el:TypeId)(x:Nat)(h:x<w.heap.size):(L3 w c el).heap[x]?=w.heap[x]?:=by
 show(w.heap.push _)[x]?=_;rw[Array.getElem?_push,if_neg (by omega)]
def U5{w:World}{c:Array Value}{el:TypeId}{x m:Nat}(h:Whole w x m):Whole (L3 w c el) x m:=h.same (M2 _ _ _ _ h.lt)
def Tr(w:World)(c:Array Value)(el:TypeId):(L3 w c el).heap[w.heap.size]?=some (.cells c el (0,0)):=by
 show(w.heap.push _)[w.heap.size]?=_;rw[Array.getElem?_push,if_pos rfl]
def kY{O:Nat→Prop}{E:EI}{m:Nat}:∀{rs:List (List AV)} {bl off:Nat} {nb:List Nat} {vs:List Value},(∀r∈rs,r.length=m) →
  (∀i,i<vs.length→w.cell? ⟨bl,off+i,none⟩=vs[i]?)→(∀v∈vs,VI v=true)→XRs w O E rs.flatten vs nb→RR w O E m bl off rs nb
 |[],bl,off,nb,vs,_,_,_,h=>by simp[XRs]at h;simp[RR,h.2]
 |r::rs,bl,off,nb,vs,hr,hc,ho,h=>by
  have hrl:=hr r (by simp)
  obtain⟨n1,n2,rfl,h1,h2⟩:=Eg m h;simp only[List.flatten_cons]at h1 h2;rw[List.take_append_of_le_length (by omega),List.take_of_length_le (by omega)]at h1
  rw[List.drop_append_of_le_length (by omega),List.drop_of_length_le (by omega),List.nil_append]at h2
  have hl:=XP h;simp at hl;simp only[RR];refine⟨n1,n2,rfl,hrl,ci (vs:=vs.take m) (λi hi=>?_) (λv hv=>ho v (List.mem_of_mem_take hv)) h1,kY (vs:=vs.drop m) (λr hr'=>hr r (by simp[hr'])) (λi hi=>?_) (λv hv=>ho v (List.mem_of_mem_drop hv)) h2⟩
  ·rw[hc i (by omega),List.getElem?_take,if_pos (by omega)]
  ·rw[List.length_drop]at hi
   have:=hc (m+i) (by omega)
   rw[Nat.add_assoc,this,List.getElem?_drop]
def Sim.push[Wd](hS:Sim n Y w0 F0 ρ f K a w){K1:KS}(hl:K1.length=K.length)(hk:∀i e,kg K1 i=some e→kg K i=some e){e:QE}{nb:List Nat}{c:Array Value}{el:TypeId}{vs:List Value}
  (hrow:∀r∈e.rows,r.length=e.n) (hX:XRs w (OO K ρ Y) (e.E (EK K ρ)) e.rows.flatten vs nb) (hc:∀i,i<vs.length→c[i]?=vs[i]?) (ho:∀v∈vs,VI v=true) (hcs:e.rows.length*e.n≤c.size)
  (hnb:∀x∈nb,∃j e,kg K j=some e∧kg K1 j=none∧x∈fp ρ j) (hnd:nb.Nodup) (hbx:e.isBox=true→nb=[]) :
  ∃ρ',Sim n Y w0 F0 ρ' f (K1++[some e]) a (L3 w c el)∧(EK (K1++[some e]) ρ').of K.length=some (some w.heap.size,e.n,e.rows.length)∧(EK (K1++[some e]) ρ').sz=K.length+1:=by
 have hlt:∀x∈nb,x<w.heap.size:=λx hx=>by
  obtain⟨j,e1,h1,_,h2⟩:=hnb x hx;exact hS.sees.lt j e1 x h1 h2
 have hsz:w.heap.size≤(L3 w c el).heap.size:=by simp[L3]
 refine hS.add hl hk hsz (λx _ hx=>M2 _ _ _ _ hx) (λx m h=>U5 h) (.inl rfl) hnb ?_ ⟨c,el,Tr _ _ _,hcs⟩ ?_ hbx rfl rfl rfl
 ·rw[List.nodup_cons];exact⟨λh=>by have:=hlt _ h;omega,hnd⟩
 ·have hs:Same (OO K ρ Y) (e.E (EK K ρ)) w (λx=>OO K ρ Y x∨x=w.heap.size) (e.E (EK K ρ)) (L3 w c el) :=
   ⟨hsz,λx _ hx=>M2 _ _ _ _ hx,λx hx hlt h=>by rcases h with h|h;exact hx h;omega,Qg _,λ_ _ _ h=>h,λ_ _ _ _ _ _ _ h=>U5 h⟩
  refine kY hrow (vs:=vs) (λi hi=>?_) ho (XRs.mono _ hs _ _ (λb hb=>M2 _ _ _ _ (hlt b hb)) hX)
  rw[Nat.zero_add];simp only[World.cell?,Tr];simpa using hc i hi
def DA(t:TypeId)(c:Array Value)(w:World):(newRow t c).run P w=.ok ⟨w.heap.size,0,none⟩ (L3 w c t):=by
 simp[newRow,L3]
def uL[Wd](hS:Sim n Y w0 F0 ρ f K a w){cs:List AV}{vs:List Value}(hX:XRs w (OO K ρ Y) (EK K ρ) cs vs [])(ho:∀v∈vs,VI v=true)(t:TypeId) :
  ∃ρ',Sim n Y w0 F0 ρ' f (K++[some (.box cs)]) a (L3 w vs.toArray t)∧XR (L3 w vs.toArray t) (OO (K++[some (.box cs)]) ρ' Y) (EK (K++[some (.box cs)]) ρ') (.ptr K.length 0 0) (.pointer (some ⟨w.heap.size,0,none⟩)) []:=by
 have hl:=XP hX;obtain⟨ρ',h1,h2,h3⟩:=hS.push (K1:=K) rfl (λ_ _ h=>h) (e:=.box cs) (nb:=[]) (c:=vs.toArray) (el:=t) (vs:=vs) (by simp[QE.rows,QE.n]) (by simpa[QE.rows,QE.E]using hX) (λi hi=>by simp) ho (by simp[QE.rows,QE.n,hl]) (by simp) (by simp) (λ_=>rfl)
 refine⟨ρ',h1,?_⟩;simp only[XR,true_and];refine⟨by rw[h3];omega,λm len hE=>(by rw[h2]at hE;cases hE),λbl m len hE=>?_⟩
 rw[h2]at hE;injection hE with hE;injection hE with e1 hE;injection e1 with e1
 subst e1;simp
def ya[Wd](hS:Sim n Y w0 F0 ρ f K a w){v:AV}{k:AV→KS→Prop}{l}{x:Value}{t:TypeId}(h:nP K v k l)(hx:XR w (OO K ρ Y) (EK K ρ) v x []) :
  ∃y w',(Instr.box t x).run P w=.ok y w'∧Out n Y w0 F0 f a k y w':=by
 have key:∀cs:List AV,XRs w (OO K ρ Y) (EK K ρ) cs x.cells.toList []→(∀v∈x.cells.toList,VI v=true)→KR (K++[some (.box cs)]) (λK'=>k (.ptr K.length 0 0) K') ()→∃y w',(Instr.box t x).run P w=.ok y w'∧Out n Y w0 F0 f a k y w':=by
  intro cs hX ho hk;obtain⟨ρ',h1,h2⟩:=uL hS hX ho t;refine⟨_,_,?_,_,_,ρ',h1,h2,hk⟩;simp[Instr.box,newVar,DA]
 unfold nP at h
 split at h
 ·split at h
  ·simp only[XR]at hx
   obtain⟨vs,rfl,hX⟩:=hx;exact key _ hX (dB (by assumption) hX) h
  ·exact h.elim
 ·split at h
  ·rename_i hc
   have h1:=Nu hc hx;refine key _ ?_ (by rw[Hh h1];simp[h1]) h
   rw[Hh h1];simp only[XRs];exact⟨x,[],[],[],rfl,rfl,hx,by simp⟩
  ·exact h.elim
def SE{O:Nat→Prop}{E:EI}:∀(vs:List Value),XRs w O E (vs.map cv) vs []
 |[]=>by simp[XRs]
 |v::vs=>by
  simp only[List.map_cons,XRs];exact⟨v,vs,[],[],rfl,rfl,QbF _ _ _ _,SE vs⟩
def IP{t:TypeId}{z:Value}(h:cn P t=some z)(w:World):(zeroValue t).run P w=.ok z w:=by
 unfold cn at h;cases hi:P.info? t with
 |none=>rw[hi]at h;cases h
 |some i=>rw[hi]at h;simp at h;simp[zeroValue,typeInfo,hi,h]
def QfR{v:Value}(h:(cv v).closed=true):VI v=true:=by
 unfold cv at h
 split at h<;>first|rfl|(simp[AV.closed]at h;done)
def SO{t:TypeId}{cs:List AV}(h:Uw P t=some cs):∃z,cn P t=some z∧cs=z.cells.toList.map cv∧∀v∈z.cells.toList,VI v=true:=by
 unfold Uw at h;cases hz:cn P t with
 |none=>rw[hz]at h;cases h
 |some z =>
  rw[hz]at h;simp only[Qa]at h
  split at h
  ·rename_i hc
   injection h with h
   refine⟨z,rfl,h.symm,λv hv=>QfR ?_⟩
   rw[List.all_eq_true]at hc;exact hc _ (List.mem_map_of_mem hv)
  ·cases h
def nU[Wd](hS:Sim n Y w0 F0 ρ f K a w){k:AV→KS→Prop}{l}{t:TypeId}(h:SI K (Uw P t) k l) :
  ∃y w',(Instr.alloc t true (.tuple #[])).run P w=.ok y w'∧Out n Y w0 F0 f a k y w':=by
 unfold SI at h
 split at h
 ·rename_i cs hc
  obtain⟨z,hz,rfl,ho⟩:=SO hc;obtain⟨ρ',h1,h2⟩:=uL hS (SE z.cells.toList) ho t;refine⟨_,_,?_,_,_,ρ',h1,h2,h⟩;simp[Instr.alloc,IP hz,newVar,DA]
 ·exact h.elim
def ph{O:Nat→Prop}{v:AV}{x:Value}{ds:List AV}(h:GS K v=some ds)(hx:XR w O (EK K ρ) v x []):XRs w O (EK K ρ) ds x.cells.toList []:=by
 have key:BI K v=true→XRs w O (EK K ρ) [v] x.cells.toList []:=λhc=>by
  rw[Hh (Nu hc hx)];simp only[XRs];exact⟨x,[],[],[],rfl,rfl,hx,by simp⟩
 unfold GS at h
 split at h
 ·injection h with h;subst h
  simp only[XR]at hx;obtain⟨vs,rfl,hX⟩:=hx;exact hX
 ·split at h
  ·injection h with h;subst h;exact key (by assumption)
  ·cases h
def cm:∀(us:List Value) (i:Nat) (cs:Array Value) (o:Nat),o+i+us.length≤cs.size →
  ((us.zipIdx i).foldl (λcs (cj:Value×Nat)=>cs.setIfInBounds (o+cj.2) cj.1) cs).toList=cs.toList.take (o+i)++us++cs.toList.drop (o+i+us.length)
 |[],i,cs,o,h=>by simp
 |u::us,i,cs,o,h=>by
  simp only[List.zipIdx_cons,List.foldl_cons];simp at h;rw[cm us (i+1) _ o (by simp;omega)]
  have hp:o+i<cs.toList.length:=by simp;omega
  rw[Array.toList_setIfInBounds,List.set_eq_take_append_cons_drop,if_pos hp,show o+(i+1)=o+i+1 by omega]
  have hl:(cs.toList.take (o+i)).length=o+i:=by simp;omega
  have e1:(cs.toList.take (o+i)++u::cs.toList.drop (o+i+1)).take (o+i+1)=cs.toList.take (o+i)++[u]:=by
   rw[List.take_append,hl,List.take_of_length_le (by omega),show o+i+1-(o+i)=1 by omega];simp
  have e2:(cs.toList.take (o+i)++u::cs.toList.drop (o+i+1)).drop (o+i+1+us.length)=cs.toList.drop (o+i+(u::us).length):=by
   rw[List.drop_append,hl,List.drop_of_length_le (by omega),show o+i+1+us.length-(o+i)=us.length+1 by omega]
   simp only[List.drop_succ_cons,List.drop_drop,List.nil_append,List.length_cons];congr 1;omega
  rw[e1,e2];simp
def P5{place:Nat→Option (Nat×Nat)}{O:Nat→Prop}:∀{parts:List (Nat×AV)} {pv:List (Nat×Value)} {cs:List AV} {vs:Array Value} {out:List AV},
  (parts.map (·.1)=pv.map (·.1))→(∀(i:Nat) (p:Nat×AV) (q:Nat×Value),parts[i]?=some p→pv[i]?=some q→XR w O (EK K ρ) p.2 q.2 [])→XRs w O (EK K ρ) cs vs.toList []→DU K place cs parts=some out →
  ∃us,Instr.fill place vs pv=some us∧XRs w O (EK K ρ) out us.toList []∧out.length=cs.length
 |[],pv,cs,vs,out,hi,_,hX,h=>by
  simp at hi;subst hi;simp[DU]at h;subst h;exact⟨vs,by simp[Instr.fill],hX,rfl⟩
 |(i,v)::parts,[],_,_,_,hi,_,_,_=>by simp at hi
 |(i,v)::parts,(i',x)::pv,cs,vs,out,hi,hp,hX,h=>by
  simp at hi;obtain⟨rfl,hi⟩:=hi;simp only[DU]at h
  split at h
  ·rename_i o m ds h1 h2
   split at h
   ·rename_i hc
    obtain⟨rfl,hc⟩:=hc;have hx:=ph h2 (hp 0 _ _ rfl rfl);have hxl:=XP hx;have hvl:=XP hX;simp at hxl hvl;have hX':XRs w O (EK K ρ) (putCells cs o ds) ((x.cells.zipIdx.foldl (λcs (cj:Value×Nat)=>cs.setIfInBounds (o+cj.2) cj.1) vs).toList) []:=by
     rw[←Array.foldl_toList,Array.toList_zipIdx,cm _ 0 vs o (by simp;omega)]
     obtain⟨n1,n2,h3,h4,h5⟩:=Eg o hX;obtain⟨rfl,rfl⟩:=List.append_eq_nil_iff.1 h3.symm;obtain⟨m1,m2,h6,h7,h8⟩:=Eg ds.length h5;obtain⟨rfl,rfl⟩:=List.append_eq_nil_iff.1 h6.symm;have:=Zg (Zg h4 hx) h8;simpa[putCells,List.drop_drop,hxl,Nat.add_comm]using this
    obtain⟨us,h6,h7,h8⟩:=P5 (parts:=parts) (pv:=pv) hi (λq p r hp' hq=>hp (q+1) p r (by simpa using hp') (by simpa using hq)) hX' h
    refine⟨us,?_,h7,by rw[h8];simp[putCells];omega⟩
    simp only[Instr.fill,h1];rw[if_neg (by simp;omega)]
    exact h6
   ·cases h
  ·cases h
def fQ{fs:Array Field}{p:List (Nat×Nat)}(h:jo P fs=some p)(w:World) :
  (fs.mapM (m:=Sem) λfd=>do pure (fd.offset,←sizeOf fd.type)).run P w=.ok p.toArray w:=by
 have key:∀(l:List Field) (p:List (Nat×Nat)),(l.mapM λf=>(tz P f.type).map λm=>(f.offset,m))=some p →
   (l.mapM (m:=Sem) λfd=>do pure (fd.offset,←sizeOf fd.type)).run P w=.ok p w:=by
  intro l
  induction l with
  |nil=>intro p h;simp at h;subst h;simp
  |cons fd l ih =>
   intro p h;simp only[List.mapM_cons,Option.bind_eq_bind,Option.bind_eq_some_iff,Option.map_eq_some_iff]at h;obtain⟨q,⟨m,hm,rfl⟩,r,hr,h⟩:=h;injection h with h;subst h
   simp only[List.mapM_cons,Sem.run_bind,Xb hm,Result.andThen_ok,ih r hr,Sem.run_pure]
 rw[Array.mapM_eq_mapM_toList];simp only[Sem.run_map];rw[key _ _ h];rfl
def ng{O:Nat→Prop}{parts:List (Nat×AV)}{pv:Array (Nat×Value)}{k:AV→Prop}{l}{t:TypeId}(h:Ng K (UX P t) parts k l)
  (hi:parts.map (·.1)=pv.toList.map (·.1)) (hp:∀(i:Nat) (p:Nat×AV) (q:Nat×Value),parts[i]?=some p→pv.toList[i]?=some q→XR w O (EK K ρ) p.2 q.2 []) :
  ∃v av,Yl P (Instr.build t pv) v∧XR w O (EK K ρ) av v []∧k av:=by
 unfold Ng at h
 split at h
 ·rename_i z p ht
  unfold UX at ht
  split at ht
  ·rename_i fs hu
   split at ht
   ·rename_i z' p' h1 h2
    injection ht with e1 e2;subst e1 e2
    split at h
    ·rename_i cs hf
     obtain⟨zv,hz,rfl,_⟩:=SO h1;obtain⟨us,h3,h4,h5⟩:=P5 (vs:=zv.cells) hi hp (SE _) hf;refine⟨.agg us,_,λw=>?_,by simp only[XR];exact⟨us,rfl,h4⟩,h⟩
     have e:(λ(x:Nat)=>(p'.toArray)[x]?)=(λ(x:Nat)=>p'[x]?):=by funext x;simp
     simp only[Instr.build,Sem.run_bind,IP hz,Result.andThen_ok,V4 hu,fQ h2,e,h3,Sem.run_pure]
    ·exact h.elim
   ·cases ht
  ·split at ht<;>cases ht
  ·cases ht
 ·rename_i z m ht
  unfold UX at ht
  split at ht
  ·split at ht<;>cases ht
  ·rename_i ln e hu
   split at ht
   ·rename_i z' m' h1 h2
    injection ht with e1 e2;subst e1 e2
    split at h
    ·rename_i cs hf
     obtain⟨zv,hz,rfl,_⟩:=SO h1;obtain⟨us,h3,h4,h5⟩:=P5 (vs:=zv.cells) hi hp (SE _) hf;refine⟨.agg us,_,λw=>?_,by simp only[XR];exact⟨us,rfl,h4⟩,h⟩
     simp[Instr.build,IP hz,V4 hu,Xb h2,h3]
    ·exact h.elim
   ·cases ht
  ·cases ht
 ·exact h.elim
def bR[Wd](hS:Sim n Y w0 F0 ρ f K a w){j m:Nat}{rows:List (List AV)}{v:Value}(hj:kg K j=some (.lst m rows))(h:XR w (OO K ρ Y) (EK K ρ) (.sl j) v []){E:EI} :
  XR w (OO K ρ Y) E (.own m rows) v (fp ρ j)∧VI v=true:=by
 have hreg:=hS.sees.reg j _ hj;obtain⟨ad,cap,hv,hc,hw⟩:=NB hS hj h;refine⟨?_,by rw[hv];rfl⟩
 simp only[XR,fp]
 rcases hw with⟨h1,rfl,h0⟩|⟨b,h1,rfl,hw⟩
 ·rw[h1]at hreg ⊢
  simp only[QE.rows]at h0 hv;subst h0;exact .inl ⟨rfl,⟨_,hv⟩,by simp[hreg.2]⟩
 ·rw[h1]at hreg ⊢
  exact .inr ⟨b,_,cap,rfl,hv,hc,hw,hreg.2.1⟩
def N4[Wd](hS:Sim n Y w0 F0 ρ f K a w):∀{cs:List AV} {vs:List Value} {K2 K1:KS} {out:List AV},(∀i e,kg K2 i=some e→kg K i=some e)→XRs w (OO K ρ Y) (EK K ρ) cs vs []→XJ K2 cs=some (K1,out) →
  ∃nb,XRs w (OO K ρ Y) EN out vs nb∧out.length=cs.length∧K1.length=K2.length∧(∀i e,kg K1 i=some e→kg K2 i=some e)∧(∀x∈nb,∃j e,kg K2 j=some e∧kg K1 j=none∧x∈fp ρ j)∧nb.Nodup∧∀v∈vs,VI v=true
 |[],vs,K2,K1,out,_,hX,h=>by
  simp[XJ]at h;obtain⟨rfl,rfl⟩:=h;simp only[XRs]at hX;exact⟨[],by simp[XRs,hX.1],rfl,rfl,λ_ _ h=>h,by simp,by simp,by simp[hX.1]⟩
 |c::cs,vs,K2,K1,out,hK,hX,h=>by
  simp only[XRs]at hX;obtain⟨v,vs',n1,n2,rfl,h2,h3,h4⟩:=hX;obtain⟨rfl,rfl⟩:=List.append_eq_nil_iff.1 h2.symm;have plain:c.closed=true→((XJ K2 cs).map λp=>(p.1,c::p.2))=some (K1,out)→∃nb,XRs w (OO K ρ Y) EN out (v::vs') nb∧out.length=(c::cs).length∧K1.length=K2.length∧(∀i e,kg K1 i=some e→kg K2 i=some e)∧(∀x∈nb,∃j e,kg K2 j=some e∧kg K1 j=none∧x∈fp ρ j)∧nb.Nodup∧∀u∈v::vs',VI u=true:=by
   intro hc h;obtain⟨⟨K3,o3⟩,h5,h6⟩:=Option.map_eq_some_iff.1 h;injection h6 with e1 e2;subst e1 e2
   obtain⟨nb,g1,g2,g3,g4,g5,g6,g7⟩:=N4 hS hK h4 h5;refine⟨nb,?_,by simp[g2],g3,g4,g5,g6,λu hu=>by rcases List.mem_cons.1 hu with rfl|hu;exact Nu (RB hc) h3;exact g7 u hu⟩
   simp only[XRs];exact⟨v,vs',[],nb,rfl,rfl,SZ hc h3,g1⟩
  by_cases hsl:∃j,c=.sl j
  ·obtain⟨j,rfl⟩:=hsl
   simp only[XJ]at h
   split at h
   ·rename_i m rows hj
    obtain⟨⟨K3,o3⟩,h5,h6⟩:=Option.map_eq_some_iff.1 h;injection h6 with e1 e2;subst e1 e2
    have hjl:=Gr hj;have hsub:∀i e,kg (K2.set j none) i=some e→i≠j∧kg K2 i=some e:=λi e hi=>by
     rw[Zu _ _ _ _ hjl]at hi;by_cases hij:i=j
     ·rw[if_pos hij]at hi;cases hi
     ·rw[if_neg hij]at hi;exact⟨hij,hi⟩
    obtain⟨nb,g1,g2,g3,g4,g5,g6,g7⟩:=N4 hS (λi e hi=>hK i e (hsub i e hi).2) h4 h5
    have hjK:=hK j _ hj;obtain⟨hown,hone⟩:=bR hS hjK h3 (E:=EN);refine⟨fp ρ j++nb,?_,by simp[g2],by simpa using g3,λi e hi=>(hsub i e (g4 i e hi)).2,?_,?_,λu hu=>by rcases List.mem_cons.1 hu with rfl|hu;exact hone;exact g7 u hu⟩
    ·simp only[XRs]
     exact⟨v,vs',fp ρ j,nb,rfl,rfl,hown,g1⟩
    ·intro x hx
     rcases List.mem_append.1 hx with hx|hx
     ·refine⟨j,_,hj,?_,hx⟩
      cases h7:kg K3 j with
      |none=>rfl
      |some e=>exact absurd rfl (hsub j e (g4 j e h7)).1
     ·obtain⟨i,e,h7,h8,h9⟩:=g5 x hx
      exact⟨i,e,(hsub i e h7).2,h8,h9⟩
    ·rw[List.nodup_append]
     refine⟨hS.sees.nd j _ hjK,g6,λx hx y hy hxy=>?_⟩
     subst hxy;obtain⟨i,e,h7,h8,h9⟩:=g5 x hy;obtain⟨h10,h11⟩:=hsub i e h7;exact hS.sees.dj i e j _ x (hK i e h11) hjK h10 h9 hx
   ·cases h
  ·have hab:XJ K2 (c::cs)=if c.closed=true then(XJ K2 cs).map (λp=>(p.1,c::p.2))else none:=by
    cases c<;>first|rfl|(exact absurd ⟨_,rfl⟩ hsl)
   rw[hab]at h
   split at h
   ·exact plain (by assumption) h
   ·cases h
def Y2{m:Nat}:∀(l:Nat) (cs:List AV),cs.length=l*m→(EO m l cs).length=l∧(∀r∈EO m l cs,r.length=m)∧(EO m l cs).flatten=cs
 |0,cs,h=>by simp at h;simp[EO,h]
 |l+1,cs,h=>by
  rw[Nat.succ_mul]at h;obtain⟨h1,h2,h3⟩:=Y2 (m:=m) l (cs.drop m) (by simp;omega)
  refine⟨by simp[EO,h1],λr hr=>?_,by simp[EO,h3]⟩
  simp only[EO,List.mem_cons]at hr
  rcases hr with rfl|hr
  ·simp;omega
  ·exact h2 r hr
def cT{t e m:Nat}{z:List AV}(h:Lr P t=some (e,m,z)):P.underlying t=some (.slice e)∧tz P e=some m∧Uw P e=some z∧z.length=m∧0<m:=by
 unfold Lr at h
 split at h
 ·rename_i e' hu
  split at h
  ·rename_i m' z' h1 h2
   split at h
   ·rename_i hc
    injection h with h;injection h with a1 h;injection h with a2 a3;subst a1 a2 a3
    exact⟨hu,h1,h2,hc.1,hc.2⟩
   ·cases h
  ·cases h
 ·cases h
def sr{α:Type}{z:List α}(h0:0<z.length):∀(l i:Nat),i<l*z.length→(List.replicate l z).flatten[i]?=z[i%z.length]?
 |0,i,h=>by simp at h
 |l+1,i,h=>by
  rw[Nat.succ_mul]at h;rw[List.replicate_succ,List.flatten_cons];by_cases hi:i<z.length
  ·rw[List.getElem?_append_left hi,Nat.mod_eq_of_lt hi]
  ·rw[List.getElem?_append_right (by omega),sr (z:=z) h0 l (i-z.length) (by omega),←Nat.mod_eq_sub_mod (by omega)]
def jh{α:Type}(z:List α)(l:Nat):(List.replicate l z).flatten.length=l*z.length:=by simp
def Ro{zv:Array Value}(h0:0<zv.size)(l:Nat):((Array.range (l*zv.size)).map (λi=>zv[i%zv.size]!)).toList=(List.replicate l zv.toList).flatten:=by
 apply List.ext_getElem?;intro i;by_cases hi:i<l*zv.size
 ·have h:=sr (z:=zv.toList) (by simpa using h0) l i (by simpa using hi)
  rw[h];have hm:i%zv.size<zv.size:=Nat.mod_lt _ h0;simp[hi,hm]
 ·rw[List.getElem?_eq_none (by simp;omega),List.getElem?_eq_none (by rw[jh];simp;omega)]
def dK{O:Nat→Prop}{E:EI}{z:List AV}{zv:List Value}(h:XRs w O E z zv []):∀l,XRs w O E (HF l z) (List.replicate l zv).flatten []
 |0=>by simp[HF,XRs]
 |l+1=>by
  have:=Zg h (dK h l);simpa[HF,List.replicate_succ]using this
def j6[Wd]{K':KS}{ρ':Dl}{w':World}{j b len:Nat}{e:QE}(s1:Sim n Y w0 F0 ρ' f K' a w')(hj:kg K' j=some e)(s2:(EK K' ρ').of j=some (some b,e.n,e.rows.length))(s3:(EK K' ρ').sz=j+1)
  (hl:e.rows.length=len) (hc:len*e.n≤e.rows.length*e.n) {O:Nat→Prop}:XR w' O (EK K' ρ') (.sl j) (.slice (some ⟨b,0,none⟩) len len) []:=by
 simp only[XR,true_and];refine⟨by rw[s3];omega,λm' len' hE=>(by rw[s2]at hE;cases hE),λbl m' len' hE=>?_⟩
 rw[s2]at hE;injection hE with hE;injection hE with e1 hE;injection hE with e2 e3;injection e1 with e1
 subst e1 e2 e3;refine⟨len,by rw[hl],by omega,?_⟩
 have hρ:(ρ' j).1=some b:=by
  simp only[EK,hj,Option.map_some]at s2;injection s2 with s2;injection s2 with s2
 have hreg:=s1.sees.reg j _ hj;rw[hρ]at hreg;exact hreg.1.le hc
def KL:∀(ns:List Nat) (cs:List AV),(nz ns cs).length=cs.length
 |[],cs=>by cases cs<;>rfl
 |n::ns,[]=>rfl
 |n::ns,c::cs=>by simp[nz,KL ns cs]
def rW{O:Nat→Prop}{E:EI}{n:Nat}{c:AV}{v:Value}{nb:List Nat}(h:XR w O E c v nb):XR w O E (pB n c) v nb:=by
 cases c<;>first|exact h|skip
 simp only[XR]at h;simp only[pB,XR];exact .inl ⟨trivial,h.1,h.2⟩
def Y4{O:Nat→Prop}{E:EI}:∀{ns:List Nat} {cs:List AV} {vs:List Value} {nb:List Nat},XRs w O E cs vs nb→XRs w O E (nz ns cs) vs nb
 |[],[],_,_,h=>h
 |[],_::_,_,_,h=>h
 |_::_,[],_,_,h=>h
 |n::ns,c::cs,vs,nb,h=>by
  simp only[XRs]at h;obtain⟨v,vs',n1,n2,h1,h2,h3,h4⟩:=h;simp only[nz,XRs];exact⟨v,vs',n1,n2,h1,h2,rW h3,Y4 h4⟩
def lz{O:Nat→Prop}{E:EI}{ns:List Nat}:∀{rs:List (List AV)} {vs:List Value} {nb:List Nat},XRs w O E rs.flatten vs nb→XRs w O E (rs.map (nz ns)).flatten vs nb
 |[],_,_,h=>h
 |r::rs,vs,nb,h=>by
  rw[List.flatten_cons]at h;obtain⟨n1,n2,rfl,h1,h2⟩:=Eg r.length h;rw[List.take_left]at h1;rw[List.drop_left]at h2;have:=Zg (Y4 (ns:=ns) h1) (lz (ns:=ns) h2);simpa using this
def im[Wd](hS:Sim n Y w0 F0 ρ f K a w){parts:List (Nat×AV)}{pv:Array (Nat×Value)}{k:AV→KS→Prop}{l}{t:TypeId}{len:Nat}{ns:List Nat}(h:F9 ns K (Lr P t) len parts k l)
  (hi:parts.map (·.1)=pv.toList.map (·.1)) (hp:∀(i:Nat) (p:Nat×AV) (q:Nat×Value),parts[i]?=some p→pv.toList[i]?=some q→XR w (OO K ρ Y) (EK K ρ) p.2 q.2 []) :
  ∃y w',(Instr.buildSlice t len pv).run P w=.ok y w'∧Out n Y w0 F0 f a k y w':=by
 unfold F9 at h
 split at h
 ·rename_i e m z ht
  obtain⟨hu,hz,hzc,hzl,hm⟩:=cT ht
  split at h
  ·rename_i hl0
   subst hl0
   split at h
   ·have hpv:pv=#[]:=by
     have:pv.toList.map (·.1)=[]:=hi.symm
     simpa using this
    subst hpv;obtain⟨ρ',s1,s2,s3⟩:=hS.push (K1:=K) rfl (λ_ _ h=>h) (e:=.lst m []) (nb:=[]) (c:=#[]) (el:=e) (vs:=[]) (by simp[QE.rows]) (by simp[QE.rows,XRs]) (by simp) (by simp) (by simp[QE.rows]) (by simp) (by simp) (λh=>by cases h)
    refine⟨.slice (some ⟨w.heap.size,0,none⟩) 0 0,_,?_,_,_,ρ',s1,?_,h⟩
    ·simp[Instr.buildSlice,V4 hu,Xb hz,DA,Instr.fill]
     have hz0:(Array.map (λ(x:Nat)=>(default:Value)) (Array.range 0))=#[]:=Array.eq_empty_of_size_eq_zero (by simp)
     rw[hz0]
    ·exact j6 s1 (by rw[GZ];simp) s2 s3 (by simp[QE.rows]) (by simp[QE.rows,QE.n])
   ·exact h.elim
  ·rename_i hl0
   split at h
   rename_i hlen
   split at h
   ·rename_i cs hf
    split at h
    ·rename_i K1 out hab
     obtain⟨zv,hzv,rfl,_⟩:=SO hzc;have hzs:zv.cells.size=m:=by simpa using hzl
     have hX0:XRs w (OO K ρ Y) (EK K ρ) (HF len (zv.cells.toList.map cv)) ((Array.range (len*m)).map (λi=>zv.cells[i%zv.cells.size]!)).toList []:=by
      rw[←hzs,Ro (by omega)]
      exact dK (SE _) len
     obtain⟨us,h1,h2,h3⟩:=P5 (vs:=(Array.range (len*m)).map (λi=>zv.cells[i%zv.cells.size]!)) hi hp hX0 hf
     obtain⟨nb,g1,g2,g3,g4,g5,g6,g7⟩:=N4 hS (λ_ _ h=>h) h2 hab
     have hol:out.length=len*m:=by rw[g2,h3];simp[HF,hzs]
     obtain⟨r1,r2,r3⟩:=Y2 len out hol;have hul:=XP g1;simp at hul;obtain⟨ρ',s1,s2,s3⟩:=hS.push (K1:=K1) g3 g4 (e:=.lst m ((EO m len out).map (nz ns))) (nb:=nb) (c:=us) (el:=e) (vs:=us.toList) (by simp only[QE.rows,QE.n];intro r hr;obtain⟨r0,h0,rfl⟩:=List.mem_map.1 hr;rw[KL];exact r2 r0 h0) (by simp only[QE.rows,QE.E];exact lz (by rw[r3];exact g1)) (λi hi=>by simp) g7 (by simp only[QE.rows,QE.n,List.length_map,r1];omega) g5 g6 (λh=>by cases h)
     refine⟨.slice (some ⟨w.heap.size,0,none⟩) len len,_,?_,_,_,ρ',s1,?_,h⟩
     ·have hlm:¬(len*m=0):=by rw[Nat.mul_eq_zero];omega
      simp only[Instr.buildSlice,Sem.run_bind,V4 hu,Result.andThen_ok,Xb hz,hlm,if_false,Sem.run_ite,show ¬(2^24<len*m)by omega,gt_iff_lt,IP hzv,h1,DA,Sem.run_pure]
     ·exact j6 s1 (by rw[GZ,g3];simp) s2 s3 (by simp[QE.rows,r1]) (by simp[QE.rows,QE.n,r1])
    ·exact h.elim
   ·exact h.elim
   ·exact h.elim
 ·exact h.elim
def Ins(nd nb nb':List Nat):Prop:=∃a c,nb'=a++nd++c∧(a++c).Sublist nb
def Ins.mem{nd nb nb':List Nat}(h:Ins nd nb nb'){b:Nat}(hb:b∈nb'):b∈nd∨b∈nb:=by
 obtain⟨a,c,rfl,hs⟩:=h;simp only[List.mem_append]at hb
 rcases hb with(hb|hb)|hb
 ·exact .inr (hs.subset (by simp[hb]))
 ·exact .inl hb
 ·exact .inr (hs.subset (by simp[hb]))
def Ins.nodup{nd nb nb':List Nat}(h:Ins nd nb nb')(h1:nd.Nodup)(h2:nb.Nodup)(h3:∀b∈nd,b∉nb):nb'.Nodup:=by
 obtain⟨a,c,rfl,hs⟩:=h;have hac:=h2.sublist hs;rw[List.nodup_append]at hac;have ha:∀b∈a,b∉nd:=λb hb hb'=>h3 b hb' (hs.subset (by simp[hb]))
 have hc:∀b∈c,b∉nd:=λb hb hb'=>h3 b hb' (hs.subset (by simp[hb]))
 rw[List.nodup_append,List.nodup_append];refine⟨⟨hac.1,h1,λx hx y hy hxy=>?_⟩,hac.2.1,λx hx y hy hxy=>?_⟩
 ·subst hxy;exact ha x hx hy
 ·subst hxy
  rcases List.mem_append.1 hx with hx|hx
  ·exact hac.2.2 x hx x hy rfl
  ·exact hc x hy hx
def kC{w w':World}{O O':Nat→Prop}{E E':EI}{n:Nat}{nd:List Nat}(hs:Same O E w O' E' w'){r':List AV}(hr':r'.length=n):∀{rs:List (List AV)} {bl off:Nat} {nb:List Nat} {i:Nat},i<rs.length →
  (∀k,(k<i*n∨(i+1)*n≤k)→w'.cell? ⟨bl,off+k,none⟩=w.cell? ⟨bl,off+k,none⟩)→(∀b∈nb,w'.heap[b]?=w.heap[b]?) →
  (∀m,m.Sublist nb→CR w O E bl (off+i*n) (VJ rs i) m→∃m',CR w' O' E' bl (off+i*n) r' m'∧Ins nd m m') →
  RR w O E n bl off rs nb→∃nb',RR w' O' E' n bl off (rs.set i r') nb'∧Ins nd nb nb'
 |[],_,_,_,_,hi,_,_,_,_=>by simp at hi
 |r::rs,bl,off,nb,0,hi,hc,hn,hnew,h=>by
  simp only[RR]at h;obtain⟨n1,n2,rfl,hr,h3,h4⟩:=h;obtain⟨m',h5,a,c,rfl,h6⟩:=hnew n1 (by simp) (by simpa[VJ]using h3)
  refine⟨a++nd++c++n2,?_,a,c++n2,by simp,by rw[←List.append_assoc];exact List.Sublist.append h6 (List.Sublist.refl _)⟩
  simp only[List.set_cons_zero,RR];refine⟨_,n2,rfl,hr',by simpa using h5,P4 hs (λi hi=>?_) (λb hb=>hn b (by simp[hb])) h4⟩
  have:=hc (n+i) (by right;simp only[Nat.zero_add,Nat.one_mul];omega)
  simpa[Nat.add_assoc]using this
 |r::rs,bl,off,nb,i+1,hi,hc,hn,hnew,h=>by
  simp only[RR]at h;obtain⟨n1,n2,rfl,hr,h3,h4⟩:=h;have e:off+n+i*n=off+(i+1)*n:=by rw[Nat.succ_mul];omega
  obtain⟨nb',h5,a,c,rfl,h6⟩:=kC hs hr' (rs:=rs) (bl:=bl) (off:=off+n) (nb:=n2) (i:=i) (by simpa using hi) (λk hk=>by
    have:=hc (n+k) (by simp only[Nat.succ_mul]at hk ⊢;omega)
    simpa[Nat.add_assoc]using this) (λb hb=>hn b (by simp[hb])) (λm hm hC=>by
    rw[e]at hC ⊢;exact hnew m (hm.trans (by simp)) (by simpa[VJ]using hC)) h4
  refine⟨n1++(a++nd++c),?_,n1++a,c,by simp,by rw[List.append_assoc];exact List.Sublist.append (List.Sublist.refl _) h6⟩
  simp only[List.set_cons_succ,RR];refine⟨n1,_,rfl,hr,Yt hs (λk hk=>hc k (by simp only[Nat.succ_mul];omega)) (λb hb=>hn b (by simp[hb])) h3,h5⟩
def QfH{w':World}{O:Nat→Prop}{E:EI}{bl o p:Nat}{cs ds:List AV}{us:List Value}{nb nd:List Nat}(same:Same O E w O E w')(hlen:p+ds.length≤cs.length)
  (hc:∀i,(i<p∨p+us.length≤i)→w'.cell? ⟨bl,o+i,none⟩=w.cell? ⟨bl,o+i,none⟩) (hu:∀i,i<us.length→w'.cell? ⟨bl,o+p+i,none⟩=us[i]?) (hX:XRs w O E ds us nd) (ho:∀u∈us,VI u=true)
  (hn:∀b∈nb,w'.heap[b]?=w.heap[b]?) (hnd:∀b∈nd,w'.heap[b]?=w.heap[b]?) (h:CR w O E bl o cs nb):∃nb',CR w' O E bl o (putCells cs p ds) nb'∧Ins nd nb nb':=by
 obtain⟨vs,hl,hv,hx,hone⟩:=I4 h;have hul:=XP hX;obtain⟨n1,n2,rfl,h1,h2⟩:=Eg p hx;obtain⟨m1,m2,rfl,h3,h4⟩:=Eg ds.length h2;have e1:=XRs.mono _ same _ _ (λb hb=>hn b (by simp[hb])) h1
 have e2:=XRs.mono _ same _ _ hnd hX;have e3:=XRs.mono _ same _ _ (λb hb=>hn b (by simp[hb])) h4
 have e:=Zg (Zg e1 e2) e3;refine⟨n1++nd++m2,ci (vs:=vs.take p++us++(vs.drop p).drop ds.length) (λi hi=>?_) (λv hv=>by
   rcases List.mem_append.1 hv with hv|hv
   ·rcases List.mem_append.1 hv with hv|hv
    ·exact hone v (List.mem_of_mem_take hv)
    ·exact ho v hv
   ·exact hone v (List.mem_of_mem_drop (List.mem_of_mem_drop hv))) (by simpa[putCells,List.drop_drop,Nat.add_comm]using e),n1,m2,rfl,?_⟩
 ·have hi':i<cs.length:=by simp[putCells]at hi;omega
  by_cases hp:i<p
  ·rw[hc i (.inl hp),hv i hi',List.append_assoc,List.getElem?_append_left (by simp;omega),List.getElem?_take,if_pos hp]
  ·by_cases hq:i<p+us.length
   ·have:=hu (i-p) (by omega)
    rw[show o+p+(i-p)=o+i by omega]at this
    rw[this,List.append_assoc,List.getElem?_append_right (by simp;omega),List.getElem?_append_left (by simp;omega)]
    congr 1;simp;omega
   ·rw[hc i (.inr (by omega)),hv i hi',List.getElem?_append_right (by simp;omega),List.getElem?_drop,List.getElem?_drop]
    congr 1;simp;omega
 ·exact List.Sublist.append (List.Sublist.refl _) (List.sublist_append_right _ _)
def Sim.wroteA[Wd](hS:Sim n Y w0 F0 ρ f K a w){j:Nat}{e e':QE}{w':World}{off bl:Nat}{vs:List Value}{nd nb':List Nat}{K1:KS}(hl1:K1.length=K.length)(hk:∀i e,kg K1 i=some e→kg K i=some e)(hj1:kg K1 j=some e)
  (hbl:(ρ j).1=some bl) (hP:Put w w' bl off vs) (hn:e'.n=e.n) (hl:e'.rows.length=e.rows.length) (hb:e'.isBox=e.isBox) (hbx:e.isBox=false) (hR:RR w' (OO K ρ Y) (e'.E (EK K ρ)) e'.n bl 0 e'.rows nb')
  (hnd:∀x∈nd,∃i e,kg K i=some e∧kg K1 i=none∧x∈fp ρ i) (hndd:nd.Nodup) (hs:Ins nd (ρ j).2 nb') :
  ∃ρ',Sim n Y w0 F0 ρ' f (K1.set j (some e')) a w':=by
 have hj:=hk j e hj1;have hjl:=Gr hj1
 let ρ':Dl:=λi=>if i=j then((ρ j).1,nb')else ρ i
 have hg:∀i,kg (K1.set j (some e')) i=if i=j then some e' else kg K1 i:=λi=>Zu _ _ _ _ hjl
 have hndj:∀x∈nd,x∉fp ρ j:=λx hx hx'=>by
  obtain⟨i,e1,h1,h2,h3⟩:=hnd x hx;have hij:i≠j:=λh=>by subst h;rw[hj1]at h2;cases h2
  exact hS.sees.dj i e1 j e x h1 hj hij h3 hx'
 have hfp:∀x,x∈fp ρ' j→x∈fp ρ j∨x∈nd:=by
  intro x hx;simp only[fp,ρ',if_true]at hx ⊢
  rcases List.mem_append.1 hx with h|h
  ·exact .inl (List.mem_append_left _ h)
  ·rcases hs.mem h with h|h
   ·exact .inr h
   ·exact .inl (List.mem_append_right _ h)
 have hei:∀i p,(EK (K1.set j (some e')) ρ').of i=some p→(EK K ρ).of i=some p:=by
  intro i p hp;simp only[EK]at hp ⊢;rw[hg]at hp;by_cases h:i=j
  ·subst h
   rw[if_pos rfl]at hp;rw[hj];simpa[ρ',hn,hl]using hp
  ·rw[if_neg h]at hp
   cases h1:kg K1 i with
   |none=>rw[h1]at hp;cases hp
   |some e1=>rw[h1]at hp;rw[hk _ _ h1];simpa[ρ',h]using hp
 have hO:∀b,OO (K1.set j (some e')) ρ' Y b→OO K ρ Y b:=by
  rintro b (h|⟨i,e0,hi,hb'⟩)
  ·exact .inl h
  ·rw[hg]at hi
   by_cases h:i=j
   ·subst h
    rcases hfp b hb' with h|h
    ·exact .inr ⟨i,e,hj,h⟩
    ·obtain⟨i',e1,h1,_,h3⟩:=hnd b h
     exact .inr ⟨i',e1,h1,h3⟩
   ·rw[if_neg h]at hi
    exact .inr ⟨i,e0,hk _ _ hi,by simpa[fp,ρ',h]using hb'⟩
 have hjO:OO K ρ Y bl:=.inr ⟨j,e,hj,ED hbl⟩;have same:Same (OO K ρ Y) (EK K ρ) w (OO (K1.set j (some e')) ρ' Y) (EK (K1.set j (some e')) ρ') w' :=
  ⟨Nat.le_of_eq hP.size.symm,λb hb _=>hP.block b (λh=>hb (h▸hjO)),λb hb _ h=>hb (hO b h),by simp[EK,hl1],λi p _ hp=>hei i p hp,λ_ _ _ _ _ _ _ h=>hP.whole h⟩
 refine⟨ρ',hS.lift same j ?_ ?_ ?_⟩
 ·intro i e0 hi hij
  rw[hg,if_neg hij]at hi;refine⟨hk _ _ hi,by simp[ρ',hij],λb hb'=>hP.block b (λh=>?_)⟩
  subst h;exact hS.sees.dj j e i e0 _ hj (hk _ _ hi) (Ne.symm hij) (ED hbl) hb'
 ·intro e0 h0
  rw[hg,if_pos rfl]at h0;injection h0 with h0;subst h0
  have hreg:=hS.sees.reg j e hj;rw[hbl]at hreg;obtain⟨hW,hR0,_⟩:=hreg;have hnd0:=hS.sees.nd j e hj;have e1:ρ' j=((ρ j).1,nb'):=by simp[ρ']
  simp only[fp,hbl,Option.toList,List.singleton_append,List.nodup_cons]at hnd0;refine⟨?_,?_,?_⟩
  ·rw[e1]
   refine Reg.at hbl ⟨?_,?_,λh=>by rw[hb,hbx]at h;cases h⟩
   ·rw[hl,hn];exact hP.whole hW
   ·have hw:Same (OO K ρ Y) (e'.E (EK K ρ)) w' (OO (K1.set j (some e')) ρ' Y) (e'.E (EK (K1.set j (some e')) ρ')) w':=by
     have h1:Same (OO K ρ Y) (EK K ρ) w' (OO (K1.set j (some e')) ρ' Y) (EK (K1.set j (some e')) ρ') w' :=
      ⟨Qg _,λ_ _ _=>rfl,λx hx _ h=>hx (hO x h),by simp[EK,hl1],λi p _ hp=>hei i p hp,λ_ _ _ _ _ _ _ h=>h⟩
     cases e' with
     |box cs=>exact h1
     |lst m rows=>exact h1.en
    exact RR.mono _ hw _ _ _ rfl (λ_ _=>rfl) hR
  ·simp only[fp,e1,hbl,Option.toList,List.singleton_append,List.nodup_cons]
   refine⟨λh=>?_,hs.nodup hndd hnd0.2 (λb hb hb'=>hndj b hb (FO hb'))⟩
   rcases hs.mem h with h|h
   ·exact hndj _ h (ED hbl)
   ·exact hnd0.1 h
  ·intro b hb'
   rcases hfp b hb' with h|h
   ·exact⟨by rw[hP.size];exact hS.sees.lt j e b hj h,.inr ⟨j,e,hj,h,.inl rfl⟩⟩
   ·obtain⟨i,e2,h1,h2,h3⟩:=hnd b h
    have hij:i≠j:=λh=>by subst h;rw[hj1]at h2;cases h2
    exact⟨by rw[hP.size];exact hS.sees.lt i e2 b h1 h3,.inr ⟨i,e2,h1,h3,.inr (by rw[hg,if_neg hij];exact h2)⟩⟩
 ·refine hS.ext.trans (G:=λb=>b=bl) ⟨hP.os,hP.tape,hP.output,Nat.le_of_eq hP.size.symm,λb _ hb=>hP.block b hb,λb m h=>hP.whole h⟩ (λ_ h=>h) (λx hx hx'=>?_)
  subst hx'
  rcases hS.new j e _ hj (ED hbl)with h|h
  ·exact h
  ·omega
def Yk[Wd](hS:Sim n Y w0 F0 ρ f K a w){p v:AV}{k:KS→Prop}{l}{vp x:Value}{t:TypeId}{fl:Bool}{ns:List Nat}
  (h:CL fl ns K (tk P t) p v k l) (hp:XR w (OO K ρ Y) (EK K ρ) p vp []) (hx:XR w (OO K ρ Y) (EK K ρ) v x []) :
  ∃K' ρ' w',(Instr.storeAt t vp x).run P w=.ok () w'∧Sim n Y w0 F0 ρ' f K' a w'∧k K':=by
 unfold CL at h
 split at h
 ·rename_i j i o
  split at h
  ·rename_i m rows hj
   split at h
   ·exact bD hS h hp hx
   ·split at h
    ·unfold Kh at h
     split at h
     ·rename_i hi
      split at h
      ·rename_i K1 ds hab
       split at h
       ·rename_i hcond
        obtain⟨hjs,hfit,hl⟩:=hcond;obtain⟨us,hX,hcells⟩:∃us:List Value,XRs w (OO K ρ Y) (EK K ρ) (C2 v) us []∧((∀y∈us,VI y=true)→x.cells.toList=us):=by
         by_cases hv:∃cs,v=.agg cs
         ·obtain⟨cs,rfl⟩:=hv
          simp only[XR]at hx;obtain⟨vs,rfl,hX⟩:=hx;exact⟨vs.toList,hX,λ_=>rfl⟩
         ·have e1:C2 v=[v]:=by cases v<;>first|rfl|exact absurd ⟨_,rfl⟩ hv
          rw[e1];refine⟨[x],?_,λh1=>by rw[Hh (h1 x (by simp))]⟩
          simp only[XRs];exact⟨x,[],[],[],rfl,rfl,hx,by simp⟩
        obtain⟨nd,g1,g2,g3,g4,g5,g6,g7⟩:=N4 hS (λ_ _ h=>h) hX hab
        have hu:=hcells g7;have hul:=XP g1;have hz:tz P t=some us.length:=by
         rw[hul];cases htk:tk P t with
         |agg q =>
          rw[htk]at hfit;rw[(dC htk).1];cases v<;>simp[dh]at hfit;rw[hfit]
         |one =>
          rw[htk]at hfit;rw[(WD htk).1];cases v<;>simp[dh]at hfit<;>rw[hfit]
         |bad=>rw[htk]at hfit;cases v<;>simp[dh]at hfit
        have hj1:kg K1 j=some (.lst m rows):=by
         obtain⟨e,he⟩:=Option.isSome_iff_exists.1 hjs;have:=g4 j e he;rw[hj]at this;rw[he,this]
        obtain⟨bl,hbl,hv⟩:=Fg hS hj hp;obtain⟨bl',hbl',hW,hR,hb⟩:=hS.mem hj (by simp only[QE.rows];rintro rfl;simp at hi)
        obtain rfl:bl=bl':=by rw[hbl]at hbl';injection hbl'
        simp only[QE.rows,QE.n,QE.E]at hR hW hv;obtain⟨nb0,hr0,_,_⟩:=Ti hR hi;have hro:(i+1)*m≤rows.length*m:=Nat.mul_le_mul_right m hi;have hro':(i+1)*m=i*m+m:=Nat.succ_mul i m;obtain⟨w',hr,hP⟩:=ER (P:=P) (b:=bl) (off:=i*m+o) us 0 hW (by omega) g7
        have hP':Put w w' bl (i*m+o) us:=by simpa using hP
        obtain⟨hc1,hc2⟩:=NO hP';have hjO:OO K ρ Y bl:=.inr ⟨j,_,hj,ED hbl⟩;have same:Same (OO K ρ Y) EN w (OO K ρ Y) EN w' :=
         ⟨Nat.le_of_eq hP.size.symm,λb hb _=>hP.block b (λh=>hb (h▸hjO)),λb hb _ h=>hb h,Qg _,λ_ _ _ h=>h,λ_ _ _ _ _ _ _ h=>hP.whole h⟩
        have hnd:=hS.sees.nd j _ hj;have hne:∀b∈(ρ j).2,w'.heap[b]?=w.heap[b]?:=λb hb=>hP.block b (λh=>by
         subst h;simp[fp,hbl]at hnd;exact hnd.1 hb)
        have hne2:∀b∈nd,w'.heap[b]?=w.heap[b]?:=λb hb=>hP.block b (λh=>by
         subst h;obtain⟨i',e1,q1,q2,q3⟩:=g5 b hb;have hij:i'≠j:=λh=>by subst h;rw[hj1]at q2;cases q2
         exact hS.sees.dj i' e1 j _ b q1 hj hij q3 (ED hbl))
        obtain⟨nb',hR',hs⟩:=kC (nd:=nd) same (r':=putCells (VJ rows i) o (nz ns ds)) (by simp[putCells,KL];omega) (rs:=rows) (bl:=bl) (off:=0) (nb:=(ρ j).2) hi
         (λk hk=>by
          rw[Nat.zero_add];refine hc1 k ?_
          rcases hk with hk|hk
          ·exact .inl (by omega)
          ·exact .inr (by omega)) hne (λq hq hC=>by
          rw[Nat.zero_add]at hC ⊢;exact QfH same (by rw[KL];exact hl) (λz hz=>by
           rcases hz with hz|hz
           ·exact hc1 _ (.inl (by omega))
           ·exact hc1 _ (.inr (by omega))) (λz hz=>by rw[Nat.add_assoc];rw[←Nat.add_assoc];exact hc2 z hz) (Y4 g1) g7 (λb hb=>hne b (hq.subset hb)) hne2 hC) hR
        obtain⟨ρ',hS'⟩:=hS.wroteA (K1:=K1) (e':=.lst m (rows.set i (putCells (VJ rows i) o (nz ns ds)))) (nd:=nd) (nb':=nb') g3 g4 hj1 hbl hP' rfl (by simp[QE.rows]) rfl rfl (by simpa[QE.rows,QE.n,QE.E]using hR') g5 g6 hs
        refine⟨_,ρ',w',?_,hS',h⟩;simp only[Instr.storeAt,Instr.sureAddr,hv,Sem.run_bind,Sem.run_pure,Result.andThen_ok,storeVar,Xb hz];rw[if_neg (by rw[←hu];simp)]
        rw[hu];exact hr
       ·exact h.elim
      ·exact h.elim
     ·exact h.elim
    ·exact h.elim
  ·exact bD hS h hp hx
 ·exact h.elim
end
mutual
theorem J3:∀(rs:List (List AV)),(Vc rs).length=rs.length
 |[]=>rfl
 |r::rs=>by simp[Vc,J3 rs]
theorem IL:∀(cs:List AV),(Xp cs).length=cs.length
 |[]=>rfl
 |c::cs=>by simp[Xp,IL cs]
end
section
variable{P:Program}{n:NE}{Y:Nat→Prop}{w0:World}{F0:Nat→Prop}{ρ:Dl}{f:Fr}{K:KS}{a:Act}{w:World}
abbrev FF:Nat→Prop:=λ_=>False
abbrev TT:Nat→Prop:=λ_=>True
def gr{O:Nat→Prop}{E:EI}(w:World):Same O E w FF E w :=
 ⟨Qg _,λ_ _ _=>rfl,λ_ _ _ h=>h,Qg _,λ_ _ _ h=>h,λ_ _ _ _ _ _ _ h=>h⟩
mutual
theorem qR{O:Nat→Prop}:∀(c:AV) {v:Value} {nb:List Nat},XR w O EN c v nb→XR w FF EN (XQ c) v []
 |.own n rows,v,nb,h=>by
  simp only[XR]at h;simp only[XQ,XR,true_and];have hl:(Vc rows).length=rows.length:=J3 rows
  rcases h with⟨rfl,⟨q,rfl⟩,_⟩|⟨bl,n',cap,rfl,h1,h2,h3,h4⟩
  ·exact⟨q,0,by simp[Vc],by simp[Vc],.inl (by simp[Vc])⟩
  refine⟨_,cap,by rw[hl];exact h1,by omega,.inr ⟨bl,0,rfl,id,h3.lt,Ko rows h4⟩⟩
 |.u,v,nb,h=>by simp[XQ,XR]
 |.b _,v,nb,h=>by simp only[XR]at h;simp[XQ,XR,h.1]
 |.i _ _,v,nb,h=>by simp only[XR]at h;simp[XQ,XR,h.1]
 |.s _,v,nb,h=>by simp only[XR]at h;simp[XQ,XR,h.1]
 |.nil,v,nb,h=>by simp only[XR]at h;simp only[XQ,XR];exact⟨h.1,trivial⟩
 |.z,v,nb,h=>by simp only[XR]at h;simp only[XQ,XR];exact⟨h.1,trivial⟩
 |.imm _ _,v,nb,h=>by
  have:=XR.mono _ (gr (O:=O) (E:=EN) w) v nb (λ_ _=>rfl) h
  simp only[XR]at h;obtain⟨rfl,_⟩:=h;exact this
 |.iptr _ _ _ _,v,nb,h=>by
  have:=XR.mono _ (gr (O:=O) (E:=EN) w) v nb (λ_ _=>rfl) h
  simp only[XR]at h;obtain⟨rfl,_⟩:=h;exact this
 |.sl _,v,nb,h=>by simp only[XR]at h;exact absurd h.2.1 (by simp[EN])
 |.ptr _ _ _,v,nb,h=>by simp only[XR]at h;exact absurd h.2.1 (by simp[EN])
 |.agg _,v,nb,h=>by simp[XQ,XR]
 |.tup _,v,nb,h=>by simp[XQ,XR]
 |.clo _ _,v,nb,h=>by simp[XQ,XR]
theorem Yx{O:Nat→Prop}:∀(cs:List AV) {bl o:Nat} {nb:List Nat},CR w O EN bl o cs nb→CR w FF EN bl o (Xp cs) []
 |[],bl,o,nb,h=>by simp[Xp,CR]
 |c::cs,bl,o,nb,h=>by
  simp only[CR]at h;obtain⟨v,n1,n2,h1,rfl,h3,h4⟩:=h;simp only[Xp,CR];exact⟨v,[],[],h1,rfl,qR c h3,Yx cs h4⟩
theorem Ko{O:Nat→Prop}:∀(rs:List (List AV)) {m bl off:Nat} {nb:List Nat},RR w O EN m bl off rs nb→RR w FF EN m bl off (Vc rs) []
 |[],m,bl,off,nb,h=>by simp[Vc,RR]
 |r::rs,m,bl,off,nb,h=>by
  simp only[RR]at h;obtain⟨n1,n2,rfl,h2,h3,h4⟩:=h;simp only[Vc,RR];exact⟨[],[],rfl,by rw[IL];exact h2,Yx r h3,Ko rs h4⟩
end
def gl(hS:Sees w (OO K ρ Y) K ρ){j:Nat}{x:Value}(h:XR w (OO K ρ Y) (EK K ρ) (.sl j) x []):XR w FF EN (bq K j) x []:=by
 unfold bq
 split
 ·rename_i m rows hj
  simp only[XR]at h;have hreg:=hS.reg j _ hj;simp only[XR,true_and];cases hb:(ρ j).1 with
  |none =>
   rw[hb]at hreg;have h0:rows=[]:=hreg.1;subst h0;obtain⟨q,rfl⟩:=h.2.2.1 m 0 (by simp[EK,hj,QE.n,QE.rows,hb])
   exact⟨q,0,rfl,by simp[Vc],.inl rfl⟩
  |some b =>
   rw[hb]at hreg;obtain⟨cap,rfl,h1,h2⟩:=h.2.2.2 b m rows.length (by simp[EK,hj,QE.n,QE.rows,hb])
   obtain⟨hW,hR,_⟩:=hreg;exact⟨_,cap,by rw[J3],by rw[J3];exact h1,.inr ⟨b,0,rfl,id,hW.lt,Ko rows hR⟩⟩
 ·simp[XR]
def vu(hS:Sees w (OO K ρ Y) K ρ){c:AV}{x:Value}(h:XR w (OO K ρ Y) (EK K ρ) c x []):XR w FF EN (Mk K c) x []:=by
 unfold Mk
 split
 ·exact gl hS h
 ·split
  ·rename_i hc
   exact SZ hc (XR.mono _ (gr (O:=OO K ρ Y) (E:=EK K ρ) w) x [] (λ_ _=>rfl) h)
  ·simp[XR]
def bW(hS:Sees w (OO K ρ Y) K ρ):∀{cs:List AV} {bl o:Nat},CR w (OO K ρ Y) (EK K ρ) bl o cs []→CR w FF EN bl o (cs.map (Mk K)) []
 |[],bl,o,h=>by simp[CR]
 |c::cs,bl,o,h=>by
  simp only[CR]at h;obtain⟨v,n1,n2,h1,h2,h3,h4⟩:=h;obtain⟨rfl,rfl⟩:=List.append_eq_nil_iff.1 h2.symm;simp only[List.map_cons,CR];exact⟨v,[],[],h1,rfl,vu hS h3,bW hS h4⟩
def ub(hS:Sees w (OO K ρ Y) K ρ){j i o:Nat}{x:Value}(h:XR w (OO K ρ Y) (EK K ρ) (.ptr j i o) x []):XR w FF EN (uZ K j i o) x []:=by
 have key:∀e,kg K j=some e→∃b,(ρ j).1=some b∧x=.pointer (some ⟨b,i*e.n+o,none⟩):=by
  intro e hj;simp only[XR]at h;cases hb:(ρ j).1 with
  |none=>exact(h.2.2.1 e.n e.rows.length (by simp[EK,hj,hb])).elim
  |some b=>exact⟨b,rfl,h.2.2.2 b e.n e.rows.length (by simp[EK,hj,hb])⟩
 unfold uZ
 split
 ·rename_i m rows hj
  obtain⟨b,hb,rfl⟩:=key _ hj;have hreg:=hS.reg j _ hj;rw[hb]at hreg;obtain⟨hW,hR,_⟩:=hreg;simp only[XR,true_and];exact⟨b,0,by simp[QE.n],id,hW.lt,Ko rows hR⟩
 ·rename_i cs hj
  obtain⟨b,hb,rfl⟩:=key _ hj;have hreg:=hS.reg j _ hj;rw[hb]at hreg;obtain⟨hW,hR,hbx⟩:=hreg;have h0:=hbx rfl;rw[h0]at hR;simp only[QE.rows,QE.n,QE.E,RR]at hR;obtain⟨n1,n2,h2,_,hC,rfl⟩:=hR;obtain⟨rfl,_⟩:=List.append_eq_nil_iff.1 h2.symm;simp only[XR,true_and,RR];exact⟨b,0,by simp[QE.n],id,hW.lt,[],[],rfl,by simp,bW hS hC,rfl⟩
 ·simp[XR]
mutual
theorem zY(hS:Sees w (OO K ρ Y) K ρ):∀(v:AV) {x:Value},XR w (OO K ρ Y) (EK K ρ) v x []→XR w FF EN (DE K v) x []
 |.sl j,x,h=>by simp only[DE];exact gl hS h
 |.u,x,h=>by simp[DE,XR]
 |.b _,x,h=>by simpa only[DE,XR]using h
 |.i _ _,x,h=>by simpa only[DE,XR]using h
 |.s _,x,h=>by simpa only[DE,XR]using h
 |.nil,x,h=>by simpa only[DE,XR]using h
 |.z,x,h=>by simpa only[DE,XR]using h
 |.imm n rows,x,h=>by
  have:=XR.mono _ (gr (O:=OO K ρ Y) (E:=EK K ρ) w) x [] (λ_ _=>rfl) h
  simpa only[DE,XR]using this
 |.iptr n rows i o,x,h=>by
  have:=XR.mono _ (gr (O:=OO K ρ Y) (E:=EK K ρ) w) x [] (λ_ _=>rfl) h
  simpa only[DE,XR]using this
 |.own n rows,x,h=>by
  simp only[XR]at h
  rcases h with⟨rfl,⟨q,rfl⟩,_⟩|⟨_,_,_,h,_⟩
  ·simp[DE,XR]
  ·cases h
 |.ptr j i o,x,h=>by simp only[DE];exact ub hS h
 |.agg cs,x,h=>by
  simp only[DE,XR]at h ⊢;obtain⟨vs,h1,h2⟩:=h;exact⟨vs,h1,M3 hS cs h2⟩
 |.tup cs,x,h=>by
  simp only[DE,XR]at h ⊢;obtain⟨vs,h1,h2⟩:=h;exact⟨vs,h1,M3 hS cs h2⟩
 |.clo g cs,x,h=>by
  simp only[DE,XR]at h ⊢;obtain⟨_,vs,h1,h2⟩:=h;exact⟨trivial,vs,h1,M3 hS cs h2⟩
theorem M3(hS:Sees w (OO K ρ Y) K ρ):∀(vs:List AV) {xs:List Value},XRs w (OO K ρ Y) (EK K ρ) vs xs []→XRs w FF EN (G9 K vs) xs []
 |[],xs,h=>by simpa only[G9,XRs]using h
 |v::vs,xs,h=>by
  simp only[G9,XRs]at h ⊢;obtain⟨x,xs',n1,n2,h1,h2,h3,h4⟩:=h;obtain⟨rfl,rfl⟩:=List.append_eq_nil_iff.1 h2.symm;exact⟨x,xs',[],[],h1,rfl,zY hS v h3,M3 hS vs h4⟩
end
def Fresh(w:World):KS→List (Option Nat×List Nat)→List Nat→Prop
 |[],bs,nb=>bs=[]∧nb=[]
 |none::K,bs,nb=>False
 |some e::K,bs,nb=>∃b n1 bs' n2,bs=(b,n1)::bs'∧nb=(b.toList++n1)++n2∧Reg w TT EN e b n1∧(∃m rows,e=.lst m rows)∧Fresh w K bs' n2
def Fresh.append{K1 K2:KS}:∀{b1 b2:List (Option Nat×List Nat)} {n1 n2:List Nat},Fresh w K1 b1 n1→Fresh w K2 b2 n2→Fresh w (K1++K2) (b1++b2) (n1++n2):=by
 induction K1 with
 |nil=>intro b1 b2 n1 n2 h1 h2;simp only[Fresh]at h1;obtain⟨rfl,rfl⟩:=h1;simpa using h2
 |cons x K1 ih =>
  intro b1 b2 n1 n2 h1 h2;cases x with
  |none=>exact h1.elim
  |some e =>
   simp only[Fresh]at h1;obtain⟨b,m1,bs',m2,rfl,rfl,h3,h4,h5⟩:=h1;simp only[List.cons_append,Fresh];exact⟨b,m1,bs'++b2,m2++n2,rfl,by simp,h3,h4,ih h5 h2⟩
def Fresh.length{K1:KS}:∀{b1:List (Option Nat×List Nat)} {n1:List Nat},Fresh w K1 b1 n1→b1.length=K1.length:=by
 induction K1 with
 |nil=>intro b1 n1 h;simp only[Fresh]at h;simp[h.1]
 |cons x K1 ih =>
  intro b1 n1 h;cases x with
  |none=>exact h.elim
  |some e=>simp only[Fresh]at h;obtain⟨b,m1,bs',m2,rfl,rfl,h3,h4,h5⟩:=h;simp[ih h5]
def Knows(E:EI)(m:Nat)(K:KS)(bs:List (Option Nat×List Nat)):Prop :=
 m+K.length≤E.sz∧∀i e,kg K i=some e→∀q,E.of (m+i)=some q→∃p,bs[i]?=some p∧q=(p.1,e.n,e.rows.length)
def Knows.left{E:EI}{m:Nat}{K1 K2:KS}{b1 b2:List (Option Nat×List Nat)}(hl:b1.length=K1.length)(h:Knows E m (K1++K2) (b1++b2)):Knows E m K1 b1:=by
 refine⟨by have:=h.1;simp at this;omega,λi e hi q hq=>?_⟩
 have hil:=Gr hi;obtain⟨p,h1,h2⟩:=h.2 i e (by simpa[kg,List.getD,List.getElem?_append_left hil]using hi) q hq
 exact⟨p,by rwa [List.getElem?_append_left (by omega)]at h1,h2⟩
def Knows.right{E:EI}{m:Nat}{K1 K2:KS}{b1 b2:List (Option Nat×List Nat)}(hl:b1.length=K1.length)(h:Knows E m (K1++K2) (b1++b2)):Knows E (m+K1.length) K2 b2:=by
 refine⟨by have:=h.1;simp at this;omega,λi e hi q hq=>?_⟩
 obtain⟨p,h1,h2⟩:=h.2 (K1.length+i) e (by simpa[kg,List.getD,List.getElem?_append_right]using hi) q (by rw[←Nat.add_assoc];exact hq)
 exact⟨p,by rw[List.getElem?_append_right (by omega)]at h1;rwa [show K1.length+i-b1.length=i by omega]at h1,h2⟩
mutual
theorem cV:∀(x:AV) (m:Nat) {v:Value} {nb:List Nat},XR w TT EN x v nb →
  ∃bs,Fresh w (X2 m x).2 bs nb∧∀(O:Nat→Prop) (E:EI),Knows E m (X2 m x).2 bs→XR w O E (X2 m x).1 v []
 |.own k rows,m,v,nb,h=>by
  simp only[XR]at h
  rcases h with⟨rfl,⟨q,rfl⟩,rfl⟩|⟨bl,n',cap,rfl,h1,h2,h3,h4⟩
  ·refine⟨[(none,[])],?_,λO E hE=>?_⟩
   ·simp only[X2,Fresh]
    exact⟨none,[],[],[],rfl,rfl,⟨rfl,rfl⟩,⟨_,_,rfl⟩,rfl,rfl⟩
   ·simp only[X2,XR,true_and]
    refine⟨by have:=hE.1;simp[X2]at this;omega,λ_ _ _=>⟨q,rfl⟩,λb' k' len' he=>?_⟩
    obtain⟨p,h5,h6⟩:=hE.2 0 (.lst k []) (by simp[X2,kg]) _ he
    simp at h5;subst h5;injection h6 with e1 h6;cases e1
  refine⟨[(some bl,n')],?_,λO E hE=>?_⟩
  ·simp only[X2,Fresh]
   exact⟨some bl,n',[],[],rfl,by simp,⟨h3.le (Nat.mul_le_mul_right k h2),h4,λh=>by cases h⟩,⟨_,_,rfl⟩,rfl,rfl⟩
  ·simp only[X2,XR,true_and]
   refine⟨by have:=hE.1;simp[X2]at this;omega,λk' len' he=>?_,λb' k' len' he=>?_⟩
   ·obtain⟨p,h5,h6⟩:=hE.2 0 (.lst k rows) (by simp[X2,kg]) _ he
    simp at h5;subst h5;injection h6 with e1 h6;cases e1
   obtain⟨p,h5,h6⟩:=hE.2 0 (.lst k rows) (by simp[X2,kg]) _ he
   simp at h5;subst h5;simp only[QE.n,QE.rows]at h6;injection h6 with e1 h6;injection h6 with e2 e3;injection e1 with e1
   subst e1 e2 e3;exact⟨cap,h1,h2,h3⟩
 |.agg cs,m,v,nb,h=>by
  simp only[XR]at h;obtain⟨vs,rfl,h1⟩:=h;obtain⟨bs,h2,h3⟩:=Yj cs m h1;refine⟨bs,by simpa only[X2]using h2,λO E hE=>?_⟩
  simp only[X2,XR];exact⟨vs,rfl,h3 O E (by simpa only[X2]using hE)⟩
 |.tup cs,m,v,nb,h=>by
  simp only[XR]at h;obtain⟨vs,rfl,h1⟩:=h;obtain⟨bs,h2,h3⟩:=Yj cs m h1;refine⟨bs,by simpa only[X2]using h2,λO E hE=>?_⟩
  simp only[X2,XR];exact⟨vs,rfl,h3 O E (by simpa only[X2]using hE)⟩
 |.u,m,v,nb,h=>by simp only[XR]at h;exact⟨[],by simp[X2,Fresh,h],λO E _=>by simp[X2,XR]⟩
 |.b _,m,v,nb,h=>by simp only[XR]at h;exact⟨[],by simp[X2,Fresh,h],λO E _=>by simp[X2,XR,h]⟩
 |.i _ _,m,v,nb,h=>by simp only[XR]at h;exact⟨[],by simp[X2,Fresh,h],λO E _=>by simp[X2,XR,h]⟩
 |.s _,m,v,nb,h=>by simp only[XR]at h;exact⟨[],by simp[X2,Fresh,h],λO E _=>by simp[X2,XR,h]⟩
 |.nil,m,v,nb,h=>by simp only[XR]at h;exact⟨[],by simp[X2,Fresh,h],λO E _=>by simp only[X2,XR];exact⟨h.1,trivial⟩⟩
 |.z,m,v,nb,h=>by simp only[XR]at h;exact⟨[],by simp[X2,Fresh,h],λO E _=>by simp only[X2,XR];exact⟨h.1,trivial⟩⟩
 |.imm k rows,m,v,nb,h=>by
  simp only[XR]at h;obtain⟨rfl,a',cap,h1,h2,h3⟩:=h;refine⟨[],by simp[X2,Fresh],λO E _=>?_⟩
  simp only[X2,XR,true_and];refine⟨a',cap,h1,h2,?_⟩
  rcases h3 with h3|⟨_,_,_,h3,_⟩
  ·exact .inl h3
  ·exact absurd trivial h3
 |.iptr _ _ _ _,m,v,nb,h=>by simp only[XR]at h;obtain⟨_,_,_,_,h,_⟩:=h;exact absurd trivial h
 |.sl _,m,v,nb,h=>by simp only[XR]at h;exact absurd h.2.1 (by simp[EN])
 |.ptr _ _ _,m,v,nb,h=>by simp only[XR]at h;exact absurd h.2.1 (by simp[EN])
 |.clo g cs,m,v,nb,h=>by simp only[XR]at h;obtain⟨rfl,_⟩:=h;exact⟨[],by simp[X2,Fresh],λO E _=>by simp[X2,XR]⟩
theorem Yj:∀(xs:List AV) (m:Nat) {vs:List Value} {nb:List Nat},XRs w TT EN xs vs nb →
  ∃bs,Fresh w (FG m xs).2 bs nb∧∀(O:Nat→Prop) (E:EI),Knows E m (FG m xs).2 bs→XRs w O E (FG m xs).1 vs []
 |[],m,vs,nb,h=>by
  simp only[XRs]at h;exact⟨[],by simp[FG,Fresh,h.2],λO E _=>by simp[FG,XRs,h.1]⟩
 |x::xs,m,vs,nb,h=>by
  simp only[XRs]at h;obtain⟨v,vs',n1,n2,rfl,rfl,h3,h4⟩:=h;obtain⟨b1,h5,h6⟩:=cV x m h3;obtain⟨b2,h7,h8⟩:=Yj xs (m+(X2 m x).2.length) h4;refine⟨b1++b2,by simp only[FG];exact h5.append h7,λO E hE=>?_⟩
  simp only[FG]at hE;simp only[FG,XRs];exact⟨v,vs',[],[],rfl,rfl,h6 O E (hE.left h5.length),h8 O E (hE.right h5.length)⟩
end
def Sim.liftM[Wd]{ρ':Dl}{K':KS}{w':World}(h:Sim n Y w0 F0 ρ f K a w)
  (hs:Same (OO K ρ Y) (EK K ρ) w (OO K' ρ' Y) (EK K' ρ') w') (J:Nat→Prop)
  (hold:∀j e,kg K' j=some e→¬J j→kg K j=some e∧ρ' j=ρ j∧∀b∈fp ρ j,w'.heap[b]?=w.heap[b]?)
  (hnew:∀j e,kg K' j=some e→J j→Reg w' (OO K' ρ' Y) (EK K' ρ') e (ρ' j).1 (ρ' j).2∧(fp ρ' j).Nodup∧(∀b∈fp ρ' j,b<w'.heap.size∧w.heap.size≤b))
  (hdj:∀i e j e' b,kg K' i=some e→kg K' j=some e'→J i→J j→i≠j→b∈fp ρ' i→b∉fp ρ' j)
  (hext:Ext F0 w0 w'):Sim n Y w0 F0 ρ' f K' a w':=by
 refine⟨h.defers,h.size,hs.keep h.keep,λt=>XR.mono (f t) hs _ _ (by simp) (h.fr t),⟨?_,?_,?_,?_⟩,hext,?_,h.yl⟩
 ·intro j e hj
  by_cases hJ:J j
  ·exact(hnew j e hj hJ).1
  ·obtain⟨h1,h2,h3⟩:=hold j e hj hJ
   have hr:=h.sees.reg j e h1;rw[h2];have hE:Same (OO K ρ Y) (e.E (EK K ρ)) w (OO K' ρ' Y) (e.E (EK K' ρ')) w':=by
    cases e with
    |box cs=>exact hs
    |lst n rows=>exact hs.en
   exact Reg.mono hE (λb hb=>h3 b (ED hb)) (λb hb=>h3 b (FO hb)) hr
 ·intro j e hj
  by_cases hJ:J j
  ·exact(hnew j e hj hJ).2.1
  ·obtain⟨h1,h2,h3⟩:=hold j e hj hJ
   have:=h.sees.nd j e h1;unfold fp at *;rw[h2];exact this
 ·intro j e b hj hb
  by_cases hJ:J j
  ·exact((hnew j e hj hJ).2.2 b hb).1
  ·obtain⟨h1,h2,h3⟩:=hold j e hj hJ
   unfold fp at hb;rw[h2]at hb;exact Nat.lt_of_lt_of_le (h.sees.lt j e b h1 hb) hs.size
 ·have key:∀k e' j e,kg K' k=some e'→kg K' j=some e→¬J k→J j→∀b∈fp ρ' j,b∉fp ρ' k:=by
   intro k e' j e hk hj hkJ hJ b hb hbk;obtain⟨h1,h2,h3⟩:=hold k e' hk hkJ;have hbk':b∈fp ρ k:=by unfold fp at hbk ⊢;rw[h2]at hbk;exact hbk
   have h4:=((hnew j e hj hJ).2.2 b hb).2;have:=h.sees.lt k e' b h1 hbk';omega
  intro j e k e' b hj hk hjk hb hbk;by_cases hJ:J j
  ·by_cases hJk:J k
   ·exact hdj j e k e' b hj hk hJ hJk hjk hb hbk
   ·exact key k e' j e hk hj hJk hJ b hb hbk
  ·by_cases hJk:J k
   ·exact key j e k e' hj hk hJ hJk b hbk hb
   ·obtain⟨h1,h2,_⟩:=hold j e hj hJ
    obtain⟨h3,h4,_⟩:=hold k e' hk hJk;unfold fp at hb hbk;rw[h2]at hb;rw[h4]at hbk;exact h.sees.dj j e k e' b h1 h3 hjk hb hbk
 ·intro j e b hj hb
  by_cases hJ:J j
  ·exact .inr (Nat.le_trans h.ext.size ((hnew j e hj hJ).2.2 b hb).2)
  ·obtain⟨h1,h2,h3⟩:=hold j e hj hJ
   unfold fp at hb;rw[h2]at hb;exact h.new j e b h1 hb
def KI(K K2:KS)(i:Nat):kg (K++K2) i=if i<K.length then kg K i else kg K2 (i-K.length):=by
 unfold kg;by_cases h:i<K.length
 ·simp[List.getD,List.getElem?_append_left h,h]
 ·simp[List.getD,List.getElem?_append_right (show K.length≤i by omega),h]
def Fresh.at{K2:KS}:∀{bs:List (Option Nat×List Nat)} {nb:List Nat} {i:Nat} {e:QE},Fresh w K2 bs nb→nb.Nodup→kg K2 i=some e →
  ∃p,bs[i]?=some p∧Reg w TT EN e p.1 p.2∧(∃m rows,e=.lst m rows)∧(p.1.toList++p.2).Nodup∧(∀b∈p.1.toList++p.2,b∈nb):=by
 induction K2 with
 |nil=>intro bs nb i e h _ hi;simp[kg,List.getD]at hi
 |cons x K2 ih =>
  intro bs nb i e h hn hi;cases x with
  |none=>exact h.elim
  |some e0 =>
   simp only[Fresh]at h;obtain⟨b,m1,bs',m2,rfl,rfl,h3,h4,h5⟩:=h;rw[List.nodup_append]at hn;cases i with
   |zero =>
    simp[kg,List.getD]at hi;subst hi;exact⟨(b,m1),rfl,h3,h4,hn.1,λx hx=>by simp at hx ⊢;rcases hx with hx|hx<;>simp[hx]⟩
   |succ i =>
    obtain⟨p,h6,h7,h8,h9,h10⟩:=ih (i:=i) h5 hn.2.1 (by simpa[kg,List.getD]using hi)
    exact⟨p,by simpa using h6,h7,h8,h9,λx hx=>by have:=h10 x hx;simp[this]⟩
def Fresh.dj{K2:KS}:∀{bs:List (Option Nat×List Nat)} {nb:List Nat} {i j:Nat} {p q:Option Nat×List Nat} {e e':QE},Fresh w K2 bs nb→nb.Nodup→kg K2 i=some e→kg K2 j=some e'→i≠j→bs[i]?=some p→bs[j]?=some q →
  ∀b∈p.1.toList++p.2,b∉q.1.toList++q.2:=by
 induction K2 with
 |nil=>intro bs nb i j p q e e' h _ hi;simp[kg,List.getD]at hi
 |cons x K2 ih =>
  intro bs nb i j p q e e' h hn hi hj hij hp hq;cases x with
  |none=>exact h.elim
  |some e0 =>
   simp only[Fresh]at h;obtain⟨b,m1,bs',m2,rfl,rfl,h3,h4,h5⟩:=h;have hn':=hn;rw[List.nodup_append]at hn';cases i with
   |zero =>
    cases j with
    |zero=>exact absurd rfl hij
    |succ j =>
     simp at hp hq;subst hp;obtain⟨p',h6,_,_,_,h10⟩:=h5.at (i:=j) hn'.2.1 (by simpa[kg,List.getD]using hj)
     rw[hq]at h6;injection h6 with h6;subst h6
     intro x hx hx';exact hn'.2.2 x hx x (h10 x hx') rfl
   |succ i =>
    cases j with
    |zero =>
     simp at hp hq;subst hq;obtain⟨p',h6,_,_,_,h10⟩:=h5.at (i:=i) hn'.2.1 (by simpa[kg,List.getD]using hi)
     rw[hp]at h6;injection h6 with h6;subst h6
     intro x hx hx';exact hn'.2.2 x hx' x (h10 x hx) rfl
    |succ j=>exact ih (i:=i) (j:=j) h5 hn'.2.1 (by simpa[kg,List.getD]using hi) (by simpa[kg,List.getD]using hj) (by omega) (by simpa using hp) (by simpa using hq)
def Sim.import[Wd](hS:Sim n Y w0 F0 ρ f K a w){w':World}(hE:Ext FF w w'){x:AV}{v:Value}{nb:List Nat}(hx:XR w' TT EN x v nb)(hn:nb.Nodup)(hb:∀b∈nb,w.heap.size≤b∧b<w'.heap.size) :
  ∃ρ',Sim n Y w0 F0 ρ' f (K++(X2 K.length x).2) a w'∧XR w' (OO (K++(X2 K.length x).2) ρ' Y) (EK (K++(X2 K.length x).2) ρ') (X2 K.length x).1 v []:=by
 obtain⟨bs,hF,hk⟩:=cV x K.length hx;generalize hK2:(X2 K.length x).2=K2 at hF hk ⊢;have hbl:=hF.length
 let ρ':Dl:=λi=>if i<K.length then ρ i else bs.getD (i-K.length) (none,[])
 have hat:∀i e,kg K2 i=some e→bs[i]?=some (ρ' (K.length+i))∧ρ' (K.length+i)=bs.getD i (none,[]):=λi e hi=>by
  obtain⟨p,hp,_⟩:=hF.at hn hi;have hni:¬(K.length+i<K.length):=by omega
  have:ρ' (K.length+i)=p:=by simp only[ρ',hni,if_false,List.getD];rw[show K.length+i-K.length=i by omega,hp];rfl
  exact⟨by rw[this];exact hp,by simp only[ρ',hni,if_false];rw[show K.length+i-K.length=i by omega]⟩
 have hO:∀b,b<w.heap.size→OO (K++K2) ρ' Y b→OO K ρ Y b:=by
  rintro b hlt (h|⟨i,e,hi,hb'⟩)
  ·exact .inl h
  ·rw[KI]at hi
   by_cases hik:i<K.length
   ·rw[if_pos hik]at hi
    exact .inr ⟨i,e,hi,by simpa[fp,ρ',hik]using hb'⟩
   ·rw[if_neg hik]at hi
    obtain⟨p,hp,_,_,_,h10⟩:=hF.at hn hi;have h1:=(hat _ e hi).1;rw[show K.length+(i-K.length)=i by omega]at h1
    rw[hp]at h1;injection h1 with h1
    have h2:b∈nb:=h10 b (by rw[h1];exact hb')
    have h3:=(hb b h2).1;exact absurd hlt (by omega)
 have hsame:Same (OO K ρ Y) (EK K ρ) w (OO (K++K2) ρ' Y) (EK (K++K2) ρ') w':=by
  refine⟨hE.size,λb hb hlt=>hE.block b hlt id,λb hb hlt h=>hb (hO b hlt h),by simp[EK],λj p hj hp=>?_,λ_ _ _ _ _ _ _ h=>h.same (hE.block _ h.lt id)⟩
  simp only[EK]at hj hp ⊢;rw[KI,if_pos hj]at hp;simpa[ρ',hj]using hp
 have hlift:=hS.liftM hsame (λj=>K.length≤j) (λj e hj hJ=>by
   rw[KI,if_pos (by omega)]at hj
   exact⟨hj,by simp[ρ',show j<K.length by omega],λb hb=>hE.block b (hS.sees.lt j e b hj hb) id⟩)
  (λj e hj hJ=>by
   have hj0:=hj;rw[KI,if_neg (by omega)]at hj
   obtain⟨p,hp,hR,⟨m,rows,rfl⟩,hnd,h10⟩:=hF.at hn hj;have h1:=(hat _ _ hj).1;rw[show K.length+(j-K.length)=j by omega]at h1
   rw[hp]at h1;injection h1 with h1
   have e1:fp ρ' j=p.1.toList++p.2:=by simp[fp,h1]
   rw[←h1,e1];refine⟨?_,hnd,λb hb'=>⟨(hb b (h10 b hb')).2,(hb b (h10 b hb')).1⟩⟩
   have hw:Same TT EN w' (OO (K++K2) ρ' Y) EN w':=⟨Qg _,λ_ h=>absurd trivial h,λ_ h=>absurd trivial h,Qg _,λ_ _ _ h=>h,λ_ _ _ _ _ _ _ h=>h⟩
   exact Reg.mono hw (λ_ _=>rfl) (λ_ _=>rfl) hR)
  (λi e j e' b hi hj hJi hJj hij hb1 hb2=>by
   rw[KI,if_neg (by omega)]at hi hj
   have h1:=(hat _ _ hi).1;have h2:=(hat _ _ hj).1;rw[show K.length+(i-K.length)=i by omega]at h1
   rw[show K.length+(j-K.length)=j by omega]at h2
   exact hF.dj hn hi hj (by omega) h1 h2 b hb1 hb2)
  (hS.ext.trans hE (λ_ h=>h) (λ_ _ h=>h.elim))
 refine⟨ρ',hlift,hk _ _ ⟨by simp[EK],λi e hi q hq=>?_⟩⟩
 simp only[EK]at hq;rw[KI,if_neg (by omega),show K.length+i-K.length=i by omega,hi]at hq
 simp at hq;exact⟨_,(hat i e hi).1,hq.symm⟩
end
end Go.Proofs.YtfhnbabcbhgffaaGreatDoor.Am
