import Derived.Test.YtonidbheohhgdaaGreatPz2
import Derived.Test.YtonidbheohhgdaaGreatPz6
namespace Go.Proofs.YtonidbheohhgdaaGreat
open Go
set_option linter.unusedVariables false
set_option linter.unusedSimpArgs false
theorem VH.ok{a:House}(h:VH a):FOk a:=by
 have:=Qtu a h.1 (QuX a h.1 h.2);exact⟨h.1.1,h.1.2.2.1,this.fI⟩
theorem Qp5(l:List Int)(x y:Int)(hl:l.length≤1048576):∃b,QcG l x y=some b:=by
 obtain⟨b,h1,_,_⟩:=QaK (n:=l.length) (r:=false) (s1:=JM l x y) (s2:=JM l x y) (fun i hi _=>by
   simp only[JM,Qc,Qr hi,Qe hi,Qn hi,Qy (show(i:Int)<9223372036854775807 by omega),cond_true,Qa,Option.bind_some]
   by_cases h0:0<i
   ·simp only[show decide (0<(i:Int))=true from decide_eq_true (by omega),XX h0 (by omega),Qe (show i-1<l.length by omega),cond_true,Qa]
    cases (decide (x≤l[i])&&decide (l[i]≤y))<;>cases decide (l[i]≤gt l ((i-1:Nat):Int))<;>first|exact⟨true,rfl,rfl⟩|exact⟨false,rfl,rfl⟩
   ·simp only[show decide (0<(i:Int))=false from decide_eq_false (by omega),cond_false]
    cases (decide (x≤l[i])&&decide (l[i]≤y))<;>first|exact⟨true,rfl,rfl⟩|exact⟨false,rfl,rfl⟩)
  (by simp only[JM,Qv (Nat.le_refl _),cond_false]) (by simp only[JM,Qv (Nat.le_refl _),cond_false])
 unfold QcG;rw[h1];cases b with
 |true=>exact⟨true,rfl⟩
 |false=>exact⟨false,rfl⟩
theorem QvI(r:Report)(hm:Vs r):∃b,Qbn r=some b:=by
 obtain⟨p,hp⟩:=Qp5 r.Colours 0 7 hm.1;obtain⟨q,hq⟩:=Qp5 r.Places 1 30 hm.2;unfold Qbn Qee Qc;simp only[hp,hq,Option.bind_some];cases (decide (1≤r.Id)&&decide (r.Id≤999))with
 |false=>exact⟨false,rfl⟩
 |true =>
 cases (decide (1≤r.Kind)&&decide (r.Kind≤8))with
 |false=>exact⟨false,rfl⟩
 |true =>
 cases p with
 |false=>exact⟨false,rfl⟩
 |true =>
 cases decide (1≤r.SizeLow)with
 |false=>exact⟨false,rfl⟩
 |true =>
 cases decide (r.SizeLow≤r.SizeHigh)with
 |false=>exact⟨false,rfl⟩
 |true =>
 cases decide (r.SizeHigh≤50)with
 |false=>exact⟨false,rfl⟩
 |true =>
 cases q with
 |false=>exact⟨false,rfl⟩
 |true =>
 cases decide (ln r.Places≤10)with
 |false=>exact⟨false,rfl⟩
 |true =>
 cases (decide (0≤r.Span.From)&&decide (r.Span.From≤100000))with
 |false=>exact⟨false,rfl⟩
 |true=>exact⟨_,rfl⟩
theorem QIq(r:Report)(f:Find)(hm:Vs r):∃b,Qdz r f=some b:=by
 obtain⟨p,hp⟩:=QvI r hm;obtain⟨q,hq,_,_⟩:=Qdp f;unfold Qdz Qeq;simp only[hp,hq,QC6 _ _ hm.1,QC6 _ _ hm.2,Qc,Option.bind_some];cases p with
 |false=>exact⟨_,rfl⟩
 |true =>
 cases q with
 |false=>exact⟨_,rfl⟩
 |true =>
 cases decide (r.Kind=f.Thing.Kind)with
 |false=>exact⟨_,rfl⟩
 |true =>
 cases decide (0<ln r.Colours)<;>cases decide (f.Thing.Colour∈r.Colours)<;>cases (decide (r.SizeLow≤f.Thing.Size)&&decide (f.Thing.Size≤r.SizeHigh))<;>cases decide (0<ln r.Places)<;>cases decide (f.Place∈r.Places)<;>cases decide (f.At<r.Span.From)<;>exact⟨_,rfl⟩
theorem QAZ(a:House)(h:FOk a):∃l,Qbt a=some l∧l.length≤20:=by
 have h20:=(QjW a.Finds h.1 h.2.2).1;obtain⟨v,v1,v2⟩:=Qei (n:=a.Finds.length) (step:=JV a) (fin:=id) (fun i out=>out.length≤i) (fun i out hi ho=>by
   simp only[JV,Qr hi,Qe hi,Qn hi,Qy (show(i:Int)<9223372036854775807 by omega),Qjj _ _ h.2.1,cond_true,Qa,Option.bind_some,QR (show out.length+1≤2000000 by omega) (show 64≤1024 by omega)]
   cases decide ((bif decide (a.Finds[i].Thing.Id=0)||decide (ZK a.Slots a.Finds[i].Thing.Id<0)then(0:Int)else(gt a.Slots (ZK a.Slots a.Finds[i].Thing.Id)).Id)=0)with
   |true=>exact⟨_,rfl,by omega⟩
   |false=>exact⟨_,rfl,by simp;omega⟩) (fun out _=>by simp only[JV,Qv (Nat.le_refl _),cond_false];rfl) [] (by simp)
 exact⟨v,by unfold Qbt;rw[v1];rfl,by omega⟩
theorem QC2(r:Report)(a:House)(hm:Vs r)(h:FOk a):∃l,Qcc r a=some l∧l.length≤20:=by
 obtain⟨f,f1,f2⟩:=QAZ a h;obtain⟨v,v1,v2⟩:=Qei (n:=f.length) (step:=Zl r a f) (fin:=id) (fun i out=>out.length≤i) (fun i out hi ho=>by
   obtain⟨b,hb⟩:=QIq r f[i] hm;simp only[Zl,Qr hi,Qe hi,Qn hi,Qy (show(i:Int)<9223372036854775807 by omega),hb,cond_true,Qa,Option.bind_some,QR (show out.length+1≤2000000 by omega) (show 16≤1024 by omega)]
   cases b with
   |true=>exact⟨_,rfl,by simp;omega⟩
   |false=>exact⟨_,rfl,by omega⟩) (fun out _=>by simp only[Zl,Qv (Nat.le_refl _),cond_false];rfl) [] (by simp)
 exact⟨v,by unfold Qcc;rw[f1,Option.bind_some,v1];rfl,by omega⟩
theorem Qt7(r:Report)(l:List House)(hm:Vs r)(hl:l.length≤1000)(h:∀a∈l,FOk a):∃x,Qco r l=some x∧x.length≤20000:=by
 obtain⟨v,v1,v2⟩:=Qei (n:=l.length) (step:=Zn l r) (fin:=id) (fun i out=>out.length≤20*i) (fun i out hi ho=>by
   obtain⟨b,hb,hb2⟩:=QC2 r l[i] hm (h _ (List.getElem_mem hi));simp only[Zn,Qr hi,Qe hi,Qn hi,Qy (show(i:Int)<9223372036854775807 by omega),hb,cond_true,Qa,Option.bind_some,QR (show out.length+b.length≤2000000 by omega) (show 16≤1024 by omega)]
   exact⟨_,rfl,by simp only[List.length_append];omega⟩) (fun out _=>by simp only[Zn,Qv (Nat.le_refl _),cond_false];rfl) [] (by simp)
 exact⟨v,by unfold Qco;rw[v1];rfl,by omega⟩
theorem QwW(c:List Int)(h:c.length≤1048576):∃x y,J8 c=some (x,y)∧∃b,VO x y=some b∧VO y x=some b:=by
 obtain⟨r,l,s,e1,m,_,n,v⟩:=Qld c h;obtain⟨x,x1,x2⟩:=Qt7 r l m (by omega) (fun a ha=>(v a ha).ok)
 obtain⟨c1,e2,k1⟩:=Qlx c h;obtain⟨c2,b,e3,_⟩:=QnT c1 2 k1;have hx:=Qne x (by omega)
 have h1:=QqO x (x++[(⟨1,0⟩:Hit)]) (by simp)
 have h2:=QqO (x++[(⟨1,0⟩:Hit)]) x (by simp)
 have e0:Z3 c=some (r,l):=by unfold Z3;rw[e1];rfl
 unfold J8;simp only[e0,x1,e2,e3,Option.bind_some,QR (show 0+x.length≤2000000 by omega) (show 16≤1024 by omega),QR (show x.length+1≤2000000 by omega) (show 16≤1024 by omega),Qa]
 cases b with
 |true=>exact⟨_,_,rfl,false,h1,h2⟩
 |false=>exact⟨_,_,rfl,true,hx,hx⟩
theorem Qy5(c:List Int)(h:1048576<c.length):Qdw c=some true:=by unfold Qdw ln;rw[decide_eq_true (by omega)]
theorem QFF(c:List Int)(h:c.length≤1048576):Qdw c=some false:=by unfold Qdw ln;rw[decide_eq_false (by omega)]
theorem QkI(c:List Int)(h1:(okL (QzS .u8)) c):QbE c=some true:=by
 unfold QbE;by_cases hb:1048576<c.length
 ·rw[Qy5 c hb];rfl
 ·have hc:c.length≤1048576:=by omega
  obtain⟨r,l,s,e1,m,_,n,v⟩:=Qld c hc;have v':∀a∈l,FOk a:=fun a ha=>(v a ha).ok
  have hl:=Qjf r l v';obtain⟨a,s2,e2,a1,a2⟩:=QoZ c hc;obtain⟨g1,g2,g3,_⟩:=Qff a s2 a1 a2;obtain⟨x,y,e3,b,b1,b2⟩:=QwW c hc;have hlen:((l.filter (Qhu r s)).map fun a=>a.No).length≤l.length:=by rw[List.length_map];exact List.length_filter_le _ _
  have hr:=Xt (step:=VU c l (l.flatMap (Qcj r)) ((l.filter (Qhu r s)).map fun a=>a.No)) (fun i=>(i:Int)) (r:=.brk ()) (l.flatMap (Qcj r)).length (fun i hi=>by
   simp only[VU,Qr hi,Qe hi,Qn hi,Qy (show(i:Int)<9223372036854775807 by omega),cond_true,Qa,Qvg _ _ (show((l.filter (Qhu r s)).map fun a=>a.No).length≤1048576 by omega),decide_eq_true (Quj r l s m v' _ (List.getElem_mem hi)),Option.bind_some,Bool.not_true,cond_false]) (by simp only[VU,Qv (Nat.le_refl _),cond_false])
  have hr0:run (VU c l (l.flatMap (Qcj r)) ((l.filter (Qhu r s)).map fun a=>a.No)) 0=some (.brk ()):=hr
  simp only[QFF c hc,cond_false,e1,e2,e3,Option.bind_some,QzV r l s m (by omega) v',QBr r l m (by omega) v',QpU r l s m (by omega) v',Qne (l.flatMap (Qcj r)) (by omega),Bool.not_true,hr0,evO,g1,QO9 _ g2 g3,cond_true,b1,b2]
  rw[decide_eq_true trivial,decide_eq_true (show ln ((l.filter (Qhu r s)).map fun a=>a.No)≤ln l by unfold ln;omega)]
  rfl
end Go.Proofs.YtonidbheohhgdaaGreat
