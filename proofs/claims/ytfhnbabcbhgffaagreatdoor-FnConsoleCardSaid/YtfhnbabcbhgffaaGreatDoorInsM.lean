import Derived.Test.YtfhnbabcbhgffaaGreatDoorIns
import Derived.Test.YtfhnbabcbhgffaaGreatDoorEvA
set_option linter.unusedVariables false
set_option linter.unusedSimpArgs false
set_option linter.defProp false
namespace Go.Proofs.YtfhnbabcbhgffaaGreatDoor.Am
open Go Go.Proofs Go.Shelf
def Fh{b:Nat}:∀(vs:List Value) {o m:Nat} {w:World},Whole w b m→o+vs.length≤m→Put w (w.setCells b o vs) b o vs
 |[],o,m,w,hW,_=>Put.nil hW
 |v::vs,o,m,w,hW,hm=>by
  simp at hm;have hp:=ml (v:=v) hW (show o<m by omega)
  have h:=Fh vs (o:=o+1) (hp.whole hW) (by omega)
  exact hp.cons h
def pw(R V:List (List AV))(k:Nat):(V5 R (k:Int) V).flatten=(R.take k).flatten++(V.flatten++(R.drop k).flatten):=by
 simp[V5]
def SS{z:Nat}:∀(R:List (List AV)) (k:Nat),(∀r∈R,r.length=z)→R.flatten.take (k*z)=(R.take k).flatten∧R.flatten.drop (k*z)=(R.drop k).flatten
 |[],k,_=>by simp
 |r::R,0,_=>by simp
 |r::R,k+1,h=>by
  have hr:=h r (by simp)
  obtain⟨h1,h2⟩:=SS R k (λq hq=>h q (by simp[hq]))
  have e:(k+1)*z=r.length+k*z:=by rw[hr,Nat.succ_mul];omega
  rw[e];simp only[List.flatten_cons,List.take_succ_cons,List.drop_succ_cons];rw[List.take_append,List.drop_append];simp[h1,h2,List.take_of_length_le,List.drop_of_length_le]
def lW{w w':World}{R V:List (List AV)}{z k B c':Nat}{cs us:List Value}{nR nV:List Nat}(hk:k≤R.length)
  (hs:w.heap.size≤w'.heap.size) (hh:∀b∈nR++nV,w'.heap[b]?=w.heap[b]?) (hR:XRs w TT EN R.flatten cs nR) (hV:XRs w TT EN V.flatten us nV)
  (rR:∀r∈R,r.length=z) (rV:∀r∈V,r.length=z) (oR:∀v∈cs,VI v=true) (oV:∀v∈us,VI v=true)
  (hc:R.length+V.length≤c') {c:Array Value} {el:TypeId} (hB:w'.heap[B]?=some (.cells c el (0,0))) (hz:c'*z≤c.size)
  (hj:∀j,j<(cs.take (k*z)++(us++cs.drop (k*z))).length→c[j]?=(cs.take (k*z)++(us++cs.drop (k*z)))[j]?) :
  ∃nb,XR w' TT EN (.own z (V5 R (k:Int) V)) (.slice (some ⟨B,0,none⟩) (R.length+V.length) c') (B::nb)∧(∀b,b∈nb↔b∈nR∨b∈nV)∧(nR.Nodup→nV.Nodup→(∀b∈nR,b∉nV)→nb.Nodup):=by
 obtain⟨n1,n2,hn,x1,x2⟩:=Eg (k*z) hR;rw[(SS R k rR).1]at x1;rw[(SS R k rR).2]at x2;have hX:XRs w TT EN (V5 R (k:Int) V).flatten (cs.take (k*z)++(us++cs.drop (k*z))) (n1++(nV++n2)):=by
  rw[pw];exact Zg x1 (Zg hV x2)
 have hsame:Same TT EN w TT EN w':=⟨hs,λ_ h=>absurd trivial h,λ_ h=>absurd trivial h,Qg _,λ_ _ h=>(by cases h),λ_ _ _ _ _ h=>by cases h⟩
 have hX':=XRs.mono _ hsame _ _ (λb hb=>hh b (by subst hn;simp at hb ⊢;rcases hb with h|h|h<;>simp[h])) hX
 have hlen:(V5 R (k:Int) V).length=R.length+V.length:=by simp[V5];omega
 refine⟨n1++(nV++n2),?_,λb=>?_,λd1 d2 d3=>?_⟩
 ·simp only[XR]
  refine .inr ⟨B,_,c',rfl,by rw[hlen],by rw[hlen];exact hc,⟨c,el,hB,hz⟩,?_⟩
  refine kY (vs:=cs.take (k*z)++(us++cs.drop (k*z))) (λr hr=>?_) (λj hj'=>?_) (λv hv=>?_) hX'
  ·simp only[V5,Int.toNat_natCast,List.mem_append]at hr
   rcases hr with h|h|h
   ·exact rR r (List.mem_of_mem_take h)
   ·exact rV r h
   ·exact rR r (List.mem_of_mem_drop h)
  ·rw[Nat.zero_add,←hj j hj']
   simp[World.cell?,hB]
  ·simp only[List.mem_append]at hv
   rcases hv with h|h|h
   ·exact oR v (List.mem_of_mem_take h)
   ·exact oV v h
   ·exact oR v (List.mem_of_mem_drop h)
 ·subst hn;simp;constructor
  ·rintro(h|h|h)<;>simp[h]
  ·rintro((h|h)|h)<;>simp[h]
 ·subst hn
  rw[List.nodup_append]at d1 ⊢;obtain⟨a1,a2,a3⟩:=d1;refine⟨a1,?_,?_⟩
  ·rw[List.nodup_append]
   exact⟨d2,a2,λx hx y hy e=>by subst e;exact d3 x (by simp[hy]) hx⟩
  ·intro x hx y hy e
   subst e
   rcases List.mem_append.1 hy with h|h
   ·exact d3 x (by simp[hx]) h
   ·exact a3 x hx x h rfl
def YQ{v:Value}(h:VI v=true):v.oneCell'=true:=by
 cases v<;>first|rfl|(simp[VI]at h)
def ke{w:World}{b j m:Nat}(h:Whole w b m)(hj:j<m):(w.cell? ⟨b,j,none⟩).isSome=true∧w.frozen? ⟨b,j,none⟩=false:=by
 obtain⟨c,el,h1,h2⟩:=h;refine⟨?_,by simp[World.frozen?,h1]⟩
 simp[World.cell?,h1,show j<c.size by omega]
def WU{α:Type}{l:List α}{i:Nat}{x:α}(h:l[i]?=some x):i<l.length:=by
 rcases Nat.lt_or_ge i l.length with h'|h'
 ·exact h'
 ·rw[List.getElem?_eq_none h']at h;cases h
def dr[Wd]{P:Program}{ρr:Go.Shelf.Ren}{m1 m2:String}{z bytes:Nat}{zv:Value}(L:InsL P ρr m1 m2 z bytes zv)(hb0:0<bytes)(hE:EnterOK P (ρr.f 22)){R V:List (List AV)}{i:Int}
  (hR:Va R=true) (hV:Va V=true) (hB:HL R i V bytes=true):MC P (ρr.f 22) [some (.lst z R),some (.lst z V)] [.sl 0,.i .i64 i,.sl 1] (·=.own z (V5 R i V)):=by
 have hzp:=L.zp;unfold HL at hB;simp only[Bool.and_eq_true,decide_eq_true_eq]at hB;obtain⟨hi0,hi1,hv0,hbig⟩:=hB;obtain⟨k,rfl⟩:∃k:Nat,i=(k:Int):=⟨i.toNat,by omega⟩
 have hk:k≤R.length:=by omega
 refine⟨hE,λw ρ Y vs h0 hY hS hX=>?_⟩
 have g0:kg [some (QE.lst z R),some (QE.lst z V)] 0=some (.lst z R):=rfl;have g1:kg [some (QE.lst z R),some (QE.lst z V)] 1=some (.lst z V):=rfl;have hk':∀j e,kg [some (QE.lst z R),some (QE.lst z V)] j=some e→(j=0∧e=.lst z R)∨(j=1∧e=.lst z V):=by
  intro j e h
  match j,h with
  |0,h=>exact .inl ⟨rfl,(Option.some.inj h).symm⟩
  |1,h=>exact .inr ⟨rfl,(Option.some.inj h).symm⟩
  |j+2,h=>simp[kg]at h
 have r0:=hS.reg 0 _ g0;have r1:=hS.reg 1 _ g1;have d0:=hS.nd 0 _ g0;have d1:=hS.nd 1 _ g1;have l0:=λb=>hS.lt 0 (.lst z R) b g0
 have l1:=λb=>hS.lt 1 (.lst z V) b g1
 have dj:=λb=>hS.dj 0 (.lst z R) 1 (.lst z V) b g0 g1 (by omega)
 obtain⟨v0,_,q1,q2,rfl,hq,x0,hX⟩:=by simpa only[XRs]using hX
 obtain⟨v1,_,q3,q4,rfl,hq',x1,hX⟩:=hX;obtain⟨v2,_,q5,q6,rfl,hq'',x2,rfl,_⟩:=hX;simp only[XR]at x0 x1 x2;obtain⟨_,_,x0n,x0s⟩:=x0;obtain⟨rfl,_⟩:=x1;obtain⟨_,_,x2n,x2s⟩:=x2;have E0:(EK [some (QE.lst z R),some (QE.lst z V)] ρ).of 0=some ((ρ 0).1,z,R.length):=rfl;have E1:(EK [some (QE.lst z R),some (QE.lst z V)] ρ).of 1=some ((ρ 1).1,z,V.length):=rfl;cases h1:(ρ 1).1 with
 |none =>
  rw[h1]at r1;have:=r1.1;simp only[QE.rows]at this;subst this;simp at hv0
 |some vb =>
 rw[h1]at r1 E1;obtain⟨w1,rr1,_⟩:=r1;obtain⟨vc,rfl,hvc,wv⟩:=x2s vb z V.length E1;obtain⟨us,u1,u2,u3,u4,u5⟩:=N0 (PU V hV rr1 (O':=TT));simp only[QE.E,QE.n,QE.rows]at u1 u2 u3 u4 u5 w1 rr1;have hus:∀j v,us[j]?=some v→w.cell? ⟨vb,j,none⟩=some v:=λj v h=>by
  have:=u2 j (WU h);rw[Nat.zero_add]at this;rw[this];exact h
 have hvb:vb∈fp ρ 1:=ED h1;have hvlt:vb<w.heap.size:=l1 vb hvb;have e1:fp ρ 1=vb::(ρ 1).2:=by simp[fp,h1]
 have f1:∀b∈fp ρ 1,∃j e,kg [some (QE.lst z R),some (QE.lst z V)] j=some e∧b∈fp ρ j:=λb hb=>⟨1,_,g1,hb⟩
 have f0:∀b∈fp ρ 0,∃j e,kg [some (QE.lst z R),some (QE.lst z V)] j=some e∧b∈fp ρ j:=λb hb=>⟨0,_,g0,hb⟩
 rw[e1]at d1;obtain⟨dv1,dv2⟩:=List.nodup_cons.1 d1;have hnew:∀(W:World) (c:Array Value) (el:TypeId) (cs:List Value) (nR:List Nat) (G:Nat) (base:Option Addr) ,W.heap=w.heap.push (.cells c el (0,0))→W.os=w.os→W.tape=w.tape→W.output=w.output →
   XRs w TT EN R.flatten cs nR→(∀v∈cs,VI v=true)→(∀r∈R,r.length=z)→(∀b∈nR,b∈fp ρ 0)→nR.Nodup→R.length+V.length≤G→G*z≤c.size →
   (∀j,j<(cs.take (k*z)++(us++cs.drop (k*z))).length→c[j]?=(cs.take (k*z)++(us++cs.drop (k*z)))[j]?) →
   ∃v x nb,Ending.returned (.slice (some ⟨w.heap.size,0,none⟩) (R.length+V.length) G)=.returned v∧x=.own z (V5 R (k:Int) V)∧XR W TT EN x v nb∧nb.Nodup ∧
    (∀b∈nb,b<W.heap.size∧((∃i e',kg [some (QE.lst z R),some (QE.lst z V)] i=some e'∧b∈fp ρ i)∨w.heap.size≤b))∧Ext (λb=>∃j e,kg [some (QE.lst z R),some (QE.lst z V)] j=some e∧b∈fp ρ j) w W:=by
  intro W c el cs nR G base hh ho ht hu hX oR rR hnR dR hG hc hj;have hold:∀b,b<w.heap.size→W.heap[b]?=w.heap[b]?:=λb hb=>by rw[hh,Array.getElem?_push,if_neg (by omega)]
  have hsz:W.heap.size=w.heap.size+1:=by rw[hh];simp
  have hl:∀b∈nR++(ρ 1).2,b<w.heap.size:=λb hb=>by
   rcases List.mem_append.1 hb with h|h
   ·exact l0 b (hnR b h)
   ·exact l1 b (FO h)
  obtain⟨nb,t1,t2,t3⟩:=lW (w:=w) (w':=W) (z:=z) (k:=k) (B:=w.heap.size) (c':=G) hk (by omega) (λb hb=>hold b (hl b hb)) hX u3 rR u5 oR u4 hG (by rw[hh,Array.getElem?_push,if_pos rfl]) hc hj
  refine⟨_,_,_,rfl,rfl,t1,?_,?_,?_⟩
  ·refine List.nodup_cons.2 ⟨λh=>?_,t3 dR dv2 (λb h h'=>dj b (hnR b h) (FO h'))⟩
   have:=hl w.heap.size (by rcases(t2 _).1 h with h|h<;>simp[h])
   omega
  ·intro b hb
   rcases List.mem_cons.1 hb with rfl|hb
   ·exact⟨by omega,.inr (Qg _)⟩
   ·rcases(t2 b).1 hb with h|h
    ·exact⟨by have:=l0 b (hnR b h);omega,.inl (f0 b (hnR b h))⟩
    ·exact⟨by have:=l1 b (FO h);omega,.inl (f1 b (FO h))⟩
  ·exact⟨ho,ht,hu,by omega,λb hb _=>hold b hb,λb m hw=>hw.same (hold b hw.lt)⟩
 have hnmul:V.length≤R.length+V.length:=by omega
 have hnm:R.length+V.length≤9223372036854775807:=by have:=Nat.le_mul_of_pos_right (R.length+V.length) hb0;omega
 have h1v:∀v∈us,v.oneCell'=true:=λv hv=>YQ (u4 v hv)
 cases h2:(ρ 0).1 with
 |none =>
  rw[h2]at r0 E0;have hR0:=r0.1;simp only[QE.rows]at hR0;subst hR0;obtain⟨a,rfl⟩:=x0n z 0 E0;have hk0:k=0:=by simpa using hk
  subst hk0;have hc:=P2 L a 0 0 vb V.length vc [] us w hv0 (Qg _) (by omega) (by simpa using hbig) hb0 (by simp) u1 (λ_=>rfl) (λ_ _ j v h=>by simp at h) hus h1v
  refine hc.mono λe W ⟨he,hW⟩=>?_
  subst hW;have hg:=grownCap_ge w (0+V.length) 0 (ρr.t 9);have:=hnew (w.drew.alloc (.cells (([]++us).toArray++Builtin.zeroCells zv.cells (grownCap w (0+V.length) 0 (ρr.t 9)-(0+V.length))) (ρr.t 9))) _ _ [] [] (grownCap w (0+V.length) 0 (ρr.t 9)) a rfl rfl rfl rfl (by simp[XRs]) (by simp) (by simp) (by simp) (by simp) (by simpa using hg)
   (by rw[Array.size_append,C5,L.zl,List.size_toArray,List.nil_append,u1,←Nat.add_mul];exact Nat.mul_le_mul_right z (by omega))
   (λj hj=>by
    simp only[List.take_nil,List.drop_nil,List.append_nil,List.nil_append,Nat.zero_mul]at hj ⊢;rw[Array.getElem?_append_left (by simpa using hj)];simp)
  rw[he];simpa using this
 |some bl =>
 rw[h2]at r0 E0;obtain⟨w0,rr0,_⟩:=r0;obtain⟨cap,rfl,hcap,wl⟩:=x0s bl z R.length E0;obtain⟨cs,c1,c2,c3,c4,c5⟩:=N0 (PU R hR rr0 (O':=TT));simp only[QE.E,QE.n,QE.rows]at c1 c2 c3 c4 c5 w0 rr0;have hcs:∀j v,cs[j]?=some v→w.cell? ⟨bl,j,none⟩=some v:=λj v h=>by
  have:=c2 j (WU h);rw[Nat.zero_add]at this;rw[this];exact h
 have h1c:∀v∈cs,v.oneCell'=true:=λv hv=>YQ (c4 v hv)
 have hbl:bl∈fp ρ 0:=ED h2;have hbllt:bl<w.heap.size:=l0 bl hbl;have e0:fp ρ 0=bl::(ρ 0).2:=by simp[fp,h2]
 rw[e0]at d0;obtain⟨dr1,dr2⟩:=List.nodup_cons.1 d0;have hne:vb≠bl:=λe=>dj bl hbl (by rw[←e];exact hvb)
 have hmz:∀x y:Nat,x≤y→x*z≤y*z:=λx y h=>Nat.mul_le_mul_right z h
 have htot:(cs.take (k*z)++(us++cs.drop (k*z))).length=(R.length+V.length)*z:=by
  rw[List.length_append,List.length_append,List.length_take,List.length_drop,c1,u1,Nat.min_eq_left (hmz k _ hk),Nat.add_mul];have:=hmz k _ hk;omega
 have hplace:∀(W:World) (c:Array Value) (el:TypeId),W.heap.size=w.heap.size→(∀b,b≠bl→W.heap[b]?=w.heap[b]?)→W.os=w.os→W.tape=w.tape→W.output=w.output→(∀b m,Whole w b m→Whole W b m) →
   R.length+V.length≤cap→W.heap[bl]?=some (.cells c el (0,0))→cap*z≤c.size →
   (∀j,j<(cs.take (k*z)++(us++cs.drop (k*z))).length→c[j]?=(cs.take (k*z)++(us++cs.drop (k*z)))[j]?) →
   ∃v x nb,Ending.returned (.slice (some ⟨bl,0,none⟩) (R.length+V.length) cap)=.returned v∧x=.own z (V5 R (k:Int) V)∧XR W TT EN x v nb∧nb.Nodup ∧
    (∀b∈nb,b<W.heap.size∧((∃i e',kg [some (QE.lst z R),some (QE.lst z V)] i=some e'∧b∈fp ρ i)∨w.heap.size≤b))∧Ext (λb=>∃j e,kg [some (QE.lst z R),some (QE.lst z V)] j=some e∧b∈fp ρ j) w W:=by
  intro W c el hsz hold ho ht hu hwh hG hh hc hj;have hnb:∀b∈(ρ 0).2++(ρ 1).2,b≠bl:=λb hb e=>by
   subst e
   rcases List.mem_append.1 hb with h|h
   ·exact dr1 h
   ·exact dj b hbl (FO h)
  obtain⟨nb,t1,t2,t3⟩:=lW (w:=w) (w':=W) (z:=z) (k:=k) (B:=bl) (c':=cap) hk (by omega) (λb hb=>hold b (hnb b hb)) c3 u3 c5 u5 c4 u4 hG hh hc hj
  refine⟨_,_,_,rfl,rfl,t1,?_,?_,?_⟩
  ·refine List.nodup_cons.2 ⟨λh=>?_,t3 dr2 dv2 (λb h h'=>dj b (FO h) (FO h'))⟩
   exact hnb bl (by rcases(t2 _).1 h with h|h<;>simp[h]) rfl
  ·intro b hb
   rcases List.mem_cons.1 hb with rfl|hb
   ·exact⟨by omega,.inl (f0 b hbl)⟩
   ·rcases(t2 b).1 hb with h|h
    ·exact⟨by have:=l0 b (FO h);omega,.inl (f0 b (FO h))⟩
    ·exact⟨by have:=l1 b (FO h);omega,.inl (f1 b (FO h))⟩
  ·exact⟨ho,ht,hu,by omega,λb hb hF=>hold b (λe=>hF (by subst e;exact f0 b hbl)),hwh⟩
 by_cases hroom:R.length+V.length≤cap
 ·have hsp:∀j,j<cap*z→(w.cell? ⟨bl,j,none⟩).isSome=true∧w.frozen? ⟨bl,j,none⟩=false:=λj hj=>ke wl hj
  have hcapz:=hmz _ _ hroom;obtain⟨c,el,hc,hcz⟩:=wl;have hcell:∀j,j<cs.length→c[j]?=cs[j]?:=λj hj=>by
   have:=c2 j hj;rw[Nat.zero_add]at this;rw[←this];simp[World.cell?,hc]
  have hWl:Whole w bl (cap*z):=⟨c,el,hc,hcz⟩;by_cases hend:k=R.length
  ·subst hend
   have hadd:=Nat.add_mul R.length V.length z;have hcall:=cM L bl R.length cap vb V.length vc us w hv0 hroom hnm u1 (λj hj=>(hsp _ (by omega)).1) (λj hj=>(hsp _ (by omega)).2) hus h1v
   refine hcall.mono λe W ⟨he,hW⟩=>?_
   have hp:=Fh us (o:=R.length*z) hWl (by rw[u1];omega)
   rw[←hW]at hp;obtain⟨c0,el0,cc,g1',g2',g3',g4',g5'⟩:=hp.here;rw[hc]at g1';injection g1' with g1';injection g1' with g1' g1e _;subst g1' g1e
   have:=hplace W cc el hp.size hp.block hp.os hp.tape hp.output (λb m hw=>hp.whole hw) hroom g2' (by omega) (λj hj=>by
    rw[htot]at hj;by_cases hj1:j<R.length*z
    ·rw[g4' j (.inl hj1),hcell j (by omega),List.getElem?_append_left (by rw[List.length_take,c1];omega),List.getElem?_take,if_pos hj1]
    ·have:=g5' (j-R.length*z) (by omega)
     rw[show R.length*z+(j-R.length*z)=j by omega]at this
     rw[this,List.getElem?_append_right (by rw[List.length_take,c1];omega),List.length_take,c1,Nat.min_self,List.getElem?_append_left (by omega)])
   rw[he];exact this
  ·have hadd:=Nat.add_mul R.length V.length z
   have hadd2:=Nat.add_mul k V.length z;have hkz:=hmz k _ hk;have hkz2:=hmz (k+V.length) (R.length+V.length) (by omega)
   obtain⟨ca,ea,hva,hvz⟩:=wv;have hvz0:0<ca.size:=by
    have:=Nat.mul_pos hv0 hzp;have:=hmz _ _ hvc;omega
   have hca:c.size≠0:=by
    have:=Nat.mul_pos hv0 hzp;omega
   have hcall:=oZ L bl R.length cap k vb V.length vc cs us w (by omega) hv0 hroom hnm hne c1 u1 hcs (λj hj=>(hsp _ (by omega)).1) (λj hj=>(hsp _ (by omega)).2) hus h1c h1v ea el ca.size c.size
    (by simp[World.shape?,hva]) (by simp[World.shape?,hc]) hca (by simp[World.frozen?,hva]) (by simp[World.frozen?,hva])
   refine hcall.mono λe W ⟨he,hW⟩=>?_
   have hld:(cs.drop (k*z)).length=R.length*z-k*z:=by rw[List.length_drop,c1]
   have hp1:=Fh (w:=w.drew) (cs.drop (k*z)) (o:=(k+V.length)*z) (m:=cap*z) ⟨c,el,hc,hcz⟩ (by rw[hld];omega)
   have hp2:=Fh us (o:=k*z) (hp1.whole (k:=bl) (m:=cap*z) ⟨c,el,hc,hcz⟩) (by rw[u1];omega)
   rw[←hW]at hp2;obtain⟨c0,el0,cc,g1',g2',g3',g4',g5'⟩:=hp1.here;have hc':w.drew.heap[bl]?=some (.cells c el (0,0)):=hc;rw[hc']at g1';injection g1' with g1';injection g1' with g1' g1e _;subst g1' g1e
   obtain⟨c0,el0,cd,k1',k2',k3',k4',k5'⟩:=hp2.here;rw[g2']at k1';injection k1' with k1';injection k1' with k1' k1e _;subst k1' k1e
   have:=hplace W cd el (hp2.size.trans hp1.size) (λb hb=>(hp2.block b hb).trans (hp1.block b hb)) (hp2.os.trans hp1.os) (hp2.tape.trans hp1.tape) (hp2.output.trans hp1.output) (λb m hw=>hp2.whole (hp1.whole hw)) hroom k2' (by omega) (λj hj=>by
    rw[htot]at hj;by_cases hj1:j<k*z
    ·rw[k4' j (.inl hj1),g4' j (.inl (by omega)),hcell j (by omega),List.getElem?_append_left (by rw[List.length_take,c1];omega),List.getElem?_take,if_pos hj1]
    ·rw[List.getElem?_append_right (by rw[List.length_take,c1];omega),List.length_take,c1,Nat.min_eq_left hkz]
     by_cases hj2:j<(k+V.length)*z
     ·have:=k5' (j-k*z) (by omega)
      rw[show k*z+(j-k*z)=j by omega]at this
      rw[this,List.getElem?_append_left (by omega)]
     ·rw[k4' j (.inr (by omega))]
      have:=g5' (j-(k+V.length)*z) (by rw[hld];omega)
      rw[show(k+V.length)*z+(j-(k+V.length)*z)=j by omega]at this
      rw[this,List.getElem?_append_right (by omega)]
      congr 1;omega)
   rw[he];exact this
 ·by_cases hend:k=R.length
  ·subst hend
   have hc:=P2 L (some ⟨bl,0,none⟩) R.length cap vb V.length vc cs us w hv0 hcap (by omega) hbig hb0 c1 u1 (λh=>by cases h) (λa ha j v h=>by injection ha with ha;subst ha;rw[Addr.add_lit,Nat.zero_add];exact hcs j v h) hus h1v
   refine hc.mono λe W ⟨he,hW⟩=>?_
   subst hW;have hg:=grownCap_ge w (R.length+V.length) cap (ρr.t 9);have hadd:=Nat.add_mul R.length V.length z;have:=hnew (w.drew.alloc (.cells ((cs++us).toArray++Builtin.zeroCells zv.cells (grownCap w (R.length+V.length) cap (ρr.t 9)-(R.length+V.length))) (ρr.t 9))) _ _ cs (ρ 0).2 (grownCap w (R.length+V.length) cap (ρr.t 9)) none rfl rfl rfl rfl c3 c4 c5 (λb hb=>FO hb) dr2 hg
    (by rw[Array.size_append,C5,L.zl,List.size_toArray,List.length_append,c1,u1,←Nat.add_mul,←Nat.add_mul];exact Nat.mul_le_mul_right z (by omega))
    (λj hj=>by
     rw[←c1,List.take_length,List.drop_length,List.append_nil]at hj ⊢;rw[Array.getElem?_append_left (by simpa using hj)];simp)
   rw[he];exact this
  ·have hc:=u7 L bl R.length cap k vb V.length vc cs us w (by omega) hv0 hcap (by omega) hbig hb0 c1 u1 hcs hus h1c h1v
   refine hc.mono λe W ⟨he,hW⟩=>?_
   have hg:=grownCap_ge w (R.length+V.length) cap (ρr.t 9);have hadd:=Nat.add_mul R.length V.length z;have hadd2:=Nat.add_mul k V.length z;have hkz:=hmz k _ hk;have hkz2:=hmz (k+V.length) (R.length+V.length) (by omega)
   have hld:(cs.drop (k*z)).length=R.length*z-k*z:=by rw[List.length_drop,c1]
   generalize hROW:(cs.take (k*z)).toArray++Builtin.zeroCells zv.cells (R.length+V.length-k)++Builtin.zeroCells zv.cells (grownCap w (R.length+V.length) cap (ρr.t 9)-(R.length+V.length))=ROW at hW;have hRs:ROW.size=grownCap w (R.length+V.length) cap (ρr.t 9)*z:=by
    rw[←hROW,Array.size_append,Array.size_append,C5,C5,L.zl,List.size_toArray,List.length_take,c1,Nat.min_eq_left hkz,←Nat.add_mul,←Nat.add_mul];congr 1;omega
   have hgz:=hmz _ _ hg;have hR0:∀j,j<k*z→ROW[j]?=cs[j]?:=λj hj=>by
    rw[←hROW,Array.append_assoc,Array.getElem?_append_left (by rw[List.size_toArray,List.length_take,c1,Nat.min_eq_left hkz];exact hj)]
    simp[List.getElem?_take,hj]
   have hW0:Whole (w.alloc (.cells ROW (ρr.t 9))) w.heap.size (grownCap w (R.length+V.length) cap (ρr.t 9)*z):=⟨ROW,ρr.t 9,by show(w.heap.push _)[w.heap.size]?=_;rw[Array.getElem?_push,if_pos rfl],by omega⟩
   have hp1:=Fh (w:=(w.alloc (.cells ROW (ρr.t 9))).drew) us (o:=k*z) (m:=grownCap w (R.length+V.length) cap (ρr.t 9)*z) (b:=w.heap.size) hW0 (by rw[u1];omega)
   have hp2:=Fh (w:=(((w.alloc (.cells ROW (ρr.t 9))).drew.setCells w.heap.size (k*z) us).drew)) (cs.drop (k*z)) (o:=(k+V.length)*z) (m:=grownCap w (R.length+V.length) cap (ρr.t 9)*z) (b:=w.heap.size) (hp1.whole hW0) (by rw[hld];omega)
   rw[←hW]at hp2;obtain⟨c0,el0,cc,g1',g2',g3',g4',g5'⟩:=hp1.here;have hc':((w.alloc (.cells ROW (ρr.t 9))).drew).heap[w.heap.size]?=some (.cells ROW (ρr.t 9) (0,0)):=by show(w.heap.push _)[w.heap.size]?=_;rw[Array.getElem?_push,if_pos rfl]
   rw[hc']at g1';injection g1' with g1';injection g1' with g1' g1e _;subst g1' g1e
   obtain⟨c0,el0,cd,k1',k2',k3',k4',k5'⟩:=hp2.here;have k1'':(((w.alloc (.cells ROW (ρr.t 9))).drew.setCells w.heap.size (k*z) us)).heap[w.heap.size]?=some (.cells c0 el0 (0,0)):=k1';rw[g2']at k1'';injection k1'' with k1'';injection k1'' with k1'' k1e _;subst k1'' k1e
   have hWh:W.heap=w.heap.push (.cells cd (ρr.t 9) (0,0)):=by
    apply Array.ext_getElem?;intro b;rw[Array.getElem?_push];by_cases hb:b=w.heap.size
    ·subst hb;rw[if_pos rfl];exact k2'
    ·rw[if_neg hb,hp2.block b hb]
     show((w.alloc (.cells ROW (ρr.t 9))).drew.setCells w.heap.size (k*z) us).heap[b]?=_;rw[hp1.block b hb];show(w.heap.push _)[b]?=_;rw[Array.getElem?_push,if_neg hb]
   have:=hnew W cd (ρr.t 9) cs (ρ 0).2 (grownCap w (R.length+V.length) cap (ρr.t 9)) none hWh (hp2.os.trans hp1.os) (hp2.tape.trans hp1.tape) (hp2.output.trans hp1.output) c3 c4 c5 (λb hb=>FO hb) dr2 hg (by omega) (λj hj=>by
    rw[htot]at hj;by_cases hj1:j<k*z
    ·rw[k4' j (.inl (by omega)),g4' j (.inl hj1),hR0 j hj1,List.getElem?_append_left (by rw[List.length_take,c1];omega),List.getElem?_take,if_pos hj1]
    ·rw[List.getElem?_append_right (by rw[List.length_take,c1];omega),List.length_take,c1,Nat.min_eq_left hkz]
     by_cases hj2:j<(k+V.length)*z
     ·rw[k4' j (.inl hj2)]
      have:=g5' (j-k*z) (by omega)
      rw[show k*z+(j-k*z)=j by omega]at this
      rw[this,List.getElem?_append_left (by omega)]
     ·have:=k5' (j-(k+V.length)*z) (by rw[hld];omega)
      rw[show(k+V.length)*z+(j-(k+V.length)*z)=j by omega]at this
      rw[this,List.getElem?_append_right (by omega)]
      congr 1;omega)
   rw[he];exact this
def lH{α:Type}:∀{l:List (Nat×α)} {g:Nat} {x:α},lk l g=some x→(g,x)∈l
 |(i,y)::l,g,x,h=>by
  simp only[lk]at h;cases hb:(i==g)with
  |true =>
   rw[hb]at h;injection h with h
   have:=eq_of_beq hb;subst this h;simp
  |false=>rw[hb]at h;exact List.mem_cons_of_mem _ (lH h)
def Qgk[Wd]{P:Program}{tb:List (Nat×(Nat×Nat))}(H:∀p∈tb,∀(R V:List (List AV)) (i:Int),Va R=true→Va V=true→HL R i V p.2.2=true→MC P p.1 [some (.lst p.2.1 R),some (.lst p.2.1 V)] [.sl 0,.i .i64 i,.sl 1] (·=.own p.2.1 (V5 R i V))) :
  ∀g K args x,mtI tb g K args=some x→MC P g K args (·=x):=by
 intro g K args x h;unfold mtI at h
 split at h
 ·rename_i n R m V i
  split at h
  ·rename_i k b hl
   split at h
   ·rename_i hc
    obtain⟨rfl,h2,h3,h4⟩:=hc;subst h2;cases hb:HL R i V b with
    |false=>rw[hb]at h;cases h
    |true =>
     rw[hb]at h;have hx:x=.own _ (V5 R i V):=(Option.some.inj h).symm;subst hx;exact H _ (lH hl) R V i h3 h4 hb
   ·cases h
  ·cases h
 ·cases h
end Go.Proofs.YtfhnbabcbhgffaaGreatDoor.Am
