import Derived.Test.YtonidbheohhgdaaGreatPz4
import Derived.Test.YtonidbheohhgdaaGreatPz3
import Derived.Test.YtonidbheohhgdaaGreatPz2
import Derived.Test.YtonidbheohhgdaaGreatPz1
namespace Go.Proofs.YtonidbheohhgdaaGreat
open Go
set_option linter.unusedVariables false
set_option linter.unusedSimpArgs false
theorem Qhm(l:List Claim)(id s:Int)(k:Nat)(hk:k<l.length)(hid:QaG l id=(k:Int))(h0:l[k].State=0)(hs:s=1∨s=2)(hl:l.length≤1048576)(h:QF l=some true)(hI:Jg l=some true) :
  ZH l id s=some (l.set k ⟨l[k].Id,l[k].Who,l[k].Thing,l[k].At,s⟩,true):=by
 obtain⟨d,d1,d2,d3⟩:=QeV (l.set k ⟨l[k].Id,l[k].Who,l[k].Thing,l[k].At,s⟩) (by rw[List.length_set];omega)
 rw[Qrz l k hk s hs hl h]at d1;cases d1;unfold ZH Vu;have hrm:rm (0+l.length) 40=true:=QR (by omega) (by omega)
 simp only[hrm,Qa,(QbQ l id hl).2,hI,Option.bind_some,hid,decide_eq_false (show ¬(k:Int)<0 by omega),cond_false,Bool.not_true,Qe hk,Qn hk,Int.toNat_natCast,d2,h0,decide_true,cond_true]
 rcases hs with rfl|rfl<;>rfl
theorem QxA(x:Int):∃c,Zp [x]=some c∧QbO [x]=some c∧0≤c∧c<2147483647:=by
 obtain⟨c,hc,h0,h1⟩:∃c,Qck x 2147483647=some c∧0≤c∧c<2147483647:=by
  rw[QrS];obtain⟨h1,h2⟩:=Qkh x (m:=2147483647) (by omega)
  unfold Qcb Qb;simp only[Option.bind_some,show(decide ((1:Int)≤2147483647)&&decide ((2147483647:Int)≤1000000000000))=true from rfl,Bool.not_true,cond_false,show(!decide ((2147483647:Int)=0))=true from rfl,Qa];generalize x.tmod 2147483647=t at h1 h2;by_cases ht:t<0
  ·rw[decide_eq_true ht];exact⟨_,rfl,by rw[QS]<;>omega,by rw[QS]<;>omega⟩
  ·rw[decide_eq_false ht];exact⟨_,rfl,by omega,by omega⟩
 have hs:Zp [x]=some ((11000033+c+13).tmod 2147483647):=by
  unfold Zp;have hr:=Xt (step:=V6 [x]) (fun i=>if i=0 then(11,0)else((11000033+c+13).tmod 2147483647,1)) (r:=(11000033+c+13).tmod 2147483647) 1 (fun i hi=>by
   have:i=0:=by omega
   subst this;simp only[V6,if_true,show decide ((0:Int)<ln [x])=true from rfl,show inb [x] 0=true from rfl,show gt [x] (0:Int)=x from rfl,cond_true,Qa,hc,Option.bind_some,show ¬(0+1=0)from by omega,if_false]
   rw[show w64 (11*1000003)=11000033 from rfl,show w64 (0+1)=1 from rfl,QS (show _≤11000033+c by omega) (by omega),QS (show _≤11000033+c+13 by omega) (by omega)])
   (by simp only[V6,show ¬(1=0)from by omega,if_false];rfl)
  rw[show run (V6 [x]) (11,0)=_ from hr];rfl
 refine⟨_,hs,by rw[←Qon,hs],Int.tmod_nonneg _ (by omega),Int.tmod_lt_of_pos _ (by omega)⟩
theorem Qp4(l:List Mark)(c v:Int)(hl:l.length≤1048576):∃q,ZV l c v=some q∧QcB l c v=some q:=by
 obtain⟨m,m1,m2⟩:=QiG l (by omega)
 obtain⟨c',c1,c2,c3,c4⟩:=QxA c;unfold ZV QcB Qc Qb;simp only[m1,m2,Option.bind_some];by_cases h0:ln l=0
 ·rw[decide_eq_true h0];exact⟨0,rfl,rfl⟩
 ·rw[decide_eq_false h0]
  have hpos:0<ln l:=by rw[VE]at h0 ⊢;omega
  cases m with
  |false=>exact⟨0,rfl,rfl⟩
  |true =>
   cases hv:(decide (0≤v)&&decide (v≤1000))with
   |false=>exact⟨0,rfl,rfl⟩
   |true =>
    simp only[Bool.and_eq_true,decide_eq_true_eq]at hv;have hb:=Int.tmod_lt_of_pos c' hpos;have hn:=Int.tmod_nonneg (ln l) c3;have hle:ln l≤1048576:=by rw[VE];omega
    have hmod:Qck c' (ln l)=some (c'.tmod (ln l)):=by
     unfold Qck Qc;simp only[Option.bind_some,show(decide (1≤ln l)&&decide (ln l≤1000000000000))=true from by rw[decide_eq_true (show 1≤ln l by omega),decide_eq_true (show ln l≤1000000000000 by omega)];rfl,Bool.not_true,cond_false,decide_eq_false h0,Bool.not_false,Qa]
     rw[QS (by omega) (by omega),Int.tmod_eq_emod_of_nonneg (show 0≤c'.tmod (ln l)+ln l by omega),Int.add_emod_right,Int.emod_eq_of_lt hn hb]
    have hin:inb l ((w64 (c'.tmod (ln l)+v)).tmod (ln l))=true:=by
     rw[QS (by omega) (by omega),Qb4]
     exact⟨Int.tmod_nonneg _ (by omega),by have:=Int.tmod_lt_of_pos (c'.tmod (ln l)+v) hpos;rw[VE]at this;exact this⟩
    simp only[c1,c2,hmod,Option.bind_some,cond_false,Bool.not_true,Bool.not_false,Qa,hin];exact⟨_,rfl,rfl⟩
theorem Qoy(l:List Mark)(x:Trial)(hl:l.length≤1048576):∃q,Zs l x=some q∧Qca l x=some q:=by
 obtain⟨s,s1,s2⟩:=Qe6 l x hl;obtain⟨q,q1,q2⟩:=Qp4 l x.Claim x.Asked hl;unfold Zs Qca;simp only[s1,s2,q1,q2,Option.bind_some];cases decide (s=0)<;>exact⟨_,rfl,rfl⟩
theorem Qxr(l:List Mark)(q:Int)(hl:l.length≤1048576):∃a,Qbj l q=some a∧Qey l q=some a:=by
 have hs:=XY l (fun x=>decide (x.Question=q)) (fun i=>(gt l (i:Int)).Answer) (step:=J2 l q)
  (fun i hi=>by
   simp only[J2,Qr hi,Qe hi,Qn hi,Qy (show(i:Int)<9223372036854775807 by omega),cond_true,Qa]
   cases decide (l[i].Question=q)<;>rfl)
  (by simp only[J2,Qv (Nat.le_refl _),cond_false])
 have hi:=XY l (fun x=>decide (x.Question=q)) (fun i=>(gt l (i:Int)).Answer) (step:=QaX q l (ln l))
  (fun i hi=>by
   simp only[QaX,Qr hi,Qe hi,Qn hi,Qy (show(i:Int)<9223372036854775807 by omega),cond_true,Qa]
   cases decide (l[i].Question=q)<;>rfl)
  (by simp only[QaX,Qv (Nat.le_refl _),cond_false])
 unfold Qbj Qey;rw[hs,hi];cases l.findIdx? (fun x=>decide (x.Question=q))<;>exact⟨_,rfl,rfl⟩
theorem Qrc(l:List Mark)(x:Trial)(a:Int)(hl:l.length≤1048576):∃r,Qat l x a=some r∧Qc7 l x a=some r:=by
 obtain⟨q,q1,q2⟩:=Qoy l x hl;obtain⟨b,b1,b2⟩:=Qxr l q hl;unfold Qat Qc7;simp only[q1,q2,b1,b2,Option.bind_some];cases decide (q=0)<;>cases decide (b=a)<;>exact⟨_,rfl,rfl⟩
theorem Qq8(h:House)(id a:Int)(hm:Qi h):∃r,JD h id a=some r∧Qdf h id a=some r∧Qi r.1:=by
 have hm7:=hm;obtain⟨m1,m2,m3,m4,m5,m6,m7⟩:=hm7;unfold JD Qdf;simp only[XA h hm,Jw h hm,(QbQ h.Claims id m4).1,(QbQ h.Claims id m4).2,(Xp h hm).1,(Xp h hm).2,Option.bind_some]
 rcases Qfk h.Claims id with hx|⟨k,hk,hx,hid⟩
 ·rw[hx]
  refine⟨(h,false),rfl,?_,hm⟩;cases XT h<;>rfl
 ·rw[hx,decide_eq_false (show ¬(k:Int)<0 by omega)]
  cases hb:XT h with
  |false=>exact⟨(h,false),rfl,rfl,hm⟩
  |true =>
   have ho:=QgB h hm hb;simp only[cond_false,Bool.not_true,Qe hk,Qn hk,Qa,Option.bind_some];by_cases h0:h.Claims[k].State=0
   ·have hkt:k<h.Trials.length:=by rw[QhQ h ho.trials];exact hk
    obtain⟨m,k1,k2,k3⟩:=Qn2 h.Secrets h.Claims[k].Thing m2.1 (fun x hx=>m2.2 x hx)
    obtain⟨g,g1,g2⟩:=Qrc m h.Trials[k] a k3;obtain⟨s,s1,s2⟩:=Qe6 m g.1 k3;have hl1:(h.Trials.set k g.1).length≤1048576:=by rw[List.length_set];exact m5
    have hl2:∀s:Int,(h.Claims.set k ⟨h.Claims[k].Id,h.Claims[k].Who,h.Claims[k].Thing,h.Claims[k].At,s⟩).length≤1048576:=fun s=>by rw[List.length_set];exact m4
    have w1:Qi ⟨h.No,h.Finds,h.Secrets,h.Slots,h.Claims.set k ⟨h.Claims[k].Id,h.Claims[k].Who,h.Claims[k].Thing,h.Claims[k].At,1⟩,h.Trials.set k g.1,h.Chain,h.Book,h.Now⟩:=smH hm m1 m2 m3 (hl2 1) hl1 m6 m7;have w2:Qi ⟨h.No,h.Finds,h.Secrets,h.Slots,h.Claims.set k ⟨h.Claims[k].Id,h.Claims[k].Who,h.Claims[k].Thing,h.Claims[k].At,2⟩,h.Trials.set k g.1,h.Chain,h.Book,h.Now⟩:=smH hm m1 m2 m3 (hl2 2) hl1 m6 m7;have w3:Qi ⟨h.No,h.Finds,h.Secrets,h.Slots,h.Claims,h.Trials.set k g.1,h.Chain,h.Book,h.Now⟩:=smH hm m1 m2 m3 m4 hl1 m6 m7;simp only[h0,decide_true,Bool.not_true,cond_false,k1,k2,g1,g2,s1,s2,Qe hkt,Qn hkt,Qa,Option.bind_some,Int.toNat_natCast,
     Qhm h.Claims id 1 k hk hx h0 (.inl rfl) m4 ho.cS ho.cI,Qhm h.Claims id 2 k hk hx h0 (.inr rfl) m4 ho.cS ho.cI,Qci h _ _ hm w1,Qci h _ _ hm w2,Qci h _ _ hm w3,
     QaF h _ _ hm w1 (show[g.2].length≤1048576 by simp),QaF h _ _ hm w2 (show[g.2].length≤1048576 by simp),QaF h _ _ hm w3 (show[g.2].length≤1048576 by simp),List.all_cons,List.all_nil,Bool.and_true,id_eq]
    cases decide (s=1)with
    |true=>exact⟨_,rfl,rfl,Z1 _ _ _ hm w1⟩
    |false=>cases decide (s=2)with
     |true=>exact⟨_,rfl,rfl,Z1 _ _ _ hm w2⟩
     |false=>exact⟨_,rfl,rfl,Z1 _ _ _ hm w3⟩
   ·simp only[decide_eq_false h0,Bool.not_false,cond_true]
    exact⟨(h,false),rfl,rfl,hm⟩
end Go.Proofs.YtonidbheohhgdaaGreat
namespace Go.Proofs.YtonidbheohhgdaaGreat
open Go
set_option linter.unusedVariables false
set_option linter.unusedSimpArgs false
theorem Qxb(l:List Claim)(id s:Int)(hl:l.length≤1048576):∃r,Qbk l id s=some r∧ZH l id s=some r∧r.1.length=l.length:=by
 obtain⟨c,c1,c2,c3⟩:=QeV l hl;unfold Qbk ZH Vu;have hrm:rm (0+l.length) 40=true:=QR (by omega) (by omega)
 simp only[hrm,Qa,(QbQ l id hl).1,(QbQ l id hl).2,c1,c2,Option.bind_some]
 rcases Qfk l id with h|⟨k,hk,h,hid⟩
 ·rw[h];exact⟨(l,false),rfl,rfl,rfl⟩
 ·rw[h,decide_eq_false (show ¬(k:Int)<0 by omega)]
  cases c with
  |false=>exact⟨(l,false),rfl,rfl,rfl⟩
  |true =>
   obtain⟨d,d1,d2,d3⟩:=QeV (l.set k ⟨l[k].Id,l[k].Who,l[k].Thing,l[k].At,s⟩) (by rw[List.length_set];omega)
   simp only[cond_false,Option.bind_some,Bool.not_true,Qe hk,Qn hk,Qa,Int.toNat_natCast,d1,d2];have hset:=List.length_set (as:=l) (i:=k) (a:=(⟨l[k].Id,l[k].Who,l[k].Thing,l[k].At,s⟩:Claim));cases decide (l[k].State=0)<;>cases decide (s=1)<;>cases decide (s=2)<;>cases decide (l[k].State=1)<;>cases decide (s=3)<;>cases d<;>first|exact⟨(l,false),rfl,rfl,rfl⟩|exact⟨(l.set k ⟨l[k].Id,l[k].Who,l[k].Thing,l[k].At,s⟩,true),rfl,rfl,hset⟩
end Go.Proofs.YtonidbheohhgdaaGreat
namespace Go.Proofs.YtonidbheohhgdaaGreat
open Go
set_option linter.unusedVariables false
set_option linter.unusedSimpArgs false
theorem QF9(x:Thing)(d:Int):∃c,QcS x d=some c∧Qgq x d=some c:=by
 unfold QcS Qgq;rw[show JK x=XB x from rfl];obtain⟨b,b1,_,_⟩:=Qi7 x;rw[b1];simp only[Option.bind_some,Qc,Qb];cases b with
 |false=>exact⟨0,rfl,rfl⟩
 |true =>
  cases hd:(decide (0≤d)&&decide (d≤1000))with
  |false=>exact⟨0,rfl,rfl⟩
  |true =>
   simp only[Bool.and_eq_true,decide_eq_true_eq]at hd;have hw:0≤x.Worth∧x.Worth≤10000000:=by
    unfold XB Qc at b1;simp only[Option.bind_some]at b1;revert b1;cases (decide (1≤x.Id)&&decide (x.Id≤999))<;>cases (decide (1≤x.Kind)&&decide (x.Kind≤8))<;>cases (decide (0≤x.Colour)&&decide (x.Colour≤7))<;>cases (decide (1≤x.Size)&&decide (x.Size≤50))<;>simp
   have ht0:=Int.tdiv_nonneg hw.1 (show(0:Int)≤10 by omega)
   have ht1:x.Worth.tdiv 10≤x.Worth:=by
    rw[Int.tdiv_eq_ediv_of_nonneg hw.1];omega
   simp only[Bool.not_true,cond_false,Option.bind_some,Qbr];rw[QS (show _≤10*d by omega) (by omega),QS (show _≤100+10*d by omega) (by omega),QS (show _≤x.Worth.tdiv 10 by omega) (by omega)]
   by_cases h:x.Worth.tdiv 10<100+10*d
   ·rw[decide_eq_true h,if_pos h]
    refine⟨_,rfl,?_⟩;by_cases h':0<x.Worth.tdiv 10
    ·rw[if_pos h']
    ·rw[if_neg h'];congr 1;omega
   ·rw[decide_eq_false h,if_neg h]
    refine⟨_,rfl,?_⟩;rw[if_pos (by omega)]
theorem QuK(h:House)(t:Int)(hm:Qi h):∃r,Zc h t=some r∧QdU h t=some r∧Qi r.1:=by
 have hm7:=hm;obtain⟨m1,m2,m3,m4,m5,m6,m7⟩:=hm7;obtain⟨p,p1,p2,p3⟩:=Qkn h.Claims t m4;obtain⟨w,w1,w2⟩:=Qc2 h.Slots t m3;unfold Zc QdU QbS;simp only[p1,p2,(Jr h.Finds t m1).1,(Jr h.Finds t m1).2,(Xp h hm).1,(Xp h hm).2,XA h hm,Jw h hm,w1,w2,Option.bind_some]
 rcases Qjy h.Finds t with hx|⟨k,hk,hx⟩
 ·rw[hx]
  refine⟨(h,false),?_,?_,hm⟩
  ·cases decide (p=0)<;>rfl
  ·cases XT h<;>rfl
 ·rw[hx,decide_eq_false (show ¬(k:Int)<0 by omega)]
  cases hb:XT h with
  |false=>exact⟨(h,false),by cases decide (p=0)<;>rfl,rfl,hm⟩
  |true =>
   by_cases hp:p=0
   ·rw[decide_eq_true hp]
    refine⟨(h,false),rfl,?_,hm⟩;cases Zg h.Slots t with
    |false=>rfl
    |true=>simp only[Qe hk,Qa];rfl
   ·rw[decide_eq_false hp]
    obtain⟨j,hj,hjd⟩:=p3.resolve_left hp;obtain⟨c,hc,hcx,hcid⟩:=Qj5 h.Claims p j hj hjd;obtain⟨g,g1,g2,g3,g4,g5,g6,g7⟩:=Qot h t 3 h.Claims[c].Who hm;obtain⟨s,s1,s2,s3⟩:=Qxb h.Claims p 3 m4;obtain⟨f,f1,f2⟩:=QF9 (h.Finds[k]).Thing (w64 ((w64 (h.Now-(h.Finds[k]).At)).tdiv 24));obtain⟨e,e1,e2,e3⟩:=QlM h.Book ⟨h.Claims[c].Who,0,f,h.Now⟩ m7;have hm7':=g3;obtain⟨n1,n2,n3,n4,n5,n6,n7⟩:=hm7';have o1:Qi ⟨g.1.No,g.1.Finds,g.1.Secrets,g.1.Slots,s.1,g.1.Trials,g.1.Chain,g.1.Book,g.1.Now⟩:=⟨n1,n2,n3,by show s.1.length≤_;omega,n5,n6,n7⟩
    have o2:Qi ⟨g.1.No,g.1.Finds,g.1.Secrets,g.1.Slots,s.1,g.1.Trials,g.1.Chain,e.1,g.1.Now⟩:=⟨n1,n2,n3,by show s.1.length≤_;omega,n5,n6,e3⟩
    have hpay:ZB ⟨g.1.No,g.1.Finds,g.1.Secrets,g.1.Slots,s.1,g.1.Trials,g.1.Chain,g.1.Book,g.1.Now⟩ h.Claims[c].Who 0 f =
      some (bif decide (f=0)then(⟨g.1.No,g.1.Finds,g.1.Secrets,g.1.Slots,s.1,g.1.Trials,g.1.Chain,g.1.Book,g.1.Now⟩,true)else(⟨g.1.No,g.1.Finds,g.1.Secrets,g.1.Slots,s.1,g.1.Trials,g.1.Chain,e.1,g.1.Now⟩,e.2)):=by
     unfold ZB;simp only[g5,g6,e1,Option.bind_some];cases decide (f=0)<;>rfl
    have hin:(bif Zg h.Slots t then g.2 else false)=g.2:=by
     cases hi:Zg h.Slots t with
     |true=>rfl
     |false=>rw[g4 hi];rfl
    simp only[cond_false,Bool.not_true,Option.bind_some,(QbQ h.Claims p m4).1,(QbQ h.Claims p m4).2,hcx,Qe hc,Qn hc,Qe hk,Qn hk,Qa,g1,s1,f1,hpay];have hspec:∀b:Bool,(bif b then(bif s.2 then(Qk h (bif decide (f=0)then(⟨g.1.No,g.1.Finds,g.1.Secrets,g.1.Slots,s.1,g.1.Trials,g.1.Chain,g.1.Book,g.1.Now⟩,true)else(⟨g.1.No,g.1.Finds,g.1.Secrets,g.1.Slots,s.1,g.1.Trials,g.1.Chain,e.1,g.1.Now⟩,e.2):House×Bool).1 (bif decide (f=0)then(⟨g.1.No,g.1.Finds,g.1.Secrets,g.1.Slots,s.1,g.1.Trials,g.1.Chain,g.1.Book,g.1.Now⟩,true)else(⟨g.1.No,g.1.Finds,g.1.Secrets,g.1.Slots,s.1,g.1.Trials,g.1.Chain,e.1,g.1.Now⟩,e.2):House×Bool).2).bind fun r10=>some (r10.1,r10.2)else(Qk h (bif decide (f=0)then(⟨g.1.No,g.1.Finds,g.1.Secrets,g.1.Slots,s.1,g.1.Trials,g.1.Chain,g.1.Book,g.1.Now⟩,true)else(⟨g.1.No,g.1.Finds,g.1.Secrets,g.1.Slots,s.1,g.1.Trials,g.1.Chain,e.1,g.1.Now⟩,e.2):House×Bool).1 false).bind fun r11=>some (r11.1,r11.2))else(Qk h (bif decide (f=0)then(⟨g.1.No,g.1.Finds,g.1.Secrets,g.1.Slots,s.1,g.1.Trials,g.1.Chain,g.1.Book,g.1.Now⟩,true)else(⟨g.1.No,g.1.Finds,g.1.Secrets,g.1.Slots,s.1,g.1.Trials,g.1.Chain,e.1,g.1.Now⟩,e.2):House×Bool).1 false).bind fun r12=>some (r12.1,r12.2)) =
      some (bif decide (f=0)then Qbc h ⟨g.1.No,g.1.Finds,g.1.Secrets,g.1.Slots,s.1,g.1.Trials,g.1.Chain,g.1.Book,g.1.Now⟩ (b&&s.2)else Qbc h ⟨g.1.No,g.1.Finds,g.1.Secrets,g.1.Slots,s.1,g.1.Trials,g.1.Chain,e.1,g.1.Now⟩ (b&&(s.2&&e.2))):=by
     intro b;cases decide (f=0)with
     |true =>
      simp only[cond_true,Qci h _ _ hm o1,Option.bind_some];cases b<;>cases s.2<;>rfl
     |false =>
      simp only[cond_false,Qci h _ _ hm o2,Option.bind_some];cases b<;>cases s.2<;>rfl
    rw[hspec];refine⟨_,rfl,?_,?_⟩
    ·cases hi:Zg h.Slots t with
     |false =>
      rw[g4 hi];simp only[Bool.not_false,Option.bind_some,cond_true,Bool.not_false,Bool.true_or,Bool.false_and,Qd3];cases decide (f=0)<;>rfl
     |true =>
      simp only[Bool.not_true,Option.bind_some,cond_false,Bool.or_false,Bool.false_or,decide_eq_false hp,(QbQ h.Claims p m4).2,hcx,Qe hc,Qn hc,Qe hk,Qn hk,Qa,g2,s2,f2];cases hf:decide (f=0)with
      |true =>
       simp only[Bool.not_true,cond_false,cond_true,QaF h _ _ hm o1 (show[g.2,s.2,true].length≤1048576 by simp),Option.bind_some,List.all_cons,List.all_nil,Bool.and_true,id_eq]
      |false =>
       simp only[Bool.not_false,cond_false,cond_true,e2,QaF h _ _ hm o2 (show[g.2,s.2,e.2].length≤1048576 by simp),Option.bind_some,List.all_cons,List.all_nil,Bool.and_true,id_eq]
    ·cases decide (f=0)with
     |true=>exact Z1 _ _ _ hm o1
     |false=>exact Z1 _ _ _ hm o2
end Go.Proofs.YtonidbheohhgdaaGreat
namespace Go.Proofs.YtonidbheohhgdaaGreat
open Go
set_option linter.unusedVariables false
set_option linter.unusedSimpArgs false
theorem QxR(h:House)(out:House)(hm:Qi h):Qcs h out [false]=some (h,false):=by
 unfold Qcs;simp only[Qk7 [false] (by simp),Jw h hm,Option.bind_some]
 rfl
theorem Quq(h:House)(t:Int)(hm:Qi h):∃r,J7 h t=some r∧QdM h t=some r∧Qi r.1:=by
 have hm7:=hm;obtain⟨m1,m2,m3,m4,m5,m6,m7⟩:=hm7;obtain⟨w,w1,w2⟩:=Qc2 h.Slots t m3;unfold J7 QdM QbS;simp only[(Jr h.Finds t m1).1,(Jr h.Finds t m1).2,(Xp h hm).1,(Xp h hm).2,XA h hm,Jw h hm,w1,w2,Option.bind_some]
 rcases Qjy h.Finds t with hx|⟨k,hk,hx⟩
 ·rw[hx]
  refine⟨(h,false),rfl,?_,hm⟩;cases XT h<;>rfl
 ·rw[hx,decide_eq_false (show ¬(k:Int)<0 by omega)]
  cases hb:XT h with
  |false=>exact⟨(h,false),rfl,rfl,hm⟩
  |true =>
   obtain⟨f,f1,f2⟩:=Qxm h.Finds[k] h.Claims h.Now m4;obtain⟨a,a1,a2,a3,a4,_⟩:=Qot h t 3 (h.Finds[k]).Finder hm;obtain⟨b,b1,b2,b3,b4,_⟩:=Qot h t 5 0 hm;simp only[cond_false,Bool.not_true,Option.bind_some,Qe hk,Qn hk,Qa,f1,a1,b1,Qci h _ _ hm a3,Qci h _ _ hm b3];refine⟨bif decide (f=2)then Qbc h a.1 a.2 else bif decide (f=4)then Qbc h b.1 b.2 else bif decide (f=5)then Qbc h b.1 b.2 else(h,false),?_,?_,?_⟩
   ·cases decide (f=2)<;>cases decide (f=4)<;>cases decide (f=5)<;>rfl
   ·cases hi:Zg h.Slots t with
    |false =>
     rw[a4 hi,b4 hi];simp only[Bool.not_false,Option.bind_some,cond_true,Qd3];cases decide (f=2)<;>cases decide (f=4)<;>cases decide (f=5)<;>rfl
    |true =>
     simp only[Bool.not_true,Option.bind_some,cond_false,Qe hk,Qn hk,Qa,f2,a2,b2,QxR h h hm,QaF h _ _ hm a3 (show[a.2].length≤1048576 by simp),QaF h _ _ hm b3 (show[b.2].length≤1048576 by simp),List.all_cons,List.all_nil,Bool.and_true,id_eq]
     cases decide (f=2)<;>cases decide (f=4)<;>cases decide (f=5)<;>rfl
   ·cases decide (f=2)<;>cases decide (f=4)<;>cases decide (f=5)<;>first|exact Z1 _ _ _ hm a3|exact Z1 _ _ _ hm b3|exact hm
end Go.Proofs.YtonidbheohhgdaaGreat
namespace Go.Proofs.YtonidbheohhgdaaGreat
open Go
set_option linter.unusedVariables false
set_option linter.unusedSimpArgs false
theorem Qw5(h:House)(n:Int)(hm:Qi h):∃r,ZL h n=some r∧Qez h n=some r∧Qi r.1:=by
 have ho:Qi ⟨h.No,h.Finds,h.Secrets,h.Slots,h.Claims,h.Trials,h.Chain,h.Book,w64 (h.Now+n)⟩:=hm;refine⟨Qbc h ⟨h.No,h.Finds,h.Secrets,h.Slots,h.Claims,h.Trials,h.Chain,h.Book,w64 (h.Now+n)⟩ (decide (1≤n)&&decide (n≤10000)),?_,?_,Z1 _ _ _ hm ho⟩
 ·unfold ZL
  simp only[XA h hm,Qc,Qci h _ _ hm ho,Option.bind_some];cases hn:(decide (1≤n)&&decide (n≤10000))with
  |false=>rfl
  |true =>
   cases hw:(decide (0≤h.Now)&&decide (h.Now≤100000))with
   |true=>rfl
   |false =>
    have hb:XT h=false:=by
     cases hb:XT h with
     |false=>rfl
     |true =>
      have:=(QgB h hm hb).now;rw[decide_eq_true this.1,decide_eq_true this.2]at hw;cases hw
    rw[Quu _ _ _ hb];rfl
 ·unfold Qez
  simp only[Jw h hm,Qb,Option.bind_some,QaF h _ _ hm ho (show[decide (1≤n)&&decide (n≤10000)].length≤1048576 by simp),List.all_cons,List.all_nil,Bool.and_true,id]
end Go.Proofs.YtonidbheohhgdaaGreat
namespace Go.Proofs.YtonidbheohhgdaaGreat
open Go
set_option linter.unusedVariables false
set_option linter.unusedSimpArgs false
theorem Qr5(h:House)(e:Event)(hm:Qi h)(he:Z5 e):∃r,XN h e=some r∧Qfv h e=some r∧Qi r.1:=by
 obtain⟨a1,b1,c1,d1⟩:=Qv7 h e.Find e.Marks e.N hm he.1;obtain⟨a2,b2,c2,d2⟩:=Qvk h e.Id e.Who e.N hm;obtain⟨a3,b3,c3,d3⟩:=Qq8 h e.Id e.N hm;obtain⟨a4,b4,c4,d4⟩:=QuK h e.N hm;obtain⟨a5,b5,c5,d5⟩:=QyA h e.N e.Bids hm he.2;obtain⟨a6,b6,c6,d6⟩:=Quq h e.N hm;obtain⟨a7,b7,c7,d7⟩:=Qw5 h e.N hm;unfold XN Qfv;rw[b1,c1,b2,c2,b3,c3,b4,c4,b5,c5,b6,c6,b7,c7,XA h hm,Jw h hm];cases decide (e.Kind=1)with
 |true=>exact⟨a1,rfl,rfl,d1⟩
 |false =>
 cases decide (e.Kind=2)with
 |true=>exact⟨a2,rfl,rfl,d2⟩
 |false =>
 cases decide (e.Kind=3)with
 |true=>exact⟨a3,rfl,rfl,d3⟩
 |false =>
 cases decide (e.Kind=4)with
 |true=>exact⟨a4,rfl,rfl,d4⟩
 |false =>
 cases decide (e.Kind=5)with
 |true=>exact⟨a5,rfl,rfl,d5⟩
 |false =>
 cases decide (e.Kind=6)with
 |true=>exact⟨a6,rfl,rfl,d6⟩
 |false =>
 cases decide (e.Kind=7)with
 |true=>exact⟨a7,rfl,rfl,d7⟩
 |false=>exact⟨(h,false),rfl,rfl,hm⟩
end Go.Proofs.YtonidbheohhgdaaGreat
namespace Go.Proofs.YtonidbheohhgdaaGreat
open Go
set_option linter.unusedVariables false
set_option linter.unusedSimpArgs false
def Qrl(l:List Slot):Prop:=l.length≤8∧∀i (h:i<l.length),l[i].Id=(i:Int)+1∧1≤l[i].Size∧l[i].Size≤50∧l[i].Thing=0
theorem QrB(c:l1Cur)(h:okC c):∃c' l,Qbu c=some (c',l)∧okC c'∧Qrl l:=by
 have key:∀(m:Nat) (c:l1Cur) (l:List Slot) (i:Int),okC c→i+(m:Int)=8→i=(l.length:Int)+1→Qrl l→∃c' l',run J3 (c,l,i)=some (c',l')∧okC c'∧Qrl l':=by
  intro m
  induction m with
  |zero =>
   intro c l i hc hi hl hg;obtain⟨c1,x1,e1,k1,l1,u1⟩:=Ql c 5 hc;have u1:=u1 (by omega)
   refine⟨c1,l,?_,k1,hg⟩;rw[Qg];simp only[J3,e1,Option.bind_some,show w64 (3+x1)=3+x1 from QS (by omega) (by omega),decide_eq_false (show ¬i≤3+x1 by omega),cond_false]
  |succ m ih =>
   intro c l i hc hi hl hg;obtain⟨c1,x1,e1,k1,l1,u1⟩:=Ql c 5 hc;have u1:=u1 (by omega)
   obtain⟨c2,x2,e2,k2,l2,u2⟩:=Ql c1 4 k1;have u2:=u2 (by omega)
   rw[Qg];simp only[J3,e1,e2,Option.bind_some,show w64 (3+x1)=3+x1 from QS (by omega) (by omega),QR (show l.length+1≤2000000 by omega) (show 24≤1024 by omega),Qa,show w64 (i+1)=i+1 from QS (by omega) (by omega),show w64 (5*x2)=5*x2 from QS (by omega) (by omega),show w64 (10+5*x2)=10+5*x2 from QS (by omega) (by omega)]
   by_cases hd:i≤3+x1
   ·rw[decide_eq_true hd]
    refine ih c2 _ (i+1) k2 (by omega) (by simp;omega) ⟨by simp;omega,fun j hj=>?_⟩
    by_cases hjl:j<l.length
    ·rw[List.getElem_append_left hjl];exact hg.2 j hjl
    ·have:j=l.length:=by simp at hj;omega
     subst this;simp only[List.getElem_append_right (Nat.le_refl _),Nat.sub_self,List.getElem_cons_zero];exact⟨hl,by omega,by omega,trivial⟩
   ·rw[decide_eq_false hd]
    exact⟨c1,l,rfl,k1,hg⟩
 obtain⟨c',l',r1,r2,r3⟩:=key 7 c [] 1 h (by omega) (by simp) ⟨by simp,fun i h=>by simp at h⟩
 exact⟨c',l',by unfold Qbu;rw[r1];rfl,r2,r3⟩
theorem Qrd(l:List Slot)(hg:Qrl l):V2 l=some true:=by
 obtain⟨hl,hg⟩:=hg;have inner:∀i (hi:i<l.length),run (Vo l (i:Int)) 0=some (.brk ()):=by
  intro i hi;have key:∀(m j:Nat),j+m=i→run (Vo l (i:Int)) (j:Int)=some (.brk ()):=by
   intro m
   induction m with
   |zero=>intro j hj;rw[Qg];simp only[Vo,decide_eq_false (show ¬(j:Int)<(i:Int)by omega),cond_false,Option.bind_some]
   |succ m ih =>
    intro j hj;rw[Qg];simp only[Vo,decide_eq_true (show(j:Int)<(i:Int)by omega),Qe hi,Qn hi,(hg i hi).2.2.2,decide_true,Bool.not_true,cond_true,cond_false,Qa,Option.bind_some,Qy (show(j:Int)<9223372036854775807 by omega)]
    exact ih (j+1) (by omega)
  exact key i 0 (by omega)
 have key:∀(m i:Nat),i+m=l.length→run (Q3 l) (i:Int)=some (.brk ()):=by
  intro m
  induction m with
  |zero =>
   intro i hi;have:i=l.length:=by omega
   subst this;rw[Qg];simp only[Q3,Qv (Nat.le_refl _),cond_false,Option.bind_some]
  |succ m ih =>
   intro i hi;have hlt:i<l.length:=by omega
   obtain⟨g1,g2,g3,g4⟩:=hg i hlt;rw[Qg];simp only[Q3,Qr hlt,Qe hlt,Qn hlt,Qc,cond_true,Qa,Option.bind_some,g1,g4,decide_eq_true (show(1:Int)≤(i:Int)+1 by omega),decide_eq_true (show(i:Int)+1≤99 by omega),decide_eq_true g2,decide_eq_true g3,show decide ((0:Int)≤0)=true from rfl,show decide ((0:Int)≤999)=true from rfl,Bool.and_self,Bool.not_true,cond_false,inner i hlt,evO,Qy (show(i:Int)<9223372036854775807 by omega)]
   by_cases h0:0<i
   ·obtain⟨p1,_⟩:=hg (i-1) (by omega)
    simp only[decide_eq_true (show(0:Int)<(i:Int)by omega),XX h0 (by omega),Qe (show i-1<l.length by omega),Qn (show i-1<l.length by omega),p1,decide_eq_false (show ¬(i:Int)+1≤((i-1:Nat):Int)+1 by omega),cond_true,cond_false,Qa,Option.bind_some]
    exact ih (i+1) (by omega)
   ·simp only[decide_eq_false (show ¬(0:Int)<(i:Int)by omega),cond_false,Option.bind_some]
    exact ih (i+1) (by omega)
 unfold V2;rw[show run (Q3 l) 0=some (.brk ())from key l.length 0 (by omega)]
 simp only[Option.bind_some,evO];rw[decide_eq_true (show ln l≤30 by rw[VE];omega)]
theorem Qut(l:List Slot)(hg:Qrl l):QaL l=some (l.length:Int):=by
 have key:∀(m i:Nat),i+m=l.length→run (XD l) ((i:Int),(i:Int))=some (l.length:Int):=by
  intro m
  induction m with
  |zero =>
   intro i hi;have:i=l.length:=by omega
   subst this;rw[Qg];simp only[XD,Qv (Nat.le_refl _),cond_false,Option.bind_some]
  |succ m ih =>
   intro i hi;have hlt:i<l.length:=by omega
   have:=hg.1;rw[Qg];simp only[XD,Qr hlt,Qe hlt,Qn hlt,(hg.2 i hlt).2.2.2,decide_true,cond_true,Qa,Option.bind_some,Qy (show(i:Int)<9223372036854775807 by omega)]
   exact ih (i+1) (by omega)
 unfold QaL;rw[show run (XD l) (0,0)=some (l.length:Int)from key l.length 0 (by omega)];rfl
theorem Qj9(no:Int)(l:List Slot)(h1:1≤no)(h2:no≤9)(hg:Qrl l):QJ ⟨no,[],[],l,[],[],[],[],0⟩=some true:=by
 have e1:V1 []=some true:=by unfold V1;rw[Qg];rfl
 have e2:V7 []=some true:=by unfold V7;rw[Qg];rfl
 have e3:QF []=some true:=by unfold QF;rw[Qg];rfl
 have e4:Vv []=some true:=by unfold Vv;rw[Qg];rfl
 have e5:V5 []=some true:=by unfold V5;rw[Qg];rfl
 have e6:∀n,Qae [] n=some []:=fun n=>by unfold Qae;rw[Qg];rfl
 have e7:Jk ⟨no,[],[],l,[],[],[],[],0⟩=some true:=by unfold Jk;rw[Qg];rfl
 have e8:run (Vi ⟨no,[],[],l,[],[],[],[],0⟩) 0=some (.brk ()):=by
  have key:∀(m i:Nat),i+m=l.length→run (Vi ⟨no,[],[],l,[],[],[],[],0⟩) (i:Int)=some (.brk ()):=by
   intro m
   induction m with
   |zero =>
    intro i hi;have:i=l.length:=by omega
    subst this;rw[Qg];simp only[Vi,Qv (Nat.le_refl _),cond_false,Option.bind_some]
   |succ m ih =>
    intro i hi;have hlt:i<l.length:=by omega
    have:=hg.1;rw[Qg];simp only[Vi,Qr hlt,Qe hlt,Qn hlt,(hg.2 i hlt).2.2.2,decide_true,Bool.not_true,cond_true,cond_false,Qa,Option.bind_some,Qy (show(i:Int)<9223372036854775807 by omega)]
    exact ih (i+1) (by omega)
  exact key l.length 0 (by omega)
 have e9:Je ⟨no,[],[],l,[],[],[],[],0⟩=some true:=by
  unfold Je;simp only[decide_true,Bool.not_true,cond_false,e6,Option.bind_some];rw[Qg];simp only[XG,show decide ((0:Int)<ln ([]:List Int))=false from rfl,cond_false,Option.bind_some,evO];rw[Qg];simp only[Xh,show decide ((0:Int)<ln ([]:List Find))=false from rfl,cond_false,Option.bind_some,evO];rw[e8];rfl
 unfold QJ;simp only[Qc,decide_eq_true h1,decide_eq_true h2,Bool.and_self,Bool.not_true,cond_false,e1,e2,e3,e4,e5,e7,e9,Qrd l hg,Option.bind_some,show decide ((0:Int)≤0)=true from rfl,show decide ((0:Int)≤100000)=true from rfl,show decide ((0:Int)<ln ([]:List Hand))=false from rfl,show decide ((0:Int)<ln ([]:List Entry))=false from rfl,cond_true]
theorem Qum(no:Int)(l:List Slot)(h1:1≤no)(h2:no≤9)(hg:Qrl l):Qbo no l=some (⟨no,[],[],l,[],[],[],[],0⟩,true):=by
 have hl:=hg.1;have hm:Qi ⟨no,[],[],l,[],[],[],[],0⟩:=⟨by simp,⟨by simp,by simp⟩,by simp only;omega,by simp,by simp,by simp,by simp⟩
 have hv:=Qj9 no l h1 h2 hg;unfold Qbo;rw[XA _ hm];simp only[Option.bind_some,hv,Qut l hg,VE,decide_true,Bool.not_true,cond_false]
theorem Qkj(c:l1Cur)(h:okC c):∃c' a,Qax c=some (c',a)∧okC c'∧Qi a∧QJ a=some true:=by
 obtain⟨c1,x1,e1,k1,l1,u1⟩:=Ql c 3 h;have u1:=u1 (by omega)
 obtain⟨c2,l,e2,k2,hg⟩:=QrB c1 k1;have hl:=hg.1;have ew:w64 (1+x1)=1+x1:=QS (by omega) (by omega)
 exact⟨c2,_,by unfold Qax;simp only[e1,e2,ew,Qum (1+x1) l (by omega) (by omega) hg,Option.bind_some],k2,⟨by simp,⟨by simp,by simp⟩,by simp only;omega,by simp,by simp,by simp,by simp⟩,Qj9 (1+x1) l (by omega) (by omega) hg⟩
end Go.Proofs.YtonidbheohhgdaaGreat
namespace Go.Proofs.YtonidbheohhgdaaGreat
open Go
set_option linter.unusedVariables false
set_option linter.unusedSimpArgs false
theorem Quh(c:l1Cur)(h:okC c):∃c' l,QcW c=some (c',l)∧okC c'∧l.length≤100:=by
 have key:∀(m:Nat) (c:l1Cur) (l:List Bid) (i:Int),okC c→i+(m:Int)=7→0≤i→l.length+m≤100→∃c' l',run ZZ (c,l,i)=some (c',l')∧okC c'∧l'.length≤100:=by
  intro m
  induction m with
  |zero =>
   intro c l i hc hi h0 hl;obtain⟨c1,x1,e1,k1,l1,u1⟩:=Ql c 7 hc;have u1:=u1 (by omega)
   refine⟨c1,l,?_,k1,by omega⟩
   rw[Qg];simp only[ZZ,e1,Option.bind_some,decide_eq_false (show ¬i≤x1 by omega),cond_false]
  |succ m ih =>
   intro c l i hc hi h0 hl;obtain⟨c1,x1,e1,k1,l1,u1⟩:=Ql c 7 hc;obtain⟨c2,x2,e2,k2,_⟩:=Ql c1 12 k1;obtain⟨s,hs⟩:=QjK [7,i,w64 (1+x2)] (by simp)
   have hsb:Qcp 7 i (w64 (1+x2))=some s:=by unfold Qcp;rw[hs];rfl
   rw[Qg];simp only[ZZ,e1,e2,hsb,Option.bind_some,QR (show l.length+1≤2000000 by omega) (show 24≤1024 by omega),Qa,show w64 (i+1)=i+1 from QS (by omega) (by omega)]
   by_cases hd:i≤x1
   ·rw[decide_eq_true hd]
    exact ih c2 _ (i+1) k2 (by omega) (by omega) (by simp;omega)
   ·rw[decide_eq_false hd]
    exact⟨c1,l,rfl,k1,by omega⟩
 obtain⟨c1,l,r1,k1,n1⟩:=key 6 c [] 1 h (by omega) (by omega) (by simp)
 unfold QcW;rw[r1];simp only[Option.bind_some];by_cases h0:0<ln l
 ·rw[decide_eq_true h0]
  obtain⟨c2,x2,e2,k2,l2,u2⟩:=Ql c1 (ln l) k1;have u2:=u2 h0;rw[VE]at u2;have hin:inb l x2=true:=by rw[Qb4];omega
  obtain⟨c3,x3,e3,k3,_⟩:=Ql c2 10 k2;obtain⟨c4,x4,e4,k4,_⟩:=QaR c3 [0,1,999,1000] k3 (by simp)
  obtain⟨c5,x5,e5,k5,_⟩:=QaR c3 [0,10000000,10000001] k3 (by simp)
  simp only[e2,e3,e4,e5,hin,Option.bind_some,cond_true,Qa];cases decide (x3=0)with
  |true=>exact⟨_,_,rfl,k4,by rw[List.length_set];exact n1⟩
  |false =>
  cases decide (x3=1)with
  |true=>exact⟨_,_,rfl,k5,by rw[List.length_set];exact n1⟩
  |false=>exact⟨_,_,rfl,k3,n1⟩
 ·rw[decide_eq_false h0]
  exact⟨c1,l,rfl,k1,n1⟩
end Go.Proofs.YtonidbheohhgdaaGreat
