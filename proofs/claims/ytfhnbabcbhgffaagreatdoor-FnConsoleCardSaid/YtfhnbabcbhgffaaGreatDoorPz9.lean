import Derived.Test.YtfhnbabcbhgffaaGreatDoorPz8
set_option linter.unusedVariables false
set_option linter.unusedSimpArgs false
set_option linter.defProp false
namespace Go.Proofs.YtfhnbabcbhgffaaGreatDoor
open Go
structure Jh (a:Ql):Prop where
 sm:QS a
 lk:Lk a
 bd:Bd a
def iy(h:Ql)(hm:QS h)(ht:Vv h=some true):VR h.Book=some true:=by
 obtain⟨m1,m2,m3,m4,m5,m6,m7⟩:=hm;obtain⟨f,f1,f2,f3⟩:=M4 h.Qt m1;obtain⟨s,s1,s2⟩:=LK h.Qn m2.1 (λx hx=>m2.2 x hx)
 obtain⟨t,t1,t2,t3⟩:=K8 h.Qs m3;obtain⟨c,c1,c2,c3⟩:=Hb h.Qv m4;obtain⟨n,n1,n2,n3⟩:=RA h.Qw;obtain⟨b,b1,b2,b3⟩:=Gi h.Book m7;unfold Vv at ht;simp only[QO,f1,s1,t1,c1,n1,b1,Qa]at ht;cases hN:(decide (1≤h.No)&&decide (h.No≤9))with
 |false=>rw[hN]at ht;cases ht
 |true =>
 rw[hN]at ht;cases f with
 |false=>cases ht
 |true =>
 cases s with
 |false=>cases ht
 |true =>
 cases t with
 |false=>cases ht
 |true =>
 cases c with
 |false=>cases ht
 |true =>
 cases n with
 |false=>cases ht
 |true =>
 cases b with
 |false=>cases ht
 |true=>exact b1
def eN(l:List Entry)(n v:Int)(hl:l.length≤1048576)(hv:VR l=some true)(h:Ac l n=some v):-1000000000≤v∧v≤1000000000:=by
 obtain⟨b,e1,e2,e3⟩:=Gi l hl;rw[hv]at e1;injection e1 with e1
 subst e1;have hn:=(e3 rfl).1;obtain⟨w,w1,w2⟩:=MS l n hl;rw[h]at w1;injection w1 with w1
 subst w1;rw[rx l n hl hv]at w2;injection w2 with w2
 obtain⟨⟨b1,b2⟩,b3,b4⟩:=de n l (OJ l hl hv);omega
def Jh.of_valid{a:Ql}(hm:QS a)(hv:Vv a=some true):Jh a:=by
 refine⟨hm,Lk.kp Lk.zero ⟨hm,.inr hv⟩,λn v h=>eN _ n v hm.2.2.2.2.2.2 (iy a hm hv) h⟩
def Jh.zero:Jh ⟨0,[],[],[],[],[],[],[],0⟩:=⟨sH,Lk.zero,λn v h=>by
 refine eN [] n v (by simp) ?_ h
 obtain⟨b,e1,e2,e3⟩:=Gi [] (by simp)
 unfold VR;rw[show run (VO []) 0=some (.brk ())from rR rfl];rfl⟩
def Jh.step{a:Ql}(hj:Jh a){r:Ql×Bool}(hm:QS r.1)(hq:Q a r):Jh r.1:=by
 cases h:r.2 with
 |true=>exact Jh.of_valid hm (hq.1 h).2
 |false=>rw[hq.2 h];exact hj
def Jh.new(no:Int)(l:List Qr){r:Ql×Bool}(hl:l.length≤1048576)(h:XU no l=some r):Jh r.1:=by
 obtain⟨r',h1,_,hm⟩:=gX no l hl;rw[h]at h1;injection h1 with h1
 subst h1;cases hb:r.2 with
 |true=>exact Jh.of_valid hm (QiP no l h hb)
 |false =>
  have hz:r.1=⟨0,[],[],[],[],[],[],[],0⟩:=by
   unfold XU at h;obtain⟨q,_,h⟩:=Option.bind_eq_some_iff.1 h;obtain⟨b,_,h⟩:=Option.bind_eq_some_iff.1 h;cases b with
   |true=>injection h with h;subst h;rfl
   |false=>injection h with h;subst h;cases hb
  rw[hz];exact Jh.zero
def Jh.at20{a:Ql}(h:Jh a):Jh ⟨a.No,a.Qt,a.Qn,a.Qs,a.Qv,a.Qq,a.Qw,a.Book,20⟩ :=
 ⟨h.sm,⟨h.lk.no,by show i64 20;unfold i64;omega,h.lk.slots,h.lk.claims,h.lk.chain,h.lk.finds⟩,h.bd⟩
def Jp(x:Option ((l1Cur×Ql×Int)⊕(l1Cur×Ql))):Prop:=∀s,x=some s→match s with|.inl q=>Jh q.2.1|.inr q=>Jh q.2
def Jp.bind{A:Type}{o:Option A}{k:A→Option ((l1Cur×Ql×Int)⊕(l1Cur×Ql))}(h:∀y,Jp (k y)):Jp (o.bind k):=λr hr=>by
 obtain⟨y,_,hy⟩:=Option.bind_eq_some_iff.1 hr;exact h y r hy
def Jp.cond{b:Bool}{x y:Option ((l1Cur×Ql×Int)⊕(l1Cur×Ql))}(hx:Jp x)(hy:Jp y):Jp (bif b then x else y):=by
 cases b with
 |true=>exact hx
 |false=>exact hy
def Jp.inl{q:l1Cur×Ql×Int}(h:Jh q.2.1):Jp (some (.inl q)):=λr hr=>by injection hr with hr;subst hr;exact h
def Jp.inr{q:l1Cur×Ql}(h:Jh q.2):Jp (some (.inr q)):=λr hr=>by injection hr with hr;subst hr;exact h
def Jp.stp{a:Ql}{o:Option (Ql×Bool)}{k:Ql×Bool→Option ((l1Cur×Ql×Int)⊕(l1Cur×Ql))}(hj:Jh a)(h1:∃r,o=some r∧QS r.1)(hq:Qd a o)(hk:∀r,Jh r.1→Jp (k r)):Jp (o.bind k):=by
 obtain⟨r,e,hm⟩:=h1;subst e;exact hk r (hj.step hm (hq r rfl))
def sm1{o o':Option (Ql×Bool)}(h:∃r,o=some r∧o'=some r∧QS r.1):∃r,o=some r∧QS r.1:=h.elim λr h=>⟨r,h.1,h.2.2⟩
def zy(c:l1Cur)(a:Ql)(i:Int)(hc:IX c)(hj:Jh a){r:l1Cur×Ql}(h:ZW c a i=some r):Jh r.2:=by
 obtain⟨c',x,e,_,hm⟩:=MH c a i hc hj.sm;rw[h]at e;injection e with e
 subst e;unfold ZW at h;obtain⟨_,_,h⟩:=Option.bind_eq_some_iff.1 h;obtain⟨_,_,h⟩:=Option.bind_eq_some_iff.1 h;obtain⟨_,_,h⟩:=Option.bind_eq_some_iff.1 h;obtain⟨_,_,h⟩:=Option.bind_eq_some_iff.1 h;obtain⟨_,_,h⟩:=Option.bind_eq_some_iff.1 h;obtain⟨_,_,h⟩:=Option.bind_eq_some_iff.1 h;obtain⟨r7,h7,h⟩:=Option.bind_eq_some_iff.1 h;injection h with h
 injection h with _ h
 subst h;exact hj.step hm (ck _ _ _ _ hj.sm _ h7)
def xI{c:l1Cur}{a:Ql}{i:Int}{r:l1Cur×Ql}(hc:IX c)(hj:Jh a)(h:run J2 (c,a,i)=some r):Jh r.2:=by
 refine YC (λs=>IX s.1∧Jh s.2.1) (λr=>Jh r.2) ?_ ?_ (s:=(c,a,i)) ⟨hc,hj⟩ h
 ·rintro⟨c,a,i⟩ s' ⟨hc,hj⟩ e
  unfold J2 at e;obtain⟨c1,x,e1,k1,_,_⟩:=Vp c 3 hc;simp only[e1,Qa]at e;cases hb:decide (i≤QV (1+x))with
  |false=>rw[hb]at e;cases e
  |true =>
   rw[hb,Qc]at e;obtain⟨c2,y,e2,k2,_⟩:=MH c1 a (QV (2*i)) k1 hj.sm;have hy:=zy c1 a _ k1 hj e2;rw[e2]at e;injection e with e
   injection e with e
   subst e;exact⟨k2,hy⟩
 ·rintro⟨c,a,i⟩ r ⟨hc,hj⟩ e
  unfold J2 at e;obtain⟨c1,x,e1,k1,_,_⟩:=Vp c 3 hc;simp only[e1,Qa]at e;cases hb:decide (i≤QV (1+x))with
  |false=>rw[hb]at e;injection e with e;injection e with e;subst e;exact hj
  |true =>
   rw[hb,Qc]at e;obtain⟨y,_,e⟩:=Option.bind_eq_some_iff.1 e;cases e
def YT(c:l1Cur)(a:Ql)(i:Int)(hj:Jh a):Jp (Zb (c,a,i)):=by
 have hC:∀x y z k,(∀r,Jh r.1→Jp (k r))→Jp ((Jo a x y z).bind k):=λx y z k hk=>Jp.stp hj (sm1 (Ts a x y z hj.sm)) (YJ a x y z hj.sm) hk
 have hT:∀x k,(∀r,Jh r.1→Jp (k r))→Jp ((Zw a x).bind k):=λx k hk=>Jp.stp hj (sm1 (Wv a x hj.sm)) (ce a x hj.sm) hk
 have hS:∀x k,(∀r,Jh r.1→Jp (k r))→Jp ((JW a x).bind k):=λx k hk=>Jp.stp hj (sm1 (Tg a x hj.sm)) (WA a x hj.sm) hk
 have hA:∀x y k,(∀r,Jh r.1→Jp (k r))→Jp ((XM a x y).bind k):=λx y k hk=>Jp.stp hj (sm1 (LS a x y hj.sm)) (TJ a x y hj.sm) hk
 unfold Zb
 repeat' first
  |exact Jp.inr hj
  |(refine hC _ _ _ _ λr hr=>?_;exact Jp.inl hr)
  |(refine hT _ _ λr hr=>?_;exact Jp.inl hr)
  |(refine hS _ _ λr hr=>?_;exact Jp.inl hr)
  |(refine hA _ _ _ λr hr=>?_;exact Jp.inl hr)
  |refine Jp.cond ?_ ?_
  |refine Jp.bind λy=>?_
def yc{c:l1Cur}{a:Ql}{i:Int}{r:l1Cur×Ql}(hj:Jh a)(h:run Zb (c,a,i)=some r):Jh r.2:=by
 refine YC (λs=>Jh s.2.1) (λr=>Jh r.2) ?_ ?_ (s:=(c,a,i)) hj h
 ·rintro⟨c,a,i⟩ s' hj e
  exact YT c a i hj _ e
 ·rintro⟨c,a,i⟩ r hj e
  exact YT c a i hj _ e
def o0(c:l1Cur)(h:IX c):∃c' a,Ds c=some (c',a)∧IX c'∧Jh a:=by
 obtain⟨c',a,e,k,hm⟩:=ig c h;refine⟨c',a,e,k,?_⟩;unfold Ds at e;obtain⟨c1,x,e1,k1,_,_⟩:=Vp c 3 h;obtain⟨c2,l,e2,k2,hl⟩:=gj c1 k1;simp only[e1,e2,Qa]at e;obtain⟨r3,h3,e⟩:=Option.bind_eq_some_iff.1 e;obtain⟨b,hb,e⟩:=Option.bind_eq_some_iff.1 e;have j1:=xI k2 (Jh.new _ _ (by omega) h3).at20 hb
 obtain⟨r4,h4,e⟩:=Option.bind_eq_some_iff.1 e;obtain⟨b2,h5,e⟩:=Option.bind_eq_some_iff.1 e;have j2:=yc j1 h5;injection e with e
 injection e with _ e
 subst e;exact j2
def rp(a:List QB)(hm:a.length≤1048576):B8 a a=some true:=by
 have q:∀x:QB,UT x x=true:=λx=>by simp[UT]
 have h:=Xe (step:=Jn a a (ln a)) (λi=>(i:Int)) (r:=.brk ()) a.length (λi hi=>by simp only[Jn,QY hi,QR hi,Q2 hi,q,Qh,Q3 (show(i:Int)<9223372036854775807 by omega),Qc,Qb,QL]) (by simp only[Jn,Q6 (Qg _),Qb])
 unfold B8;rw[show run (Jn a a (ln a)) 0=some (.brk ())from h,Qf rfl];rfl
def vd(a:List Mark)(hm:a.length≤1048576):Cd a a=some true:=by
 have q:∀x:Mark,UP x x=true:=λx=>by simp[UP]
 have h:=Xe (step:=Jx a a (ln a)) (λi=>(i:Int)) (r:=.brk ()) a.length (λi hi=>by simp only[Jx,QY hi,QR hi,Q2 hi,q,Qh,Q3 (show(i:Int)<9223372036854775807 by omega),Qc,Qb,QL]) (by simp only[Jx,Q6 (Qg _),Qb])
 unfold Cd;rw[show run (Jx a a (ln a)) 0=some (.brk ())from h,Qf rfl];rfl
def ur(a:List Qr)(hm:a.length≤1048576):Ca a a=some true:=by
 have q:∀x:Qr,UH x x=true:=λx=>by simp[UH]
 have h:=Xe (step:=Jr a a (ln a)) (λi=>(i:Int)) (r:=.brk ()) a.length (λi hi=>by simp only[Jr,QY hi,QR hi,Q2 hi,q,Qh,Q3 (show(i:Int)<9223372036854775807 by omega),Qc,Qb,QL]) (by simp only[Jr,Q6 (Qg _),Qb])
 unfold Ca;rw[show run (Jr a a (ln a)) 0=some (.brk ())from h,Qf rfl];rfl
def ny(a:List Qu)(hm:a.length≤1048576):Bt a a=some true:=by
 have q:∀x:Qu,Sn x x=true:=λx=>by simp[Sn]
 have h:=Xe (step:=Jg a a (ln a)) (λi=>(i:Int)) (r:=.brk ()) a.length (λi hi=>by simp only[Jg,QY hi,QR hi,Q2 hi,q,Qh,Q3 (show(i:Int)<9223372036854775807 by omega),Qc,Qb,QL]) (by simp only[Jg,Q6 (Qg _),Qb])
 unfold Bt;rw[show run (Jg a a (ln a)) 0=some (.brk ())from h,Qf rfl];rfl
def pt(a:List Qp)(hm:a.length≤1048576):BA a a=some true:=by
 have q:∀x:Qp,Sf x x=true:=λx=>by simp[Sf]
 have h:=Xe (step:=Je a a (ln a)) (λi=>(i:Int)) (r:=.brk ()) a.length (λi hi=>by simp only[Je,QY hi,QR hi,Q2 hi,q,Qh,Q3 (show(i:Int)<9223372036854775807 by omega),Qc,Qb,QL]) (by simp only[Je,Q6 (Qg _),Qb])
 unfold BA;rw[show run (Je a a (ln a)) 0=some (.brk ())from h,Qf rfl];rfl
def s6(a:List Hand)(hm:a.length≤1048576):Co a a=some true:=by
 have q:∀x:Hand,UK x x=true:=λx=>by simp[UK]
 have h:=Xe (step:=Jz a a (ln a)) (λi=>(i:Int)) (r:=.brk ()) a.length (λi hi=>by simp only[Jz,QY hi,QR hi,Q2 hi,q,Qh,Q3 (show(i:Int)<9223372036854775807 by omega),Qc,Qb,QL]) (by simp only[Jz,Q6 (Qg _),Qb])
 unfold Co;rw[show run (Jz a a (ln a)) 0=some (.brk ())from h,Qf rfl];rfl
def oU(a:List Entry)(hm:a.length≤1048576):Bv a a=some true:=by
 have q:∀x:Entry,Sv x x=true:=λx=>by simp[Sv]
 have h:=Xe (step:=Jc a a (ln a)) (λi=>(i:Int)) (r:=.brk ()) a.length (λi hi=>by simp only[Jc,QY hi,QR hi,Q2 hi,q,Qh,Q3 (show(i:Int)<9223372036854775807 by omega),Qc,Qb,QL]) (by simp only[Jc,Q6 (Qg _),Qb])
 unfold Bv;rw[show run (Jc a a (ln a)) 0=some (.brk ())from h,Qf rfl];rfl
def gM(a:List Qm)(hm:tw Gw a):B5 a a=some true:=by
 have q:∀x∈a,AM x x=some true:=λx hx=>by
  unfold AM;rw[vd x.Marks (hm.2 x hx),Qf rfl,Qf rfl];rfl
 have hl:=hm.1;have h:=Xe (step:=Vi a a (ln a)) (λi=>(i:Int)) (r:=.brk ()) a.length (λi hi=>by simp only[Vi,QY hi,QR hi,Q2 hi,q _ (List.getElem_mem hi),Qh,Qa,Q3 (show(i:Int)<9223372036854775807 by omega),Qc,Qb,QL]) (by simp only[Vi,Q6 (Qg _),Qb])
 unfold B5 V9;rw[show run (Vi a a (ln a)) 0=some (.brk ())from h,Qf rfl];rfl
def b9(h:Ql)(hm:QS h):ZZ h h=some true:=by
 obtain⟨m1,m2,m3,m4,m5,m6,m7⟩:=hm;unfold ZZ;rw[rp _ m1,gM _ m2,ur _ m3,ny _ m4,pt _ m5,s6 _ m6,oU _ m7,Qf rfl,Qf rfl];rfl
end Go.Proofs.YtfhnbabcbhgffaaGreatDoor
