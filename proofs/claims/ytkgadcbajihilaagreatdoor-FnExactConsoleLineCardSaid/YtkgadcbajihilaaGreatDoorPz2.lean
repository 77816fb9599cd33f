import Derived.Lib.SplitLaws
import Derived.Test.YtkgadcbajihilaaGreatDoorPz1
set_option linter.unusedVariables false
set_option linter.unusedSimpArgs false
set_option linter.defProp false
namespace Go.Proofs.YtkgadcbajihilaaGreatDoor
open Go
def rI{S R:Type}{step:S→Option (S⊕R)}{s s':S}(h:step s=some (.inl s')):run step s=run step s':=by rw[Vk,h];rfl
def rR{S R:Type}{step:S→Option (S⊕R)}{s:S}{r:R}(h:step s=some (.inr r)):run step s=some r:=by rw[Vk,h];rfl
def ms(p:List UInt8):List (List UInt8)→List (List UInt8)
 |[]=>[p]
 |x::l=>(p++x)::l
def HL(c:UInt8):List UInt8→List (List UInt8)
 |[]=>[[]]
 |b::t=>if b=c then[]::HL c t else ms [b] (HL c t)
def IZ(c:UInt8):∀s,∃x l,HL c s=x::l
 |[]=>⟨[],[],rfl⟩
 |b::t=>by
  obtain⟨x,l,h⟩:=IZ c t;unfold HL;by_cases hb:b=c
  ·rw[if_pos hb];exact⟨_,_,rfl⟩
  ·rw[if_neg hb,h];exact⟨_,_,rfl⟩
def Ov(c:UInt8):∀s,(HL c s).length≤s.length+1
 |[]=>by simp[HL]
 |b::t=>by
  obtain⟨x,l,h⟩:=IZ c t;have:=Ov c t;unfold HL;by_cases hb:b=c
  ·rw[if_pos hb];simp;omega
  ·rw[if_neg hb,h];rw[h]at this;simp[ms]at this ⊢;omega
def ig(c:UInt8):∀s,∀x∈HL c s,x.length≤s.length∧c∉x
 |[],x,hx=>by simp[HL]at hx;subst hx;simp
 |b::t,y,hy=>by
  obtain⟨x,l,h⟩:=IZ c t;have ih:=ig c t;unfold HL at hy;by_cases hb:b=c
  ·rw[if_pos hb]at hy
   rcases List.mem_cons.1 hy with rfl|hy
   ·simp
   ·have:=ih y hy
    exact⟨by simp;omega,this.2⟩
  ·rw[if_neg hb,h]at hy
   rw[h]at ih
   rcases List.mem_cons.1 hy with rfl|hy
   ·have:=ih x (by simp)
    refine⟨by simp;omega,?_⟩
    simp only[List.singleton_append,List.mem_cons,not_or];exact⟨λhc=>hb hc.symm,this.2⟩
   ·have:=ih y (by simp[hy])
    exact⟨by simp;omega,this.2⟩
def aw(c:UInt8):∀s,c∉s→HL c s=[s]
 |[],_=>rfl
 |b::t,h=>by
  simp only[List.mem_cons,not_or]at h;unfold HL;rw[if_neg (λhb=>h.1 hb.symm),aw c t h.2]
  rfl
def nL(c:UInt8):∀a t,c∉a→HL c (a++c::t)=a::HL c t
 |[],t,_=>by simp[HL]
 |b::a,t,h=>by
  simp only[List.mem_cons,not_or]at h;rw[List.cons_append,HL,if_neg (λhb=>h.1 hb.symm),nL c a t h.2]
  rfl
def jg(c:UInt8):∀s,Lib.join (HL c s) [c]=s
 |[]=>rfl
 |b::t=>by
  obtain⟨x,l,h⟩:=IZ c t;have ih:=jg c t;unfold HL;by_cases hb:b=c
  ·rw[if_pos hb,h]
   rw[h]at ih;subst hb;simp only[Lib.join,Lib.joinTail]at ih ⊢;simp[ih]
  ·rw[if_neg hb,h]
   rw[h]at ih;simp only[ms,Lib.join]at ih ⊢;simp[ih]
def pX(b c:UInt8)(l:List UInt8):Lib.index (b::l) [c]=if b=c then 0 else if Lib.index l [c]==-1 then -1 else Lib.index l [c]+1:=by
 rw[Lib.index];by_cases h:b=c
 ·subst h;rw[if_pos rfl,if_pos (by simp)]
 ·have:([c]:List UInt8).isPrefixOf (b::l)=false:=by
   have hc:(c==b)=false:=by rw[beq_eq_false_iff_ne];exact λe=>h e.symm
   show(c==b&&_)=false;rw[hc];rfl
  rw[this,if_neg h];rfl
def jO(c:UInt8):∀s,Lib.split s [c]=HL c s
 |[]=>rfl
 |b::l=>by
  have ih:=jO c l;have hi:=pX b c l;unfold Lib.split at ih ⊢;unfold HL;by_cases hb:b=c
  ·rw[if_pos hb]at hi ⊢
   rw[Lib.count_hit (i:=0) (by simp) hi,Nat.add_comm,Lib.splitK,if_neg (by rw[hi];decide),hi]
   simp only[List.length_singleton,Nat.zero_add,List.drop_one,List.tail_cons,Int.toNat_zero,Nat.add_zero,List.take_zero];rw[ih]
  ·rw[if_neg hb]at hi ⊢
   rcases Lib.index_spec l [c]with⟨h1,_⟩|⟨i,h1,h2,_⟩
   ·rw[h1]at hi
    have h3:Lib.index (b::l) [c]=-1:=by simpa using hi
    rw[Lib.count_miss h1]at ih;rw[Lib.count_miss h3,←ih];rfl
   ·rw[h1,if_neg (by simp)]at hi
    have hi':Lib.index (b::l) [c]=((i+1:Nat):Int):=by rw[hi];omega
    rw[Lib.count_hit (by simp) h1,Nat.add_comm,Lib.splitK,if_neg (by rw[h1];simp),h1]at ih
    rw[Lib.count_hit (by simp) hi',Nat.add_comm,Lib.splitK,if_neg (by rw[hi'];simp;omega),hi',←ih]
    simp[ms]
def mb(s:List UInt8)(c:UInt8)(h:s.length≤4000000):strings_Split s [c]=some (HL c s):=by
 unfold strings_Split;rw[Qf (show s.length<4294967281 by omega)]
 simp[jO,QL]
def QtE(s:List UInt8)(c:UInt8)(h:s.length≤4000000):(c∉s∧strings_Cut s [c]=some (s,[],false))∨∃a t,s=a++c::t∧c∉a∧strings_Cut s [c]=some (a,t,true):=by
 have key:∀s:List UInt8,(c∉s∧Lib.index s [c]=-1)∨∃a t,s=a++c::t∧c∉a∧Lib.index s [c]=(a.length:Int):=by
  intro s
  induction s with
  |nil=>exact .inl ⟨by simp,rfl⟩
  |cons b l ih =>
   have hi:=pX b c l;by_cases hb:b=c
   ·rw[if_pos hb]at hi
    subst hb;exact .inr ⟨[],l,rfl,by simp,by rw[hi];rfl⟩
   ·rw[if_neg hb]at hi
    rcases ih with⟨h1,h2⟩|⟨a,t,h1,h2,h3⟩
    ·rw[h2]at hi
     exact .inl ⟨by rw[List.mem_cons];exact λhc=>hc.elim (λe=>hb e.symm) h1,by simpa using hi⟩
    ·rw[h3,if_neg (by simp)]at hi
     exact .inr ⟨b::a,t,by rw[h1];rfl,by rw[List.mem_cons];exact λhc=>hc.elim (λe=>hb e.symm) h2,by rw[hi];simp⟩
 unfold strings_Cut;rw[Qf (show s.length<4294967281 by omega)]
 simp only[QL]
 rcases key s with⟨h1,h2⟩|⟨a,t,h1,h2,h3⟩
 ·exact .inl ⟨h1,by unfold Lib.cut;rw[h2];rfl⟩
 ·refine .inr ⟨a,t,h1,h2,?_⟩
  unfold Lib.cut;rw[h3];subst h1;simp
section
variable{S U A B:Type}{ix:S→Int}{j:Int}
def Sp(ix:S→Int)(j:Int)(o:Option (S⊕Fl Bool U)):Prop:=∀x,o=some x→x=.inr (.ret false)∨∃s',x=.inl s'∧ix s'=j
def Sp.bind{o:Option A}{k:A→Option (S⊕Fl Bool U)}(h:∀y,Sp ix j (k y)):Sp ix j (o.bind k):=λx hx=>by
 obtain⟨y,_,hy⟩:=Option.bind_eq_some_iff.1 hx;exact h y x hy
def Sp.cond{b:Bool}{x y:Option (S⊕Fl Bool U)}(hx:Sp ix j x)(hy:Sp ix j y):Sp ix j (bif b then x else y):=by
 cases b with
 |true=>exact hx
 |false=>exact hy
def Sp.nd{b:Bool}{x:Option (S⊕Fl Bool U)}(hx:Sp ix j x):Sp ix j (nd b<|x):=by
 cases b with
 |true=>exact hx
 |false=>exact λ_ h=>by cases h
def Sp.ret:Sp ix j (some (.inr (.ret false)):Option (S⊕Fl Bool U)):=λx hx=>by injection hx with hx;exact .inl hx.symm
def Sp.inl{s:S}(h:ix s=j):Sp ix j (some (.inl s):Option (S⊕Fl Bool U)):=λx hx=>by injection hx with hx;exact .inr ⟨s,hx.symm,h⟩
def QbO{step:A→Option (A⊕Fl Bool B)}(h:∀s r,step s=some (.inr (.ret r))→r=false){s:A}{r:Bool}(hr:run step s=some (.ret r)):r=false:=by
 obtain⟨n,hn⟩:=Gu.1 hr;clear hr
 induction n generalizing s with
 |zero=>cases hn
 |succ n ih =>
  simp only[iy]at hn;obtain⟨o,h1,h2⟩:=Option.bind_eq_some_iff.1 hn;cases o with
  |inl s'=>exact ih h2
  |inr r'=>injection h2 with h2;subst h2;exact h s r h1
def Sp.run{step:A→Option (A⊕Fl Bool B)}(h:∀s r,step s=some (.inr (.ret r))→r=false){s:A}{q:B→Option (S⊕Fl Bool U)}(hq:∀y,Sp ix j (q y)):Sp ix j ((run step s).bind (J1 (λr=>some (.inr (.ret r))) q)):=λx hx=>by
 obtain⟨y,hy,h2⟩:=Option.bind_eq_some_iff.1 hx;cases y with
 |ret r =>
  have:=QbO h hy;subst this;injection h2 with h2
  exact .inl h2.symm
 |brk u=>exact hq u x h2
def Qah{step:S→Option (S⊕Fl Bool U)}{n:Nat}{P:Nat→Prop}(ix:S→Int)(hs:∀(i:Nat) s,i<n→ix s=(i:Int)→Sp ix ((i+1:Nat):Int) (step s))(hp:∀(i:Nat) s,i<n→ix s=(i:Int)→¬P i→∀s',step s≠some (.inl s')){s0:S}{k:U→Option Bool}(h0:ix s0=0)(hr:(run step s0).bind (J1 (λr=>some r) k)=some true):∀i,i<n→P i:=by
 have key:∀k':Nat,k'≤n→∃s,ix s=(k':Int)∧(run step s).bind (J1 (λr=>some r) k)=some true∧∀i,i<k'→P i:=by
  intro k'
  induction k' with
  |zero=>exact λ_=>⟨s0,h0,hr,λi hi=>by omega⟩
  |succ k' ih =>
   intro hk;obtain⟨s,q1,q2,q3⟩:=ih (by omega)
   rw[Vk]at q2;obtain⟨z,e0,e3⟩:=Option.bind_eq_some_iff.1 q2;obtain⟨x,e1,e2⟩:=Option.bind_eq_some_iff.1 e0
   rcases hs k' s (by omega) q1 x e1 with rfl|⟨s',rfl,q4⟩
   ·injection e2 with e2
    subst e2;cases e3
   ·refine⟨s',q4,by simp only at e2;rw[e2];exact e3,λi hi=>?_⟩
    by_cases hik:i<k'
    ·exact q3 i hik
    ·have:i=k':=by omega
     subst this;exact Classical.byContradiction λhn=>hp i s (by omega) q1 hn s' e1
 intro i hi;obtain⟨_,_,_,h⟩:=key n (Qg _);exact h i hi
end
def Sp.at{S U:Type}{ix:S→Int}{j j':Int}{o:Option (S⊕Fl Bool U)}(h:Sp ix j o)(e:j=j'):Sp ix j' o:=e▸h
structure Lk (h:Ql):Prop where
 no:i64 h.No
 now:i64 h.Now
 slots:∀x∈h.Qs,i64 x.Id∧i64 x.Qo
 claims:∀x∈h.Qv,i64 x.Id∧i64 x.QA∧i64 x.Qo
 chain:∀x∈h.Qw,i64 x.QA∧i64 x.At
 finds:∀x∈h.Qt,i64 x.Qo.Id
def Qix{n a b:Int}(h:(decide (a≤n)&&decide (n≤b))=true)(ha:-9223372036854775808≤a)(hb:b≤9223372036854775807):i64 n:=by
 simp only[Bool.and_eq_true,decide_eq_true_eq]at h;unfold i64;omega
def QbR{n a b:Int}(ha:-9223372036854775808≤a)(hb:b≤9223372036854775807)(h:¬i64 n):(decide (a≤n)&&decide (n≤b))=false:=by
 rw[Bool.eq_false_iff];exact λe=>h (Qix e ha hb)
noncomputable def Zy(h:Ql):Bool:=(V8 h).getD false
def JR(h:Ql)(hm:QX h):VV h=some (Zy h)∧V8 h=some (Zy h):=by
 obtain⟨c,c1,c2⟩:=gW h hm;unfold Zy;rw[c1,c2];exact⟨rfl,rfl⟩
def On(h:Ql)(hm:QX h)(hb:Zy h=true):HouseOk h:=p9 h hm (by rw[(JR h hm).2,hb])
def TW(l:List Qm)(hl:tX JU l):Zd l=some l:=by
 have hlen:=hl.1;have h1:=J2 (step:=X5 l (ln l)) (λi=>(l.take i,(i:Int))) (r:=l) l.length (λi hi=>by
   have hm:l[i].Marks.length≤1048576:=hl.2 _ (List.getElem_mem hi);have hr1:rm (0+l[i].Marks.length) 16=true:=VU (by omega) (by omega)
   have hr2:rm ((l.take i).length+1) 40=true:=VU (by rw[List.length_take];omega) (by omega)
   simp only[X5,Jk,Q0 hi,QP hi,Q3 hi,hr1,hr2,Qc,QL,Qa,Vg (show(i:Int)<9223372036854775807 by omega)]
   rw[List.take_succ_eq_append_getElem hi])
  (by simp only[X5,Q6 (Qg _),Qb,List.take_length])
 unfold Zd;rw[show run (X5 l (ln l)) ([],0)=_ from by simpa using h1];rfl
def X3(h:Ql)(hm:QX h):Ve h=some h:=by
 obtain⟨m1,m2,m3,m4,m5,m6,m7⟩:=hm;unfold Ve J6 XF Xf DT XW JH;simp only[TW _ m2,VU (show 0+h.Qt.length≤2000000 by omega) (show 64≤1024 by omega),VU (show 0+h.Qs.length≤2000000 by omega) (show 24≤1024 by omega),VU (show 0+h.Qv.length≤2000000 by omega) (show 40≤1024 by omega),
  VU (show 0+h.Qq.length≤2000000 by omega) (show 32≤1024 by omega),VU (show 0+h.Qw.length≤2000000 by omega) (show 40≤1024 by omega),VU (show 0+h.Book.length≤2000000 by omega) (show 32≤1024 by omega),QL,Qa]
def bn(l:List Bool)(hl:l.length≤1048576):XI l false=some (!l.all id):=by
 have hr:=Jo l (λx=>decide (false=x)) (λi=>(i:Int)) (step:=JW l false (ln l))
  (λi hi=>by
   simp only[JW,Q0 hi,QP hi,Q3 hi,Vg (show(i:Int)<9223372036854775807 by omega),Qc,QL]
   cases decide (false=l[i])<;>rfl)
  (by simp only[JW,Q6 (Qg _),Qb])
 unfold XI Fa;rw[hr];have hall:l.all id=(l.findIdx? (λx=>decide (false=x))).isNone:=by
  cases hf:l.findIdx? (λx=>decide (false=x))with
  |none =>
   rw[List.findIdx?_eq_none_iff]at hf;simp only[Option.isNone_none,List.all_eq_true];intro x hx;have:=hf x hx;cases x<;>simp at this ⊢
  |some i =>
   obtain⟨hlt,hp⟩:=C6 hf;simp only[Option.isNone_some];rw[List.all_eq_false];exact⟨l[i],List.getElem_mem hlt,by simp at hp;simp[←hp]⟩
 rw[hall];cases l.findIdx? (λx=>decide (false=x))with
 |none=>rfl
 |some i =>
  simp only[Qa,J1];rw[Qf (show(0:Int)≤(i:Int)by omega)];rfl
noncomputable def Gj(h out:Ql)(ok:Bool):Ql×Bool:=bif ok&&(Zy h&&Zy out)then(out,true)else(h,false)
def Dj(h out:Ql)(ok:Bool)(hm:QX h)(ho:QX out):QX (Gj h out ok).1:=by
 unfold Gj;cases ok&&(Zy h&&Zy out)<;>assumption
theorem KW(h out:Ql):Gj h out false=(h,false):=rfl
def sE(h out:Ql)(ok:Bool)(hb:Zy h=false):Gj h out ok=(h,false):=by
 unfold Gj;rw[hb];cases ok<;>rfl
def Hl(h out:Ql)(ok:Bool)(hm:QX h)(ho:QX out):Vj h out ok=some (Gj h out ok):=by
 unfold Vj Gj;simp only[(JR h hm).1,(JR out ho).1,Jx h hm,Qa];cases ok<;>cases Zy h<;>cases Zy out<;>rfl
def smH{h:Ql}(hm:QX h){f:List QB}{s:List Qm}{t:List Qr}{c:List Qu}{r:List Qp}{n:List Hand}{b:List Entry}{k:Int}(h1:f.length≤1048576)(h2:tX JU s)(h3:t.length≤1048576)(h4:c.length≤1048576)(h5:r.length≤1048576)(h6:n.length≤1048576)(h7:b.length≤1048576) :
  QX ⟨h.No,f,s,t,c,r,n,b,k⟩:=⟨h1,h2,h3,h4,h5,h6,h7⟩
def It(l:List Qu)(i:Nat):Bool :=
 (decide (1≤(gt l (i:Int)).Id)&&decide ((gt l (i:Int)).Id≤999))&&((decide (1≤(gt l (i:Int)).QA)&&decide ((gt l (i:Int)).QA≤999))&&((decide (1≤(gt l (i:Int)).Qo)&&decide ((gt l (i:Int)).Qo≤999))&&((decide (0≤(gt l (i:Int)).At)&&decide ((gt l (i:Int)).At≤100000))&&((decide (0≤(gt l (i:Int)).State)&&decide ((gt l (i:Int)).State≤3)) &&
  ((decide (i=0)||!decide ((gt l (i:Int)).Id≤(gt l ((i-1:Nat):Int)).Id))&&!(l.take i).any (Km (gt l (i:Int))))))))
def mE(l:List Qu)(hl:l.length≤2097152)(i:Nat)(hi:i<l.length):Xc l (i:Int)=some (bif It l i then .inl ((i+1:Nat):Int)else .inr (.ret false)):=by
 have hin:=Lc l i hi (by omega)
 simp only[Xc,It,Q0 hi,QP hi,Q3 hi,Vg (show(i:Int)<9223372036854775807 by omega),Qc,QL,QR,Qa,hin]
 generalize (l.take i).any (Km l[i])=q;by_cases h0:0<i
 ·simp only[show decide (0<(i:Int))=true from Qf (by omega),show decide (i=0)=false from Qe (by omega),Ds h0 (by omega),QP (show i-1<l.length by omega),Qc,QL]
  cases (decide (1≤l[i].Id)&&decide (l[i].Id≤999))<;>cases (decide (1≤l[i].QA)&&decide (l[i].QA≤999))<;>cases (decide (1≤l[i].Qo)&&decide (l[i].Qo≤999))<;>cases (decide (0≤l[i].At)&&decide (l[i].At≤100000))<;>cases (decide (0≤l[i].State)&&decide (l[i].State≤3))<;>cases decide (l[i].Id≤(gt l ((i-1:Nat):Int)).Id)<;>cases q<;>rfl
 ·simp only[show decide (0<(i:Int))=false from Qe (by omega),show decide (i=0)=true from Qf (by omega),Qb]
  cases (decide (1≤l[i].Id)&&decide (l[i].Id≤999))<;>cases (decide (1≤l[i].QA)&&decide (l[i].QA≤999))<;>cases (decide (1≤l[i].Qo)&&decide (l[i].Qo≤999))<;>cases (decide (0≤l[i].At)&&decide (l[i].At≤100000))<;>cases (decide (0≤l[i].State)&&decide (l[i].State≤3))<;>cases q<;>rfl
def dl(l:List Qu)(hl:l.length≤2097152):V5 l=some ((List.range l.length).all (It l)&&decide ((l.length:Int)≤20)):=by
 have key:∀(m i:Nat),i+m=l.length→run (Xc l) (i:Int)=some (bif (List.range' i m).all (It l)then .brk ()else .ret false):=by
  intro m
  induction m with
  |zero =>
   intro i hi;have:i=l.length:=by omega
   subst this;rw[Vk];simp only[Xc,Q6 (Qg _),Qb,List.range'_zero,List.all_nil,Qc,Qa]
  |succ m ih =>
   intro i hi;rw[Vk,mE l hl i (by omega),List.range'_succ,List.all_cons]
   cases It l i with
   |false=>rfl
   |true=>simp only[Qc,Bool.true_and];exact ih (i+1) (by omega)
 unfold V5;rw[show run (Xc l) 0=_ from key l.length 0 (by omega),←List.range_eq_range']
 cases (List.range l.length).all (It l)<;>rfl
def Mb(l:List Qu)(h:V5 l=some true)(hl:l.length≤2097152):l.length≤20∧∀i,i<l.length→It l i=true:=by
 rw[dl l hl]at h;simp only[Option.some.injEq,Bool.and_eq_true,decide_eq_true_eq,List.all_eq_true,List.mem_range]at h;exact⟨by omega,h.1⟩
def iN{α:Type}[Inhabited α](l:List α)(k:Nat)(x:α)(i:Nat)(hi:i<l.length):gt (l.set k x) (i:Int)=if i=k then x else gt l (i:Int):=by
 rw[Q3 (by rw[List.length_set];exact hi),Q3 hi,List.getElem_set]
 by_cases h:i=k
 ·subst h;simp
 ·rw[if_neg h,if_neg (by omega)]
def dE(l:List Qu)(k i:Nat)(x y:Qu)(hi:i≤l.length)(hx:x.State≠3)(h:(l.take i).any (Km y)=false):((l.set k x).take i).any (Km y)=false:=by
 rw[List.any_eq_false]at h ⊢;intro z hz;obtain⟨j,hj,rfl⟩:=List.getElem_of_mem hz;have hj':j<i∧j<l.length:=by simp at hj;omega
 rw[List.getElem_take,List.getElem_set];by_cases hk:k=j
 ·rw[if_pos hk];unfold Km;simp[hx]
 ·rw[if_neg hk]
  exact h _ (by
   rw[List.mem_take_iff_getElem];exact⟨j,by omega,rfl⟩)
def mf(l:List Qu)(k:Nat)(hk:k<l.length)(s:Int)(hs:s=1∨s=2)(hl:l.length≤1048576)(h:V5 l=some true):V5 (l.set k ⟨l[k].Id,l[k].QA,l[k].Qo,l[k].At,s⟩)=some true:=by
 obtain⟨h1,h2⟩:=Mb l h (by omega)
 rw[dl _ (by rw[List.length_set];omega)]
 rw[List.length_set];have:(List.range l.length).all (It (l.set k ⟨l[k].Id,l[k].QA,l[k].Qo,l[k].At,s⟩))=true:=by
  rw[List.all_eq_true];intro i hi;rw[List.mem_range]at hi;have ho:=h2 i hi;have hgi:∀j,j<l.length→(gt (l.set k ⟨l[k].Id,l[k].QA,l[k].Qo,l[k].At,s⟩) (j:Int)).Id=(gt l (j:Int)).Id:=by
   intro j hj;rw[iN l k _ j hj];by_cases hjk:j=k
   ·subst hjk;rw[if_pos rfl,Q3 hj]
   ·rw[if_neg hjk]
  unfold It at ho ⊢;rw[hgi i hi,hgi (i-1) (by omega)]
  simp only[Bool.and_eq_true]at ho ⊢;obtain⟨o1,o2,o3,o4,o5,o6,o7⟩:=ho;rw[iN l k _ i hi];by_cases hik:i=k
  ·subst hik
   rw[Q3 hi]at o1 o2 o3 o4 o5 o6 o7;rw[if_pos rfl,Q3 hi];refine⟨o1,o2,o3,o4,?_,o6,?_⟩
   ·rcases hs with rfl|rfl<;>exact⟨rfl,rfl⟩
   ·have hst:s≠3:=by omega
    rw[show((l.set i ⟨l[i].Id,l[i].QA,l[i].Qo,l[i].At,s⟩).take i).any (Km ⟨l[i].Id,l[i].QA,l[i].Qo,l[i].At,s⟩)=false from by
     rw[List.any_eq_false];intro z _;unfold Km;simp[hst]]
    rfl
  ·rw[if_neg hik]
   refine⟨o1,o2,o3,o4,o5,o6,?_⟩;have o7':(l.take i).any (Km (gt l (i:Int)))=false:=by simpa using o7
   rw[dE l k i _ _ (by omega) (by show s≠3;omega) o7']
   rfl
 rw[this];simp;omega
def E7(l:List Qu)(id:Int):Int:=match l.findIdx? (λx=>decide (x.Id=id))with|some i=>(i:Int)|none=>-1
def Rg(l:List Qu)(id:Int)(hl:l.length≤1048576):XK l id=some (E7 l id):=by
 have hi:=Jo l (λx=>decide (x.Id=id)) (λi=>(i:Int)) (step:=Vr l id (ln l))
  (λi hi=>by
   simp only[Vr,Gf,Qa,Q0 hi,QP hi,Q3 hi,Vg (show(i:Int)<9223372036854775807 by omega),Qc,QL]
   cases decide (l[i].Id=id)<;>rfl)
  (by simp only[Vr,Q6 (Qg _),Qb])
 unfold XK Xg E7;rw[hi];cases l.findIdx? (λx=>decide (x.Id=id))<;>rfl
def Kx(l:List Qu)(id:Int):E7 l id=-1∨∃k:Nat,∃hk:k<l.length,E7 l id=(k:Int)∧l[k].Id=id:=by
 unfold E7;cases hf:l.findIdx? (λx=>decide (x.Id=id))with
 |none=>exact .inl rfl
 |some i =>
  obtain⟨hi,hp⟩:=C6 hf;exact .inr ⟨i,hi,rfl,by simpa using hp⟩
def Wx(l:List Qu)(id:Int)(j:Nat)(hj:j<l.length)(h:l[j].Id=id):∃k:Nat,∃hk:k<l.length,E7 l id=(k:Int)∧l[k].Id=id:=by
 rcases Kx l id with h0|h0
 ·exfalso
  unfold E7 at h0;cases hf:l.findIdx? (λx=>decide (x.Id=id))with
  |none =>
   have:=List.findIdx?_eq_none_iff.1 hf _ (List.getElem_mem hj);simp[h]at this
  |some i=>rw[hf]at h0;simp only at h0;omega
 ·exact h0
def Rs(h:Ql)(ht:XZ h=some true):h.Qq.length=h.Qv.length:=by
 by_cases hlen:h.Qq.length=h.Qv.length
 ·exact hlen
 ·exfalso
  unfold XZ at ht;rw[show(!decide (ln h.Qq=ln h.Qv))=true from by rw[Vp,Vp];simp;omega]at ht
  cases ht
def FS(l:List Qu)(id:Int)(hl:l.length≤1048576):J7 l id=some (E7 l id)∧XK l id=some (E7 l id):=by
 have hs:=Jo l (λx=>decide (x.Id=id)) (λi=>(i:Int)) (step:=Ax l id)
  (λi hi=>by
   simp only[Ax,Q0 hi,QP hi,Q3 hi,Vg (show(i:Int)<9223372036854775807 by omega),Qc,QL]
   cases decide (l[i].Id=id)<;>rfl)
  (by simp only[Ax,Q6 (Qg _),Qb])
 refine⟨?_,Rg l id hl⟩;unfold J7 E7;rw[hs];cases l.findIdx? (λx=>decide (x.Id=id))<;>rfl
def Fb(h out:Ql)(done:List Bool)(hm:QX h)(ho:QX out)(hd:done.length≤1048576):Xx h out done=some (Gj h out (done.all id)):=by
 unfold Xx Gj;simp only[(JR h hm).2,(JR out ho).2,X3 h hm,bn done hd,Qa];cases done.all id<;>cases Zy h<;>cases Zy out<;>rfl
def PK(l:List Qu)(id s:Int)(k:Nat)(hk:k<l.length)(hid:E7 l id=(k:Int))(h0:l[k].State=0)(hs:s=1∨s=2)(hl:l.length≤1048576)(h:V5 l=some true)(hI:Jr l=some true) :
  ZZ l id s=some (l.set k ⟨l[k].Id,l[k].QA,l[k].Qo,l[k].At,s⟩,true):=by
 obtain⟨d,d1,d2,d3⟩:=Kj (l.set k ⟨l[k].Id,l[k].QA,l[k].Qo,l[k].At,s⟩) (by rw[List.length_set];omega)
 rw[mf l k hk s hs hl h]at d1;cases d1;unfold ZZ Xf;have hrm:rm (0+l.length) 40=true:=VU (by omega) (by omega)
 simp only[hrm,QL,(FS l id hl).2,hI,Qa,hid,Qe (show ¬(k:Int)<0 by omega),Qb,Qh,QP hk,Q3 hk,Int.toNat_natCast,d2,h0,decide_true,Qc]
 rcases hs with rfl|rfl<;>rfl
def zq(x:Int):∃c,Dn [x]=some c∧Il [x]=some c∧0≤c∧c<2147483647:=by
 obtain⟨c,hc,h0,h1⟩:∃c,HN x 2147483647=some c∧0≤c∧c<2147483647:=by
  rw[lT];obtain⟨h1,h2⟩:=WN x (m:=2147483647) (by omega)
  unfold Ia QO;simp only[Qa,show(decide ((1:Int)≤2147483647)&&decide ((2147483647:Int)≤1000000000000))=true from rfl,Qh,Qb,show(!decide ((2147483647:Int)=0))=true from rfl,QL];generalize x.tmod 2147483647=t at h1 h2;by_cases ht:t<0
  ·rw[Qf ht];exact⟨_,rfl,by rw[VD]<;>omega,by rw[VD]<;>omega⟩
  ·rw[Qe ht];exact⟨_,rfl,by omega,by omega⟩
 have hs:Dn [x]=some ((11000033+c+13).tmod 2147483647):=by
  unfold Dn;have hr:=J2 (step:=Jt [x]) (λi=>if i=0 then(11,0)else((11000033+c+13).tmod 2147483647,1)) (r:=(11000033+c+13).tmod 2147483647) 1 (λi hi=>by
   have:i=0:=by omega
   subst this;simp only[Jt,if_true,show decide ((0:Int)<ln [x])=true from rfl,show Q1 [x] 0=true from rfl,show gt [x] (0:Int)=x from rfl,Qc,QL,hc,Qa,show ¬(0+1=0)from by omega,if_false]
   rw[show QU (11*1000003)=11000033 from rfl,show QU (0+1)=1 from rfl,VD (show _≤11000033+c by omega) (by omega),VD (show _≤11000033+c+13 by omega) (by omega)])
   (by simp only[Jt,show ¬(1=0)from by omega,if_false];rfl)
  rw[show run (Jt [x]) (11,0)=_ from hr];rfl
 refine⟨_,hs,by rw[←oy,hs],Int.tmod_nonneg _ (by omega),Int.tmod_lt_of_pos _ (by omega)⟩
def k9(l:List Mark)(c v:Int)(hl:l.length≤1048576):∃q,ZW l c v=some q∧Dl l c v=some q:=by
 obtain⟨m,m1,m2⟩:=TN l (by omega)
 obtain⟨c',c1,c2,c3,c4⟩:=zq c;unfold ZW Dl QR QO;simp only[m1,m2,Qa];by_cases h0:ln l=0
 ·rw[Qf h0];exact⟨0,rfl,rfl⟩
 ·rw[Qe h0]
  have hpos:0<ln l:=by rw[Vp]at h0 ⊢;omega
  cases m with
  |false=>exact⟨0,rfl,rfl⟩
  |true =>
   cases hv:(decide (0≤v)&&decide (v≤1000))with
   |false=>exact⟨0,rfl,rfl⟩
   |true =>
    simp only[Bool.and_eq_true,decide_eq_true_eq]at hv;have hb:=Int.tmod_lt_of_pos c' hpos;have hn:=Int.tmod_nonneg (ln l) c3;have hle:ln l≤1048576:=by rw[Vp];omega
    have hmod:HN c' (ln l)=some (c'.tmod (ln l)):=by
     unfold HN QR;simp only[Qa,show(decide (1≤ln l)&&decide (ln l≤1000000000000))=true from by rw[Qf (show 1≤ln l by omega),Qf (show ln l≤1000000000000 by omega)];rfl,Qh,Qb,Qe h0,Qi,QL]
     rw[VD (by omega) (by omega),Int.tmod_eq_emod_of_nonneg (show 0≤c'.tmod (ln l)+ln l by omega),Int.add_emod_right,Int.emod_eq_of_lt hn hb]
    have hin:Q1 l ((QU (c'.tmod (ln l)+v)).tmod (ln l))=true:=by
     rw[VD (by omega) (by omega),C8]
     exact⟨Int.tmod_nonneg _ (by omega),by have:=Int.tmod_lt_of_pos (c'.tmod (ln l)+v) hpos;rw[Vp]at this;exact this⟩
    simp only[c1,c2,hmod,Qa,Qb,Qh,Qi,QL,hin];exact⟨_,rfl,rfl⟩
def Sn(l:List Mark)(x:Qp)(hl:l.length≤1048576):∃q,XU l x=some q∧Jl l x=some q:=by
 obtain⟨s,s1,s2⟩:=Mq l x hl;obtain⟨q,q1,q2⟩:=k9 l x.Qu x.Asked hl;unfold XU Jl;simp only[s1,s2,q1,q2,Qa];cases decide (s=0)<;>exact⟨_,rfl,rfl⟩
def vF(l:List Mark)(q:Int)(hl:l.length≤1048576):∃a,Gy l q=some a∧GI l q=some a:=by
 have hs:=Jo l (λx=>decide (x.Question=q)) (λi=>(gt l (i:Int)).Answer) (step:=BN l q)
  (λi hi=>by
   simp only[BN,Q0 hi,QP hi,Q3 hi,Vg (show(i:Int)<9223372036854775807 by omega),Qc,QL]
   cases decide (l[i].Question=q)<;>rfl)
  (by simp only[BN,Q6 (Qg _),Qb])
 have hi:=Jo l (λx=>decide (x.Question=q)) (λi=>(gt l (i:Int)).Answer) (step:=BJ q l (ln l))
  (λi hi=>by
   simp only[BJ,Q0 hi,QP hi,Q3 hi,Vg (show(i:Int)<9223372036854775807 by omega),Qc,QL]
   cases decide (l[i].Question=q)<;>rfl)
  (by simp only[BJ,Q6 (Qg _),Qb])
 unfold Gy GI;rw[hs,hi];cases l.findIdx? (λx=>decide (x.Question=q))<;>exact⟨_,rfl,rfl⟩
def mp(l:List Mark)(x:Qp)(a:Int)(hl:l.length≤1048576):∃r,Ex l x a=some r∧Ei l x a=some r:=by
 obtain⟨q,q1,q2⟩:=Sn l x hl;obtain⟨b,b1,b2⟩:=vF l q hl;unfold Ex Ei;simp only[q1,q2,b1,b2,Qa];cases decide (q=0)<;>cases decide (b=a)<;>exact⟨_,rfl,rfl⟩
def ng(h:Ql)(id a:Int)(hm:QX h):∃r,A3 h id a=some r∧Cn h id a=some r∧QX r.1:=by
 have hm7:=hm;obtain⟨m1,m2,m3,m4,m5,m6,m7⟩:=hm7;unfold A3 Cn;simp only[Jx h hm,X3 h hm,(FS h.Qv id m4).1,(FS h.Qv id m4).2,(JR h hm).1,(JR h hm).2,Qa]
 rcases Kx h.Qv id with hx|⟨k,hk,hx,hid⟩
 ·rw[hx]
  refine⟨(h,false),rfl,?_,hm⟩;cases Zy h<;>rfl
 ·rw[hx,Qe (show ¬(k:Int)<0 by omega)]
  cases hb:Zy h with
  |false=>exact⟨(h,false),rfl,rfl,hm⟩
  |true =>
   have ho:=On h hm hb;simp only[Qb,Qh,QP hk,Q3 hk,QL,Qa];by_cases h0:h.Qv[k].State=0
   ·have hkt:k<h.Qq.length:=by rw[Rs h ho.trials];exact hk
    obtain⟨m,k1,k2,k3⟩:=YM h.Qn h.Qv[k].Qo m2.1 (λx hx=>m2.2 x hx)
    obtain⟨g,g1,g2⟩:=mp m h.Qq[k] a k3;obtain⟨s,s1,s2⟩:=Mq m g.1 k3;have hl1:(h.Qq.set k g.1).length≤1048576:=by rw[List.length_set];exact m5
    have hl2:∀s:Int,(h.Qv.set k ⟨h.Qv[k].Id,h.Qv[k].QA,h.Qv[k].Qo,h.Qv[k].At,s⟩).length≤1048576:=λs=>by rw[List.length_set];exact m4
    have w1:QX ⟨h.No,h.Qt,h.Qn,h.Qs,h.Qv.set k ⟨h.Qv[k].Id,h.Qv[k].QA,h.Qv[k].Qo,h.Qv[k].At,1⟩,h.Qq.set k g.1,h.Qw,h.Book,h.Now⟩:=smH hm m1 m2 m3 (hl2 1) hl1 m6 m7;have w2:QX ⟨h.No,h.Qt,h.Qn,h.Qs,h.Qv.set k ⟨h.Qv[k].Id,h.Qv[k].QA,h.Qv[k].Qo,h.Qv[k].At,2⟩,h.Qq.set k g.1,h.Qw,h.Book,h.Now⟩:=smH hm m1 m2 m3 (hl2 2) hl1 m6 m7;have w3:QX ⟨h.No,h.Qt,h.Qn,h.Qs,h.Qv,h.Qq.set k g.1,h.Qw,h.Book,h.Now⟩:=smH hm m1 m2 m3 m4 hl1 m6 m7;simp only[h0,decide_true,Qh,Qb,k1,k2,g1,g2,s1,s2,QP hkt,Q3 hkt,QL,Qa,Int.toNat_natCast,
     PK h.Qv id 1 k hk hx h0 (.inl rfl) m4 ho.cS ho.cI,PK h.Qv id 2 k hk hx h0 (.inr rfl) m4 ho.cS ho.cI,Hl h _ _ hm w1,Hl h _ _ hm w2,Hl h _ _ hm w3,
     Fb h _ _ hm w1 (show[g.2].length≤1048576 by simp),Fb h _ _ hm w2 (show[g.2].length≤1048576 by simp),Fb h _ _ hm w3 (show[g.2].length≤1048576 by simp),List.all_cons,List.all_nil,Bool.and_true,id_eq]
    cases decide (s=1)with
    |true=>exact⟨_,rfl,rfl,Dj _ _ _ hm w1⟩
    |false=>cases decide (s=2)with
     |true=>exact⟨_,rfl,rfl,Dj _ _ _ hm w2⟩
     |false=>exact⟨_,rfl,rfl,Dj _ _ _ hm w3⟩
   ·simp only[Qe h0,Qi,Qc]
    exact⟨(h,false),rfl,rfl,hm⟩
end Go.Proofs.YtkgadcbajihilaaGreatDoor
