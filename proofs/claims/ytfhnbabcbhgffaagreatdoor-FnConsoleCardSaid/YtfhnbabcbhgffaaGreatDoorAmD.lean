import Derived.Test.YtfhnbabcbhgffaaGreatDoorAmC
set_option linter.unusedVariables false
set_option linter.unusedSimpArgs false
set_option linter.defProp false
namespace Go.Proofs.YtfhnbabcbhgffaaGreatDoor.Am
open Go
def Fb:List Nat→Nat→Option Nat
 |[],_=>none
 |x::l,j=>cond (Nat.beq x j) (some 0) ((Fb l j).map (·+1))
def Bs:KS→List Nat→KS→KS
 |K,j::js,e::es=>Bs (K.set j e) js es
 |K,_,_=>K
mutual
def YE:AV→List Nat
 |.sl j=>[j]
 |.ptr j _ _=>[j]
 |.agg cs=>Kl cs
 |_=>[]
def Kl:List AV→List Nat
 |[]=>[]
 |c::cs=>YE c++Kl cs
end
mutual
def Gz(js:List Nat):AV→Option AV
 |.sl j=>(Fb js j).map .sl
 |.ptr j a b=>(Fb js j).map λi=>.ptr i a b
 |.agg cs=>(Gy js cs).map .agg
 |.i k n=>some (.i k n)
 |.b x=>some (.b x)
 |.s x=>some (.s x)
 |.nil=>some .nil
 |.imm n rows=>some (.imm n rows)
 |.clo g []=>some (.clo g [])
 |_=>none
def Gy(js:List Nat):List AV→Option (List AV)
 |[]=>some []
 |c::cs=>(Gz js c).bind λc'=>(Gy js cs).map (c'::·)
end
def AV.flat:AV→Bool
 |.b _|.i _ _|.s _|.tup []=>true
 |_=>false
def OH:Option QE→Bool
 |some (.lst _ _)=>true
 |_=>false
def ls{w w':World}{O O':Nat→Prop}{E E':EI}{r:AV}{v:Value}(hr:r.flat=true)(h:XR w O E r v []):XR w' O' E' r v []:=by
 unfold AV.flat at hr
 split at hr
 ·simpa only[XR]using h
 ·simpa only[XR]using h
 ·simpa only[XR]using h
 ·simpa only[XR,XRs]using h
 ·cases hr
theorem oI(x:Nat)(l:List Nat)(j:Nat):Fb (x::l) j=cond (Nat.beq x j) (some 0) ((Fb l j).map (·+1)):=rfl
def Ez:∀{js:List Nat} {j i:Nat},Fb js j=some i→js[i]?=some j
 |[],_,_,h=>by cases h
 |x::l,j,i,h=>by
  unfold Fb at h;cases hx:Nat.beq x j with
  |true =>
   rw[hx]at h;injection h with h
   subst h;rw[Nat.eq_of_beq_eq_true hx];rfl
  |false =>
   rw[hx]at h;obtain⟨i',h1,rfl⟩:=Option.map_eq_some_iff.1 h;simpa using Ez h1
def AN:∀{js:List Nat} {j:Nat},j∈js→∃i,Fb js j=some i
 |[],_,h=>by simp at h
 |x::l,j,h=>by
  unfold Fb;cases hx:Nat.beq x j with
  |true=>exact⟨0,rfl⟩
  |false =>
   have:j∈l:=by
    rcases List.mem_cons.1 h with h|h
    ·subst h;rw[Nat.beq_refl]at hx;cases hx
    ·exact h
   obtain⟨i,hi⟩:=AN this;exact⟨i+1,by simp[hi]⟩
def Li:∀{js:List Nat} {j:Nat},j∉js→Fb js j=none
 |[],_,_=>rfl
 |x::l,j,h=>by
  unfold Fb;cases hx:Nat.beq x j with
  |true=>exact absurd (by rw[Nat.eq_of_beq_eq_true hx];simp) h
  |false=>simp[Li (λh'=>h (List.mem_cons_of_mem _ h'))]
def hU{js:List Nat}{j k i:Nat}(h1:Fb js j=some i)(h2:Fb js k=some i):j=k:=by
 have:=Ez h1;rw[Ez h2]at this;injection this with this;exact this.symm
def I9:∀{js:List Nat} {i j:Nat},js.Nodup→js[i]?=some j→Fb js j=some i
 |[],_,_,_,h=>by simp at h
 |x::l,i,j,hn,h=>by
  obtain⟨h1,h2⟩:=List.nodup_cons.1 hn;unfold Fb;cases i with
  |zero =>
   simp at h;subst h;rw[Nat.beq_refl];rfl
  |succ i =>
   simp at h;have hne:Nat.beq x j=false:=by
    cases hx:Nat.beq x j with
    |false=>rfl
    |true=>rw[Nat.eq_of_beq_eq_true hx]at h1;exact absurd (List.mem_of_getElem? h) h1
   rw[hne,I9 h2 h];rfl
def ZM:∀(js:List Nat) (es:KS) (K:KS),(Bs K js es).length=K.length
 |[],es,K=>by unfold Bs;cases es<;>rfl
 |_::_,[],_=>by simp[Bs]
 |j::js,e::es,K=>by simp[Bs,ZM js es]
def UG:∀(js:List Nat) (es:KS) (K:KS) (j:Nat),js.Nodup→(∀j∈js,j<K.length)→js.length≤es.length →
  kg (Bs K js es) j=match Fb js j with|some i=>kg es i|none=>kg K j
 |[],es,K,j,_,_,_=>by simp[Bs,Fb]
 |x::js,[],K,j,_,_,h=>by simp at h
 |x::js,e::es,K,j,hn,hl,hle=>by
  obtain⟨h1,h2⟩:=List.nodup_cons.1 hn;unfold Bs;rw[UG js es (K.set x e) j h2 (λk hk=>by rw[List.length_set];exact hl k (List.mem_cons_of_mem _ hk)) (by simpa using hle)]
  rw[oI];cases hx:Nat.beq x j with
  |true =>
   have:=Nat.eq_of_beq_eq_true hx;subst this;rw[Li h1];simp only[Qc];rw[Zu _ _ _ _ (hl x (by simp)),if_pos rfl]
   simp[kg]
  |false =>
   simp only[Qb];cases hi:Fb js j with
   |some i=>simp[kg]
   |none =>
    simp only[Option.map_none];rw[Zu _ _ _ _ (hl x (by simp)),if_neg (λh=>by subst h;rw[Nat.beq_refl]at hx;cases hx)]
section
variable{P:Program}{n:NE}{Y:Nat→Prop}{w0:World}{F0:Nat→Prop}{ρ:Dl}{f:Fr}{K:KS}{a:Act}{w:World}
def Z4(K:KS)(js:List Nat):KS:=js.map (kg K)
def GU(ρ:Dl)(js:List Nat):Dl:=λi=>ρ (js.getD i 0)
def O5(K:KS)(ρ:Dl)(js:List Nat)(Y:Nat→Prop):Nat→Prop:=λb=>Y b∨∃j e,kg K j=some e∧j∉js∧b∈fp ρ j
def J6{js:List Nat}{i:Nat}{e:QE}(h:kg (Z4 K js) i=some e):∃j,js[i]?=some j∧js.getD i 0=j∧kg K j=some e:=by
 unfold kg Z4 at h;rw[List.getD_eq_getElem?_getD,List.getElem?_map]at h;cases hj:js[i]? with
 |none=>rw[hj]at h;cases h
 |some j=>rw[hj]at h;exact⟨j,rfl,by rw[List.getD_eq_getElem?_getD,hj];rfl,h⟩
def HD{js:List Nat}{i j:Nat}(h:js[i]?=some j):kg (Z4 K js) i=kg K j:=by
 unfold kg Z4;rw[List.getD_eq_getElem?_getD,List.getElem?_map,h];rfl
def I7{js:List Nat}{i j:Nat}(h:js[i]?=some j):GU ρ js i=ρ j:=by
 unfold GU;rw[List.getD_eq_getElem?_getD,h];rfl
def Ah{js:List Nat}{i j:Nat}(h:js[i]?=some j):fp (GU ρ js) i=fp ρ j:=by
 unfold fp;rw[I7 h]
def YR{js:List Nat}(b:Nat):OO (Z4 K js) (GU ρ js) (O5 K ρ js Y) b↔OO K ρ Y b:=by
 constructor
 ·rintro((h|⟨j,e,h1,_,h2⟩)|⟨i,e,h1,h2⟩)
  ·exact .inl h
  ·exact .inr ⟨j,e,h1,h2⟩
  ·obtain⟨j,q1,_,q2⟩:=J6 h1
   exact .inr ⟨j,e,q2,by rw[←Ah q1];exact h2⟩
 ·rintro(h|⟨j,e,h1,h2⟩)
  ·exact .inl (.inl h)
  ·by_cases hj:j∈js
   ·obtain⟨i,hi⟩:=AN hj
    have:=Ez hi;exact .inr ⟨i,e,by rw[HD this];exact h1,by rw[Ah this];exact h2⟩
   ·exact .inl (.inr ⟨j,e,h1,hj,h2⟩)
mutual
theorem zm{js:List Nat}:∀(c:AV) {c':AV} {v:Value},Gz js c=some c'→XR w (OO K ρ Y) (EK K ρ) c v [] →
  XR w (OO (Z4 K js) (GU ρ js) (O5 K ρ js Y)) (EK (Z4 K js) (GU ρ js)) c' v []
 |.sl j,c',v,h,hx=>by
  unfold Gz at h;obtain⟨i,h1,rfl⟩:=Option.map_eq_some_iff.1 h;have hi:=Ez h1;simp only[XR]at hx ⊢;obtain⟨_,hlt,hnone,hsome⟩:=hx;have hof:(EK (Z4 K js) (GU ρ js)).of i=(EK K ρ).of j:=by
   simp only[EK,HD hi,I7 hi]
  refine⟨trivial,?_,λm len he=>hnone m len (by rw[←hof];exact he),λbl m len he=>hsome bl m len (by rw[←hof];exact he)⟩
  simp only[EK,Z4,List.length_map]
  rcases Nat.lt_or_ge i js.length with h'|h'
  ·exact h'
  ·rw[List.getElem?_eq_none h']at hi;cases hi
 |.agg cs,c',v,h,hx=>by
  unfold Gz at h;obtain⟨cs',h1,rfl⟩:=Option.map_eq_some_iff.1 h;simp only[XR]at hx ⊢;obtain⟨vs,h2,h3⟩:=hx;exact⟨vs,h2,MN cs h1 h3⟩
 |.i _ _,c',v,h,hx=>by unfold Gz at h;injection h with h;subst h;simpa only[XR]using hx
 |.b _,c',v,h,hx=>by unfold Gz at h;injection h with h;subst h;simpa only[XR]using hx
 |.s _,c',v,h,hx=>by unfold Gz at h;injection h with h;subst h;simpa only[XR]using hx
 |.z,c',v,h,hx=>by unfold Gz at h;first|(cases h;done)|(injection h with h;subst h;simpa only[XR]using hx)
 |.nil,c',v,h,hx=>by unfold Gz at h;injection h with h;subst h;simpa only[XR]using hx
 |.imm m rows,c',v,h,hx=>by
  unfold Gz at h;injection h with h
  subst h;simp only[XR]at hx ⊢;obtain⟨h0,ad,cap,h1,h2,h3⟩:=hx;refine⟨h0,ad,cap,h1,h2,h3.imp id λ⟨bl,off,h3,h4,hl,h5⟩=>⟨bl,off,h3,λh=>h4 ((YR bl).1 h),hl,?_⟩⟩
  exact RR.mono rows (⟨Qg _,λ_ _ _=>rfl,λb hb _ h=>hb ((YR b).1 h),Qg _,λ_ _ _ h=>h,λ_ _ _ _ _ _ _ h=>h⟩:Same (OO K ρ Y) EN w _ EN w) bl off [] rfl (by simp) h5
 |.u,c',v,h,hx=>by unfold Gz at h;cases h
 |.own _ _,c',v,h,hx=>by unfold Gz at h;cases h
 |.ptr j a b,c',v,h,hx=>by
  unfold Gz at h;obtain⟨i,h1,rfl⟩:=Option.map_eq_some_iff.1 h;have hi:=Ez h1;simp only[XR]at hx ⊢;obtain⟨_,hlt,hnone,hsome⟩:=hx;have hof:(EK (Z4 K js) (GU ρ js)).of i=(EK K ρ).of j:=by
   simp only[EK,HD hi,I7 hi]
  refine⟨trivial,?_,λm len he=>hnone m len (by rw[←hof];exact he),λbl m len he=>hsome bl m len (by rw[←hof];exact he)⟩
  simp only[EK,Z4,List.length_map]
  rcases Nat.lt_or_ge i js.length with h'|h'
  ·exact h'
  ·rw[List.getElem?_eq_none h']at hi;cases hi
 |.iptr _ _ _ _,c',v,h,hx=>by unfold Gz at h;cases h
 |.tup _,c',v,h,hx=>by unfold Gz at h;cases h
 |.clo g [],c',v,h,hx=>by
  unfold Gz at h;injection h with h
  subst h;simpa only[XR,XRs]using hx
 |.clo _ (_::_),c',v,h,hx=>by unfold Gz at h;cases h
theorem MN{js:List Nat}:∀(cs:List AV) {cs':List AV} {vs:List Value},Gy js cs=some cs'→XRs w (OO K ρ Y) (EK K ρ) cs vs [] →
  XRs w (OO (Z4 K js) (GU ρ js) (O5 K ρ js Y)) (EK (Z4 K js) (GU ρ js)) cs' vs []
 |[],cs',vs,h,hx=>by unfold Gy at h;injection h with h;subst h;simpa only[XRs]using hx
 |c::cs,cs',vs,h,hx=>by
  unfold Gy at h;obtain⟨c',h1,h2⟩:=Option.bind_eq_some_iff.1 h;obtain⟨cs'',h3,rfl⟩:=Option.map_eq_some_iff.1 h2;simp only[XRs]at hx ⊢;obtain⟨v,vs',n1,n2,rfl,hn,hx1,hx2⟩:=hx;obtain⟨rfl,rfl⟩:=List.append_eq_nil_iff.1 hn.symm;exact⟨v,vs',[],[],rfl,rfl,zm c h1 hx1,MN cs h3 hx2⟩
end
def Sim.callA[Wd](hS:Sim n Y w0 F0 ρ f K a w){js:List Nat}(hnd:js.Nodup)(hls:∀j∈js,OH (kg K j)=true){g:FuncId}{cs cs':List AV}{xs:List Value}{r:AV}{es:KS}
  (hA:AC P g (Z4 K js) cs' (λv K'=>(v=r∧K'.take js.length=es)∧r.flat=true∧(∀e∈es,OH e=true)∧es.length=js.length)) (hsub:Gy js cs=some cs') (hx:XRs w (OO K ρ Y) (EK K ρ) cs xs []) :
  (callFunc g xs.toArray).run P w=.ok (.enter g xs.toArray) w∧Calls P g xs.toArray w λe w'=>∃v ρ',e=.returned v∧(∀O E,XR w' O E r v [])∧Sim n Y w0 F0 ρ' f (Bs K js es) a w' ∧
   Ext (λb=>∃j e,j∈js∧kg K j=some e∧b∈fp ρ j) w w'∧(∀j,j∉js→ρ' j=ρ j) ∧
   ∀j i e',Fb js j=some i→kg es i=some e'→∃e,kg K j=some e∧(ρ' j).1=(ρ j).1∧e'.n=e.n∧e'.rows.length=e.rows.length:=by
 have hltK:∀j∈js,j<K.length:=λj hj=>by
  have:=hls j hj;cases hk:kg K j with
  |none=>rw[hk]at this;cases this
  |some e=>exact Gr hk
 have hF:∀b,(∃i e,kg (Z4 K js) i=some e∧b∈fp (GU ρ js) i)↔∃j e,j∈js∧kg K j=some e∧b∈fp ρ j:=λb=>by
  constructor
  ·rintro⟨i,e,h1,h2⟩
   obtain⟨j,q1,_,q2⟩:=J6 h1;exact⟨j,e,List.mem_of_getElem? q1,q2,by rw[←Ah q1];exact h2⟩
  ·rintro⟨j,e,h0,h1,h2⟩
   obtain⟨i,hi⟩:=AN h0;have:=Ez hi;exact⟨i,e,by rw[HD this];exact h1,by rw[Ah this];exact h2⟩
 have hF0:∀x,x<w0.heap.size→(∃i e,kg (Z4 K js) i=some e∧x∈fp (GU ρ js) i)→F0 x:=λx hx h=>by
  obtain⟨j,e,_,q1,q2⟩:=(hF x).1 h
  rcases hS.new j e x q1 q2 with q|q
  ·exact q
  ·omega
 have hIm:∀{E E':EI} {b:Bool},Same (OO K ρ Y) EN w (OO (Z4 K js) (GU ρ js) (O5 K ρ js Y)) EN w:=λ{_ _ _} =>
  ⟨Qg _,λ_ _ _=>rfl,λb hb _ h=>hb ((YR b).1 h),Qg _,λ_ _ _ h=>h,λ_ _ _ _ _ _ _ h=>h⟩
 have hSees:Sees w (OO (Z4 K js) (GU ρ js) (O5 K ρ js Y)) (Z4 K js) (GU ρ js):=by
  refine⟨λi e hi=>?_,λi e hi=>?_,λi e b hi hb=>?_,λi e k e' b hi hk hik hb hb'=>?_⟩
  ·obtain⟨j,q1,_,q2⟩:=J6 hi
   have hreg:=hS.sees.reg j e q2;have hl:=hls j (List.mem_of_getElem? q1);rw[q2]at hl;rw[I7 q1];cases e with
   |box _=>cases hl
   |lst m rows=>exact Reg.mono (E:=EK K ρ) (E':=EK (Z4 K js) (GU ρ js)) (hIm (E:=EN) (E':=EN) (b:=true)) (λ_ _=>rfl) (λ_ _=>rfl) hreg
  ·obtain⟨j,q1,_,q2⟩:=J6 hi
   rw[Ah q1];exact hS.sees.nd j e q2
  ·obtain⟨j,q1,_,q2⟩:=J6 hi
   rw[Ah q1]at hb;exact hS.sees.lt j e b q2 hb
  ·obtain⟨j,q1,_,q2⟩:=J6 hi
   obtain⟨j',p1,_,p2⟩:=J6 hk;rw[Ah q1]at hb;rw[Ah p1]at hb';refine hS.sees.dj j e j' e' b q2 p2 (λh=>?_) hb hb'
   subst h;have h1:=I9 hnd q1;rw[I9 hnd p1]at h1;injection h1 with h1
   exact hik h1.symm
 refine⟨hA.1 _ _,(hA.2 w (GU ρ js) (O5 K ρ js Y) xs (λw1 h1=>hS.yl.2 w1 (hS.ext.trans h1 (λ_ h=>h) hF0)) (λb hb=>?_) hSees (MN cs hsub hx)).mono
  λe w' ⟨v,r',K',ρ2,h1,⟨⟨h2,h2'⟩,hr,hes,hlen⟩,h3,h4,h5,h6,h7,h8⟩=>?_⟩
 ·rcases hb with hb|⟨j,e,q1,q2,q3⟩
  ·obtain⟨q1,q2⟩:=hS.yl.1 b hb
   refine⟨Nat.lt_of_lt_of_le q1 hS.ext.size,λi e hi hbi=>?_⟩
   obtain⟨j,p1,_,p2⟩:=J6 hi;rw[Ah p1]at hbi
   rcases hS.new j e b p2 hbi with q|q
   ·exact q2 q
   ·omega
  ·refine⟨hS.sees.lt j e b q1 q3,λi e' hi hbi=>?_⟩
   obtain⟨j',p1,_,p2⟩:=J6 hi;rw[Ah p1]at hbi;exact hS.sees.dj j e j' e' b q1 p2 (λh=>by subst h;exact q2 (List.mem_of_getElem? p1)) q3 hbi
 subst h2;have hil:∀{j i:Nat},Fb js j=some i→i<js.length:=λ{j i} h=>by
  have:=Ez h
  rcases Nat.lt_or_ge i js.length with h'|h'
  ·exact h'
  ·rw[List.getElem?_eq_none h']at this;cases this
 have hkes:∀{i:Nat},i<js.length→kg es i=kg K' i:=λ{i} hi=>by
  unfold kg;rw[←h2',List.getD_eq_getElem?_getD,List.getD_eq_getElem?_getD,List.getElem?_take,if_pos hi]
 let ρ':Dl:=λj=>match Fb js j with|some i=>ρ2 i|none=>ρ j
 have hρn:∀j,j∉js→ρ' j=ρ j:=λj hj=>by simp only[ρ',Li hj]
 have hρi:∀{j i},Fb js j=some i→ρ' j=ρ2 i:=λ{j i} h=>by simp only[ρ',h]
 have hkn:∀j,kg (Bs K js es) j=match Fb js j with|some i=>kg es i|none=>kg K j:=λj=>UG js es K j hnd hltK (by omega)
 have hki:∀{j i},Fb js j=some i→kg (Bs K js es) j=kg K' i:=λ{j i} h=>by rw[hkn,h];exact hkes (hil h)
 have hko:∀{j},j∉js→kg (Bs K js es) j=kg K j:=λ{j} h=>by rw[hkn,Li h]
 have hshape:∀{j i e'},Fb js j=some i→kg K' i=some e'→∃e,kg K j=some e∧(ρ2 i).1=(ρ j).1∧e'.n=e.n∧e'.rows.length=e.rows.length:=λ{j i e'} h hk=>by
  have hi:=Ez h;obtain⟨e,q1,q2,q3⟩:=h8 i e' (by simp only[Z4,List.length_map];exact hil h) hk
  rw[HD hi]at q1;rw[I7 hi]at q2;exact⟨e,q1,q2,q3⟩
 have hOs:∀b,OO (Bs K js es) ρ' Y b→OO K' ρ2 (O5 K ρ js Y) b:=by
  rintro b (h|⟨j,e,q1,q2⟩)
  ·exact .inl (.inl h)
  ·by_cases hj:j∈js
   ·obtain⟨i,hi⟩:=AN hj
    rw[hki hi]at q1;exact .inr ⟨i,e,q1,by unfold fp at q2 ⊢;rw[hρi hi]at q2;exact q2⟩
   ·rw[hko hj]at q1
    exact .inl (.inr ⟨j,e,q1,hj,by unfold fp at q2 ⊢;rw[hρn j hj]at q2;exact q2⟩)
 have hOn:∀b,b<w.heap.size→OO K' ρ2 (O5 K ρ js Y) b→OO K ρ Y b:=by
  rintro b hb ((h|⟨j,e,q1,_,q2⟩)|⟨i,e,q1,q2⟩)
  ·exact .inl h
  ·exact .inr ⟨j,e,q1,q2⟩
  ·rcases h7 i e b q1 q2 with q|q
   ·obtain⟨j,e',_,q3,q4⟩:=(hF b).1 q
    exact .inr ⟨j,e',q3,q4⟩
   ·omega
 have hE6:Ext (λb=>∃j e,j∈js∧kg K j=some e∧b∈fp ρ j) w w':=⟨h6.os,h6.tape,h6.output,h6.size,λb hb hn=>h6.block b hb (λh=>hn ((hF b).1 h)),h6.who⟩
 have hsame:Same (OO K ρ Y) (EK K ρ) w (OO (Bs K js es) ρ' Y) (EK (Bs K js es) ρ') w':=by
  refine⟨h6.size,λb hb hlt=>hE6.block b hlt (λ⟨j,e,_,q1,q2⟩=>hb (.inr ⟨j,e,q1,q2⟩)),λb hb hlt hb'=>hb (hOn b hlt (hOs b hb')),by simp[EK,ZM],λj p hj hp=>?_,λ_ _ _ _ _ _ _ hw=>h6.who _ _ hw⟩
  simp only[EK]at hp ⊢;by_cases hjs:j∈js
  ·obtain⟨i,hi⟩:=AN hjs
   rw[hki hi]at hp;cases hk:kg K' i with
   |none=>rw[hk]at hp;cases hp
   |some e' =>
    rw[hk]at hp;obtain⟨e0,q1,q2,q3,q4⟩:=hshape hi hk;simp only[Option.map_some]at hp;rw[q1,Option.map_some,←hp,hρi hi,q2,q3,q4]
  ·rw[hko hjs]at hp
   rw[←hp,hρn j hjs]
 have hS':Sim n Y w0 F0 ρ' f (Bs K js es) a w':=by
  refine⟨hS.defers,hS.size,hsame.keep hS.keep,λt=>XR.mono (f t) hsame _ _ (by simp) (hS.fr t),⟨λj e hj=>?_,λj e hj=>?_,λj e b hj hb=>?_,?_⟩,hS.ext.trans h6 (λ_ h=>h) hF0,λj e b hj hb=>?_,hS.yl⟩
  ·by_cases hjs:j∈js
   ·obtain⟨i,hi⟩:=AN hjs
    rw[hki hi]at hj;have hl:OH (some e)=true:=by
     have hk:=hkes (hil hi);rw[hj]at hk;refine hes _ ?_;unfold kg at hk;rw[List.getD_eq_getElem?_getD,List.getElem?_eq_getElem (show i<es.length by have:=hil hi;omega)]at hk
     simp only[Option.getD_some]at hk;rw[←hk];exact List.getElem_mem _
    have hreg:=h5.reg i e hj;rw[hρi hi];cases e with
    |box _=>cases hl
    |lst m rows =>
     refine Reg.mono (E:=EK K' ρ2) (E':=EK (Bs K js es) ρ') (w:=w') (w':=w') ?_ (λ_ _=>rfl) (λ_ _=>rfl) hreg
     exact⟨Qg _,λ_ _ _=>rfl,λb hb _ h=>hb (hOs b h),Qg _,λ_ _ _ h=>h,λ_ _ _ _ _ _ _ h=>h⟩
   ·rw[hko hjs]at hj
    have hreg:=hS.sees.reg j e hj;rw[hρn j hjs];have hb:∀b∈fp ρ j,w'.heap[b]?=w.heap[b]?:=λb hb=>hE6.block b (hS.sees.lt j e b hj hb) (λ⟨k,e',q0,q1,q2⟩=>hS.sees.dj j e k e' b hj q1 (λh=>by subst h;exact hjs q0) hb q2)
    have hE:Same (OO K ρ Y) (e.E (EK K ρ)) w (OO (Bs K js es) ρ' Y) (e.E (EK (Bs K js es) ρ')) w':=by
     cases e with
     |box cs=>exact hsame
     |lst n rows=>exact hsame.en
    exact Reg.mono hE (λb h=>hb b (ED h)) (λb h=>hb b (FO h)) hreg
  ·by_cases hjs:j∈js
   ·obtain⟨i,hi⟩:=AN hjs
    rw[hki hi]at hj;have:=h5.nd i e hj;unfold fp at this ⊢;rw[hρi hi];exact this
   ·rw[hko hjs]at hj
    have:=hS.sees.nd j e hj;unfold fp at this ⊢;rw[hρn j hjs];exact this
  ·by_cases hjs:j∈js
   ·obtain⟨i,hi⟩:=AN hjs
    rw[hki hi]at hj;unfold fp at hb;rw[hρi hi]at hb;exact h5.lt i e b hj hb
   ·rw[hko hjs]at hj
    unfold fp at hb;rw[hρn j hjs]at hb;exact Nat.lt_of_lt_of_le (hS.sees.lt j e b hj hb) h6.size
  ·have key:∀{j k e e' b},j∈js→k∉js→kg (Bs K js es) j=some e→kg (Bs K js es) k=some e'→b∈fp ρ' j→b∉fp ρ' k:=by
    intro j k e e' b hj hk h1 h2 hb hb';obtain⟨i,hi⟩:=AN hj;rw[hki hi]at h1;rw[hko hk]at h2;unfold fp at hb hb';rw[hρi hi]at hb;rw[hρn k hk]at hb'
    rcases h7 i e b h1 hb with q|q
    ·obtain⟨j',e1,q0,q1,q2⟩:=(hF b).1 q
     exact hS.sees.dj j' e1 k e' b q1 h2 (λh=>by subst h;exact hk q0) q2 hb'
    ·have:=hS.sees.lt k e' b h2 hb'
     omega
   intro j e k e' b hj hk hjk hb hb';by_cases hjs:j∈js
   ·by_cases hks:k∈js
    ·obtain⟨i,hi⟩:=AN hjs
     obtain⟨i',hi'⟩:=AN hks;rw[hki hi]at hj;rw[hki hi']at hk;unfold fp at hb hb';rw[hρi hi]at hb;rw[hρi hi']at hb';exact h5.dj i e i' e' b hj hk (λh=>by subst h;exact hjk (hU hi hi')) hb hb'
    ·exact key hjs hks hj hk hb hb'
   ·by_cases hks:k∈js
    ·exact key hks hjs hk hj hb' hb
    ·rw[hko hjs]at hj;rw[hko hks]at hk
     unfold fp at hb hb';rw[hρn j hjs]at hb;rw[hρn k hks]at hb';exact hS.sees.dj j e k e' b hj hk hjk hb hb'
  ·by_cases hjs:j∈js
   ·obtain⟨i,hi⟩:=AN hjs
    rw[hki hi]at hj;unfold fp at hb;rw[hρi hi]at hb
    rcases h7 i e b hj hb with q|q
    ·obtain⟨j',e1,_,q1,q2⟩:=(hF b).1 q
     exact hS.new j' e1 b q1 q2
    ·exact .inr (Nat.le_trans hS.ext.size q)
   ·rw[hko hjs]at hj
    unfold fp at hb;rw[hρn j hjs]at hb;exact hS.new j e b hj hb
 refine⟨v,ρ',h1,λO E=>ls hr h4,hS',hE6,hρn,λj i e' hi hk=>?_⟩
 rw[hkes (hil hi)]at hk;obtain⟨e,q1,q2,q3⟩:=hshape hi hk;exact⟨e,q1,by rw[hρi hi];exact q2,q3⟩
end
end Go.Proofs.YtfhnbabcbhgffaaGreatDoor.Am
namespace Go.Proofs.YtfhnbabcbhgffaaGreatDoor.Am
open Go
def tL{w:World}{O:Nat→Prop}{E:EI}{m:Nat}{rs:List (List AV)}:∀{cs:List AV} {bl off o:Nat} {nb:List Nat},CR w O E bl off cs nb→cs[o]?=some (.own m rs) →
  ∃v n1 n2 n3,nb=n1++n2++n3∧w.cell? ⟨bl,off+o,none⟩=some v∧VI v=true∧XR w O E (.own m rs) v n2∧CR w O E bl off (cs.set o .u) (n1++n3)
 |[],_,_,_,_,_,h=>by simp at h
 |c::cs,bl,off,0,nb,hC,h=>by
  simp only[List.getElem?_cons_zero,Option.some.injEq]at h;subst h;unfold CR at hC;obtain⟨v,n1,n2,⟨h1,h2⟩,rfl,h3,h4⟩:=hC;refine⟨v,[],n1,n2,rfl,h1,h2,h3,?_⟩;simp only[List.set_cons_zero,List.nil_append];unfold CR;exact⟨v,[],n2,⟨h1,h2⟩,rfl,by simp[XR],h4⟩
 |c::cs,bl,off,o+1,nb,hC,h=>by
  simp only[List.getElem?_cons_succ]at h;unfold CR at hC;obtain⟨v,n1,n2,h12,rfl,h3,h4⟩:=hC;obtain⟨v',m1,m2,m3,rfl,q1,q2,q3,q4⟩:=tL h4 h;refine⟨v',n1++m1,m2,m3,by simp,by rw[show off+(o+1)=off+1+o by omega];exact q1,q2,q3,?_⟩
  simp only[List.set_cons_succ];unfold CR;exact⟨v,n1,m1++m3,h12,by simp,h3,q4⟩
def qE{w:World}{O:Nat→Prop}{E:EI}{q m o:Nat}{rs:List (List AV)}:∀{rows:List (List AV)} {bl off i:Nat} {nb:List Nat},RR w O E q bl off rows nb→(VJ rows i)[o]?=some (.own m rs) →
  ∃v n1 n2 n3,nb=n1++n2++n3∧w.cell? ⟨bl,off+(i*q+o),none⟩=some v∧VI v=true∧XR w O E (.own m rs) v n2∧RR w O E q bl off (rows.set i ((VJ rows i).set o .u)) (n1++n3)
 |[],_,_,_,_,_,h=>by simp[VJ]at h
 |r::rows,bl,off,0,nb,hR,h=>by
  unfold RR at hR;obtain⟨n1,n2,rfl,hl,hc,hr⟩:=hR;have h':r[o]?=some (.own m rs):=by simpa[VJ]using h
  obtain⟨v,m1,m2,m3,rfl,q1,q2,q3,q4⟩:=tL hc h';refine⟨v,m1,m2,m3++n2,by simp,by simpa using q1,q2,q3,?_⟩
  have e:VJ (r::rows) 0=r:=by simp[VJ]
  rw[e,List.set_cons_zero];unfold RR;exact⟨m1++m3,n2,by simp,by simpa using hl,q4,hr⟩
 |r::rows,bl,off,i+1,nb,hR,h=>by
  unfold RR at hR;obtain⟨n1,n2,rfl,hl,hc,hr⟩:=hR;have e:VJ (r::rows) (i+1)=VJ rows i:=by simp[VJ]
  rw[e]at h;obtain⟨v,m1,m2,m3,rfl,q1,q2,q3,q4⟩:=qE hr h;refine⟨v,n1++m1,m2,m3,by simp,?_,q2,q3,?_⟩
  ·rw[show off+((i+1)*q+o)=off+q+(i*q+o)by rw[Nat.succ_mul];omega]
   exact q1
  ·rw[e,List.set_cons_succ]
   unfold RR;exact⟨n1,m1++m3,by simp,hl,hc,q4⟩
section
variable{P:Program}{n:NE}{Y:Nat→Prop}{w0:World}{F0:Nat→Prop}{ρ:Dl}{f:Fr}{K:KS}{a:Act}{w:World}
def HO(K:KS)(j i o q m:Nat)(rows rs:List (List AV)):KS:=K.set j (some (.lst q (rows.set i ((VJ rows i).set o .u))))++[some (.lst m rs)]
def Sim.detach[Wd](hS:Sim n Y w0 F0 ρ f K a w){j i o q m:Nat}{rows rs:List (List AV)}(hj:kg K j=some (.lst q rows))(hc:(VJ rows i)[o]?=some (.own m rs)) :
  ∃bl v ρ',(ρ j).1=some bl∧w.cell? ⟨bl,i*q+o,none⟩=some v∧VI v=true∧Sim n Y w0 F0 ρ' f (HO K j i o q m rows rs) a w ∧
   XR w (OO (HO K j i o q m rows rs) ρ' Y) (EK (HO K j i o q m rows rs) ρ') (.sl K.length) v []∧(ρ' j).1=some bl:=by
 have hjl:=Gr hj;have hne:rows≠[]:=by rintro rfl;simp[VJ]at hc
 obtain⟨bl,hbl,hW,hR,_⟩:=hS.mem hj (by simpa[QE.rows]using hne)
 simp only[QE.rows,QE.n,QE.E]at hR hW;obtain⟨v,n1,n2,n3,hnb,hv,ho,hX,hR'⟩:=qE hR hc;rw[Nat.zero_add]at hv;have hnd:=hS.sees.nd j _ hj;have hdec:∃(b:Option Nat) (n':List Nat),n2=b.toList++n'∧(match b with
   |none=>rs=[]∧n'=[]∧∃ad,v=.slice ad 0 0
   |some b=>∃cap,v=.slice (some ⟨b,0,none⟩) rs.length cap∧rs.length≤cap∧Whole w b (cap*m)∧RR w (OO K ρ Y) EN m b 0 rs n'):=by
  simp only[XR]at hX
  rcases hX with⟨h1,h2,h3⟩|⟨b,n',cap,h1,h2,h3,h4,h5⟩
  ·exact⟨none,[],by simp[h3],h1,rfl,h2⟩
  ·exact⟨some b,n',by simp[h1],cap,h2,h3,h4,h5⟩
 obtain⟨b,n',hn2,hd⟩:=hdec
 let K1:=HO K j i o q m rows rs
 let ρ':Dl:=λx=>if x=j then(some bl,n1++n3)else if x=K.length then(b,n')else ρ x
 have hjK:j≠K.length:=by omega
 have hρj:ρ' j=(some bl,n1++n3):=by simp[ρ']
 have hρn:ρ' K.length=(b,n'):=by simp[ρ',Ne.symm hjK]
 have hρo:∀x,x≠j→x≠K.length→ρ' x=ρ x:=λx h1 h2=>by simp[ρ',h1,h2]
 have hk:∀x,kg K1 x=if x=K.length then some (.lst m rs)else if x=j then some (.lst q (rows.set i ((VJ rows i).set o .u)))else kg K x:=λx=>by
  show kg (K.set j _++[_]) x=_;rw[GZ,List.length_set];by_cases h1:x=K.length
  ·rw[if_pos h1,if_pos h1]
  ·rw[if_neg h1,if_neg h1,Zu _ _ _ _ hjl]
 have hkj:kg K1 j=some (.lst q (rows.set i ((VJ rows i).set o .u))):=by rw[hk,if_neg hjK,if_pos rfl]
 have hkn:kg K1 K.length=some (.lst m rs):=by rw[hk,if_pos rfl]
 have hko:∀x,x≠j→x≠K.length→kg K1 x=kg K x:=λx h1 h2=>by rw[hk,if_neg h2,if_neg h1]
 have hfj:fp ρ j=bl::(n1++n2++n3):=by simp[fp,hbl,hnb]
 have hfj':fp ρ' j=bl::(n1++n3):=by simp[fp,hρj]
 have hfn':fp ρ' K.length=n2:=by simp[fp,hρn,hn2]
 have hfo:∀x,x≠j→x≠K.length→fp ρ' x=fp ρ x:=λx h1 h2=>by simp[fp,hρo x h1 h2]
 have hsub:∀x,x∈fp ρ' j∨x∈fp ρ' K.length→x∈fp ρ j:=by
  intro x hx;rw[hfj',hfn']at hx;rw[hfj];simp only[List.mem_cons,List.mem_append]at hx ⊢
  rcases hx with(h|h|h)|h<;>simp[h]
 have hO:∀x,OO K1 ρ' Y x→OO K ρ Y x:=by
  rintro x (h|⟨y,e,h1,h2⟩)
  ·exact .inl h
  ·by_cases hy:y=j
   ·subst hy;exact .inr ⟨y,_,hj,hsub x (.inl h2)⟩
   ·by_cases hy':y=K.length
    ·subst hy';exact .inr ⟨j,_,hj,hsub x (.inr h2)⟩
    ·exact .inr ⟨y,e,by rw[←hko y hy hy'];exact h1,by rw[←hfo y hy hy'];exact h2⟩
 have hlen:K1.length=K.length+1:=by simp[K1,HO]
 have hsame:Same (OO K ρ Y) (EK K ρ) w (OO K1 ρ' Y) (EK K1 ρ') w:=by
  refine⟨Qg _,λ_ _ _=>rfl,λx hx _ h=>hx (hO x h),by simp[EK,hlen],λx p hx hp=>?_,λ_ _ _ _ _ _ _ h=>h⟩
  simp only[EK]at hx hp ⊢;by_cases hxj:x=j
  ·subst hxj
   rw[hkj]at hp;rw[hj,←hp,hρj,hbl];simp[QE.n,QE.rows]
  ·rw[hko x hxj (by omega)]at hp
   rw[←hp,hρo x hxj (by omega)]
 have hen:Same (OO K ρ Y) EN w (OO K1 ρ' Y) EN w:=hsame.en;rw[hfj]at hnd;have hndj:(bl::(n1++n3)).Nodup:=hnd.sublist (List.Sublist.cons_cons _ (by simp))
 have hndn:n2.Nodup:=by
  have:=(List.nodup_cons.1 hnd).2;exact this.sublist (by simp[List.append_assoc])
 have hdjn:∀x,x∈bl::(n1++n3)→x∉n2:=by
  intro x hx hx2;obtain⟨p1,p2⟩:=List.nodup_cons.1 hnd;rw[List.nodup_append,List.nodup_append]at p2;obtain⟨⟨_,_,p3⟩,_,p4⟩:=p2
  rcases List.mem_cons.1 hx with rfl|hx
  ·exact p1 (by simp[hx2])
  ·rcases List.mem_append.1 hx with hx|hx
   ·exact p3 x hx x hx2 rfl
   ·exact p4 x (by simp[hx2]) x hx rfl
 refine⟨bl,v,ρ',hbl,hv,ho,⟨hS.defers,hS.size,hsame.keep hS.keep,λt=>XR.mono (f t) hsame _ _ (by simp) (hS.fr t),⟨λx e hx=>?_,λx e hx=>?_,λx e y hx hy=>?_,λx e y e' z hx hy hxy hz hz'=>?_⟩,hS.ext,λx e y hx hy=>?_,hS.yl⟩,?_,by rw[hρj]⟩
 ·by_cases hxj:x=j
  ·subst hxj
   rw[hkj]at hx;injection hx with hx;subst hx
   rw[hρj];refine⟨by simpa[QE.rows,QE.n]using hW,?_,λh=>by cases h⟩
   exact RR.mono _ hen bl 0 _ rfl (λ_ _=>rfl) hR'
  ·by_cases hxn:x=K.length
   ·subst hxn
    rw[hkn]at hx;injection hx with hx;subst hx
    rw[hρn];cases b with
    |none=>exact⟨hd.1,hd.2.1⟩
    |some b =>
     obtain⟨cap,_,h2,h3,h4⟩:=hd;exact⟨h3.le (Nat.mul_le_mul_right m h2),RR.mono _ hen b 0 _ rfl (λ_ _=>rfl) h4,λh=>by cases h⟩
   ·rw[hko x hxj hxn]at hx
    rw[hρo x hxj hxn];have hE:Same (OO K ρ Y) (e.E (EK K ρ)) w (OO K1 ρ' Y) (e.E (EK K1 ρ')) w:=by
     cases e with
     |box cs=>exact hsame
     |lst n rows=>exact hen
    exact Reg.mono hE (λ_ _=>rfl) (λ_ _=>rfl) (hS.sees.reg x e hx)
 ·by_cases hxj:x=j
  ·subst hxj;rw[hfj'];exact hndj
  ·by_cases hxn:x=K.length
   ·subst hxn;rw[hfn'];exact hndn
   ·rw[hfo x hxj hxn];rw[hko x hxj hxn]at hx;exact hS.sees.nd x e hx
 ·by_cases hxj:x=j
  ·subst hxj;exact hS.sees.lt x _ y hj (hsub y (.inl hy))
  ·by_cases hxn:x=K.length
   ·subst hxn;exact hS.sees.lt j _ y hj (hsub y (.inr hy))
   ·rw[hfo x hxj hxn]at hy;rw[hko x hxj hxn]at hx;exact hS.sees.lt x e y hx hy
 ·have key:∀{x y e z},(x=j∨x=K.length)→y≠j→y≠K.length→kg K1 y=some e→z∈fp ρ' x→z∉fp ρ' y:=by
   intro x y e z hx h1 h2 hy hz hz';rw[hfo y h1 h2]at hz';rw[hko y h1 h2]at hy;refine hS.sees.dj j _ y e z hj hy (Ne.symm h1) (hsub z ?_) hz'
   rcases hx with rfl|rfl
   ·exact .inl hz
   ·exact .inr hz
  by_cases hx1:x=j∨x=K.length
  ·by_cases hy1:y=j∨y=K.length
   ·rcases hx1 with rfl|rfl<;>rcases hy1 with rfl|rfl
    ·exact hxy rfl
    ·rw[hfj']at hz;rw[hfn']at hz';exact hdjn z hz hz'
    ·rw[hfn']at hz;rw[hfj']at hz';exact hdjn z hz' hz
    ·exact hxy rfl
   ·exact key hx1 (λh=>hy1 (.inl h)) (λh=>hy1 (.inr h)) hy hz hz'
  ·by_cases hy1:y=j∨y=K.length
   ·exact key hy1 (λh=>hx1 (.inl h)) (λh=>hx1 (.inr h)) hx hz' hz
   ·have a1:x≠j:=λh=>hx1 (.inl h)
    have a2:x≠K.length:=λh=>hx1 (.inr h)
    have b1:y≠j:=λh=>hy1 (.inl h)
    have b2:y≠K.length:=λh=>hy1 (.inr h)
    rw[hfo x a1 a2]at hz;rw[hfo y b1 b2]at hz';rw[hko x a1 a2]at hx;rw[hko y b1 b2]at hy;exact hS.sees.dj x e y e' z hx hy hxy hz hz'
 ·by_cases hxj:x=j
  ·subst hxj;exact hS.new x _ y hj (hsub y (.inl hy))
  ·by_cases hxn:x=K.length
   ·subst hxn;exact hS.new j _ y hj (hsub y (.inr hy))
   ·rw[hfo x hxj hxn]at hy;rw[hko x hxj hxn]at hx;exact hS.new x e y hx hy
 ·simp only[XR]
  have hof:(EK K1 ρ').of K.length=some (b,m,rs.length):=by simp only[EK,hkn,Option.map_some,hρn,QE.n,QE.rows]
  refine⟨trivial,(show K.length<K1.length by omega),λn' len h=>?_,λb' n' len h=>?_⟩
  ·have h':some (b,m,rs.length)=some (none,n',len):=hof.symm.trans h
   injection h' with h';injection h' with h1 h2
   subst h1;exact hd.2.2
  ·have h':some (b,m,rs.length)=some (some b',n',len):=hof.symm.trans h
   injection h' with h';injection h' with h1 h2;injection h2 with h2 h3
   subst h1 h2 h3;obtain⟨cap,q1,q2,q3,_⟩:=hd;exact⟨cap,q1,q2,q3⟩
def jN{b o:Nat}{v:Value}{m:Nat}(hW:Whole w b m)(ho:o<m)(hv:w.cell? ⟨b,o,none⟩=some v):w.setCell ⟨b,o,none⟩ v=w:=by
 obtain⟨c,el,hc,hm⟩:=hW;have hco:c[o]?=some v:=by simpa[World.cell?,hc]using hv
 have hb:b<w.heap.size:=by
  rcases Nat.lt_or_ge b w.heap.size with h|h
  ·exact h
  ·rw[Array.getElem?_eq_none h]at hc;cases hc
 have hset:c.setIfInBounds o v=c:=by
  apply Array.ext_getElem?;intro k;rw[Array.getElem?_setIfInBounds];by_cases hk:o=k
  ·subst hk
   rw[if_pos rfl];rw[hco];rw[if_pos (by omega)]
  ·rw[if_neg hk]
 have hh:(w.setCell ⟨b,o,none⟩ v).heap=w.heap:=by
  apply Array.ext_getElem?;intro k;simp only[World.setCell,Array.getElem?_modify];by_cases hk:b=k
  ·subst hk
   rw[if_pos rfl,hc];simp[hset]
  ·rw[if_neg hk]
 have:w.setCell ⟨b,o,none⟩ v={ w with heap:=(w.setCell ⟨b,o,none⟩ v).heap }:=rfl
 rw[this,hh]
def AV.scal:AV→Bool
 |.b _|.i _ _|.s _=>true
 |_=>false
def pr{c:AV}(h:c.scal=true):c.flat=true:=by cases c<;>first|rfl|cases h
def tY{c:AV}(h:c.scal=true)(js:List Nat):Gz js c=some c:=by cases c<;>first|rfl|cases h
def Sim.nest[Wd](hS:Sim n Y w0 F0 ρ f K a w){t:TypeId}{p x:Operand}{g:FuncId}{d e:Nat}(ht:tk P t=.one){j i o q m m':Nat}{rows rs rs':List (List AV)}{r:AV}
  (hp:Am.ev f p=.ptr j i o) (hj:kg K j=some (.lst q rows)) (hc:(VJ rows i)[o]?=some (.own m rs)) (hd:d<n.n) (he:e<n.n) (hde:d≠e) (hcf:(Am.ev (up f d (.sl K.length)) x).scal=true)
  (hA:AC P g [some (.lst m rs)] [.sl 0,Am.ev (up f d (.sl K.length)) x] (λv K'=>(v=r∧K'.take 1=[some (.lst m' rs')])∧r.flat=true)) {k:KS→Prop} {l}
  (hk:CL false [] ((HO K j i o q m rows rs).set K.length (some (.lst m' rs'))) (tk P t) (.ptr j i o) (.sl K.length) k l) :
  ∃v,(Instr.loadAt t (a.eval p)).run P w=.ok v w∧∃y,(a.put (some d) v).eval x=y∧((a.put (some d) v).put (some e) y).eval (.tmp d)=v∧((a.put (some d) v).put (some e) y).eval (.tmp e)=y ∧
   (callFunc g #[v,y]).run P w=.ok (.enter g #[v,y]) w∧Calls P g #[v,y] w λen w'=>∃u,en=.returned u∧(∀O E,XR w' O E r u []) ∧
    ∃K' ρ',Sim n Y w0 F0 ρ' (up (up f d (.sl K.length)) e (Am.ev (up f d (.sl K.length)) x)) K' ((a.put (some d) v).put (some e) y) w'∧k K':=by
 have hjl:=Gr hj;have hne:rows≠[]:=by rintro rfl;simp[VJ]at hc
 have hil:i<rows.length:=by
  rcases Nat.lt_or_ge i rows.length with h|h
  ·exact h
  ·unfold VJ at hc
   rw[List.getD_eq_getElem?_getD,List.getElem?_eq_none h]at hc;simp at hc
 obtain⟨bl0,hbl0,hW0,hR0,_⟩:=hS.mem hj (by simpa[QE.rows]using hne)
 simp only[QE.rows,QE.n,QE.E]at hR0 hW0;obtain⟨nb0,hrl,_,_⟩:=Ti hR0 hil;have hol:o<q:=by
  have:o<(VJ rows i).length:=by
   rcases Nat.lt_or_ge o (VJ rows i).length with h|h
   ·exact h
   ·rw[List.getElem?_eq_none h]at hc;cases hc
  omega
 have hpv:=hS.ev p;rw[hp]at hpv;obtain⟨bl',hbl',hpeq⟩:=Fg hS hj hpv;obtain⟨bl,v,ρ1,hbl,hv,ho,hS1,hX1,hb1⟩:=hS.detach hj hc;obtain rfl:bl=bl':=by rw[hbl]at hbl';injection hbl'
 obtain rfl:bl=bl0:=by rw[hbl]at hbl0;injection hbl0
 simp only[QE.n]at hpeq;obtain⟨hz,dd,hu,hdd⟩:=WD ht;have hload:(Instr.loadAt t (a.eval p)).run P w=.ok v w:=by
  rw[hpeq];simp[Instr.loadAt,Instr.sureAddr,loadVar,KU hu,hdd,hv]
 have hS2:=hS1.put hd hX1;have hS3:=hS2.put (v:=(a.put (some d) v).eval x) he (hS2.ev x);have hsz:a.tmps.size=n.n:=hS.size;have ev1:((a.put (some d) v).put (some e) ((a.put (some d) v).eval x)).eval (.tmp e)=(a.put (some d) v).eval x:=by
  simp[Act.put,Act.eval,hsz,he]
 have ev2:((a.put (some d) v).put (some e) ((a.put (some d) v).eval x)).eval (.tmp d)=v:=by
  simp[Act.put,Act.eval,hsz,hd,Ne.symm hde]
 refine⟨v,hload,_,rfl,ev2,ev1,?_⟩;have hkn:kg (HO K j i o q m rows rs) K.length=some (.lst m rs):=by
  show kg (K.set j _++[_]) K.length=_;rw[GZ,List.length_set,if_pos rfl]
 have hsubK:Z4 (HO K j i o q m rows rs) [K.length]=[some (.lst m rs)]:=by simp[Z4,hkn]
 have hs0:Gz [K.length] (.sl K.length)=some (.sl 0):=by simp[Gz,Fb]
 have hXx:∀O E,XR w O E (Am.ev (up f d (.sl K.length)) x) ((a.put (some d) v).eval x) []:=λO E=>ls (pr hcf) (hS2.ev x)
 obtain⟨q1,q2⟩:=hS3.callA (P:=P) (js:=[K.length]) (by simp) (λj hj=>by rw[List.mem_singleton.1 hj,hkn];rfl) (g:=g) (cs:=[.sl K.length,Am.ev (up f d (.sl K.length)) x]) (cs':=[.sl 0,Am.ev (up f d (.sl K.length)) x])
    (xs:=[v,(a.put (some d) v).eval x]) (r:=r) (es:=[some (.lst m' rs')]) (by rw[hsubK];exact hA.mono λv K' ⟨h1,h2⟩=>⟨h1,h2,by simp[OH],rfl⟩)
    (by simp only[Gy,hs0,tY hcf,Qa,Option.map_some])
    (by simp only[XRs];exact⟨v,_,[],[],rfl,rfl,hX1,_,_,[],[],rfl,rfl,hXx _ _,rfl,rfl⟩)
 refine⟨q1,q2.mono λen w' ⟨u,ρ2,h1,hru,hS4,hExt,hρ,hshape⟩=>⟨u,h1,hru,?_⟩⟩
 have hjn:j≠K.length:=by omega
 have hkj:kg (HO K j i o q m rows rs) j=some (.lst q (rows.set i ((VJ rows i).set o .u))):=by
  show kg (K.set j _++[_]) j=_;rw[GZ,List.length_set,if_neg hjn,Zu _ _ _ _ hjl,if_pos rfl]
 have hb2:(ρ2 j).1=some bl:=by rw[hρ j (by simpa using hjn)];exact hb1
 have hlen:(HO K j i o q m rows rs).length=K.length+1:=by simp[HO]
 have hK2:Bs (HO K j i o q m rows rs) [K.length] [some (.lst m' rs')]=(HO K j i o q m rows rs).set K.length (some (.lst m' rs')):=by simp[Bs]
 have hkj2:kg (Bs (HO K j i o q m rows rs) [K.length] [some (.lst m' rs')]) j=some (.lst q (rows.set i ((VJ rows i).set o .u))):=by
  rw[hK2,Zu _ _ _ _ (by omega),if_neg hjn];exact hkj
 have hheap:w'.heap[bl]?=w.heap[bl]?:=hExt.block bl hW0.lt (λ⟨j',e',p1,p2,p3⟩=>by
  rw[List.mem_singleton.1 p1]at p2 p3;exact hS1.sees.dj j _ K.length e' bl hkj p2 hjn (ED hb1) p3)
 have hv':w'.cell? ⟨bl,i*q+o,none⟩=some v:=by rw[KQ hheap];exact hv
 have hW':Whole w' bl (rows.length*q):=hW0.same hheap;have hpX:XR w' (OO (Bs (HO K j i o q m rows rs) [K.length] [some (.lst m' rs')]) ρ2 Y) (EK (Bs (HO K j i o q m rows rs) [K.length] [some (.lst m' rs')]) ρ2) (.ptr j i o) (.pointer (some ⟨bl,i*q+o,none⟩)) [] :=
  NF (E:=EN) (e:=.lst q (rows.set i ((VJ rows i).set o .u))) hkj2 hb2 (by rw[ZM,hlen];omega)
 have hsX:=hS4.fr d;have hfd:up (up f d (.sl K.length)) e (Am.ev (up f d (.sl K.length)) x) d=.sl K.length:=by simp[up,hde]
 have hav:((a.put (some d) v).put (some e) ((a.put (some d) v).eval x)).tmps.getD d undef=v:=by
  have:=ev2;simpa[Act.eval]using this
 rw[hfd,hav]at hsX;rw[hK2]at hpX hsX hS4;obtain⟨K',ρ',w2,g1,g2,g3⟩:=Yk (P:=P) hS4 hk hpX hsX;have hro:(i+1)*q≤rows.length*q:=Nat.mul_le_mul_right q hil;have hro':(i+1)*q=i*q+q:=Nat.succ_mul i q;have hst:(Instr.storeAt t (.pointer (some ⟨bl,i*q+o,none⟩)) v).run P w'=.ok () w':=by
  simp only[Instr.storeAt,Instr.sureAddr,Sem.run_bind,Sem.run_pure,Result.andThen_ok,storeVar,Xb hz];rw[if_neg (by rw[Hh ho];simp),Hh ho]
  simp only[storeCells,DY,Nat.add_zero,Sem.run_bind,bB hW' (show i*q+o<rows.length*q by omega) ho,Result.andThen_ok,Sem.run_pure]
  rw[jN hW' (show i*q+o<rows.length*q by omega) hv']
 rw[hst]at g1;injection g1 with g1 g1'
 subst g1';exact⟨K',ρ',g2,g3⟩
end
end Go.Proofs.YtfhnbabcbhgffaaGreatDoor.Am
namespace Go.Proofs.YtfhnbabcbhgffaaGreatDoor.Am
open Go
section
variable{P:Program}{n:NE}{Y:Nat→Prop}{w0:World}{F0:Nat→Prop}{ρ:Dl}{f:Fr}{K:KS}{a:Act}{w:World}
def AC.sub[Wd]{g:FuncId}{js:List Nat}(hnd:js.Nodup)(hls:∀j∈js,OH (kg K j)=true){cs cs':List AV}{r:AV}{es:KS}
  (hA:AC P g (Z4 K js) cs' (λv K'=>(v=r∧K'.take js.length=es)∧r.flat=true∧(∀e∈es,OH e=true)∧es.length=js.length)) (hsub:Gy js cs=some cs'):AC P g K cs (λv K'=>v=r∧K'=Bs K js es):=by
 refine⟨hA.1,λw ρ Y vs hI hY hSe hX=>?_⟩
 let F1:Nat→Prop:=λb=>∃j e,kg K j=some e∧b∈fp ρ j
 have hS:Sim ⟨vs.length,EK K ρ⟩ Y w F1 ρ (Jy cs) K { tmps:=vs.toArray++Array.replicate (vs.length-vs.toArray.size) undef,defers:=[] } w :=
  Sim.init (by rw[XP hX];exact Qg _) hX ⟨Qg _,λ_ _ _ h=>h⟩ hSe (λj e b hj hb=>.inl ⟨j,e,hj,hb⟩) ⟨λb hb=>⟨(hY b hb).1,λ⟨j,e,hj,hb'⟩=>(hY b hb).2 j e hj hb'⟩,hI⟩
 obtain⟨_,q2⟩:=hS.callA (P:=P) hnd hls hA hsub hX;refine q2.mono λe w' ⟨v,ρ',h1,h2,hS',h4,h5,h6⟩=>⟨v,r,_,ρ',h1,⟨rfl,rfl⟩,by rw[ZM];exact Qg _,h2 _ _,hS'.sees,hS'.ext,hS'.new,λi e' hi hi'=>?_⟩
 have h3:=hS'.keep.2 i ((ρ' i).1,e'.n,e'.rows.length) hi (by simp[EK,hi'])
 simp only[EK]at h3;obtain⟨e,h4,h5⟩:=Option.map_eq_some_iff.1 h3;injection h5 with h5 h6;injection h6 with h6 h7
 exact⟨e,h4,h5.symm,h6.symm,h7.symm⟩
def bF(K:KS)(j i o q m:Nat)(rows rs':List (List AV)):KS:=K.set j (some (.lst q (rows.set i (putCells (VJ rows i) o [.own m rs']))))++[none]
def dG(cs:List AV)(o:Nat)(v c:AV)(h:o<cs.length):putCells (cs.set o v) o [c]=putCells cs o [c]:=by
 unfold putCells;rw[List.take_set_of_le (Qg _),List.drop_set_of_lt (by simp)]
def eH{α:Type}:∀(l:List α) (x y:α),(l++[x]).set l.length y=l++[y]
 |[],_,_=>rfl
 |z::l,x,y=>by simp[eH l x y]
def ir{t:TK}(ht:t=.one){j i o q m m':Nat}{rows rs rs':List (List AV)}(hj:kg K j=some (.lst q rows))(hi:i<rows.length)(ho:o<(VJ rows i).length){k:KS→Prop}(hk:k (bF K j i o q m' rows rs')) :
  CL false [] ((HO K j i o q m rows rs).set K.length (some (.lst m' rs'))) t (.ptr j i o) (.sl K.length) k ():=by
 subst ht;have hjl:=Gr hj;have hjn:j≠K.length:=by omega
 have hlen:(HO K j i o q m rows rs).length=K.length+1:=by simp[HO]
 let rowsH:=rows.set i ((VJ rows i).set o .u)
 have hkj:kg (HO K j i o q m rows rs) j=some (.lst q rowsH):=by
  show kg (K.set j _++[_]) j=_;rw[GZ,List.length_set,if_neg hjn,Zu _ _ _ _ hjl,if_pos rfl]
 have hkj2:kg ((HO K j i o q m rows rs).set K.length (some (.lst m' rs'))) j=some (.lst q rowsH):=by rw[Zu _ _ _ _ (by omega),if_neg hjn];exact hkj
 have hkn2:kg ((HO K j i o q m rows rs).set K.length (some (.lst m' rs'))) K.length=some (.lst m' rs'):=by rw[Zu _ _ _ _ (by omega),if_pos rfl]
 have hrow:VJ rowsH i=(VJ rows i).set o .u:=by simp[rowsH,VJ,List.getD_eq_getElem?_getD,hi]
 unfold CL;simp only[hkj2];rw[if_neg (by simp[C2,pC,AV.closed]),if_pos trivial]
 unfold Kh;rw[if_pos (by simp[rowsH];exact hi)]
 have hab:XJ ((HO K j i o q m rows rs).set K.length (some (.lst m' rs'))) (C2 (.sl K.length))=some (((HO K j i o q m rows rs).set K.length (some (.lst m' rs'))).set K.length none,[.own m' rs']):=by
  simp only[C2,XJ,hkn2];rfl
 rw[hab];have hset:(((HO K j i o q m rows rs).set K.length (some (.lst m' rs'))).set K.length none)=K.set j (some (.lst q rowsH))++[none]:=by
  rw[List.set_set];have h0:=eH (K.set j (some (.lst q rowsH))) (some (.lst m rs)) none;rw[List.length_set]at h0;exact h0
 have hkj3:kg (K.set j (some (.lst q rowsH))++[none]) j=some (.lst q rowsH):=by
  rw[GZ,List.length_set,if_neg hjn,Zu _ _ _ _ hjl,if_pos rfl]
 simp only[hset];rw[if_pos ⟨by rw[hkj3];rfl,rfl,by rw[hrow,List.length_set];exact ho⟩]
 show k _;have hnz:nz [] [AV.own m' rs']=[.own m' rs']:=rfl;rw[hnz,hrow,dG _ _ _ _ ho];have e1:rowsH.set i (putCells (VJ rows i) o [.own m' rs'])=rows.set i (putCells (VJ rows i) o [.own m' rs']):=by simp[rowsH]
 rw[e1,List.set_append_left _ _ (by simpa using hjl),List.set_set]
 exact hk
def OL[Wd](P:Program)(ops:Array Oper):(us:List Nat)→(l:List Oper)→(f:Fr)→(K:KS)→(k:Fr→KS→Prop)→Prop
 |_::us,o::r,f,K,k=>o.guard=none∧Sy P o.op f K (λv K'=>Gl o.dst v f (λf=>OL P ops us r f K' k) ()) ()
 |[],o1::o2::o3::r,f,K,k=>∃(d e:Nat) (t:TypeId) (p x:Operand) (g:FuncId) (ts:Array TypeId) (j i o q m m':Nat) (rows rs rs':List (List AV)) (rv:AV),
   (o1.dst=some d∧o1.op=.load t p∧o1.guard=none)∧(o2.dst=some e∧o2.op=.move x∧o2.guard=none)∧(o3.op=.call ⟨.value (.func g),#[.tmp d,.tmp e],ts⟩∧o3.guard=none) ∧
   d≠e∧tk P t=.one∧Am.ev f p=.ptr j i o∧kg K j=some (.lst q rows)∧(VJ rows i)[o]?=some (.own m rs)∧(Am.ev (up f d (.sl K.length)) x).scal=true ∧
   AC P g [some (.lst m rs)] [.sl 0,Am.ev (up f d (.sl K.length)) x] (λv K'=>(v=rv∧K'.take 1=[some (.lst m' rs')])∧rv.flat=true) ∧
   Gl o3.dst rv (up (up f d (.sl K.length)) e (Am.ev (up f d (.sl K.length)) x)) (λf=>Og P ops r f (bF K j i o q m' rows rs') k ()) ()
 |_,_,_,_,_=>False
def fF[Wd]{ops:Array Oper}{Q:Exit→Act→World→Prop}{k:Fr→KS→Prop}(hQ:∀a w,Ys n Y w0 F0 k a w→Q .normal a w) :
  ∀(us is:List Nat) (l:List Oper),is.map (ops[·]?)=l.map some→(l.all (Ba n.n))=true→∀(ρ:Dl) (f:Fr) (K:KS) (a:Act) (w:World),Sim n Y w0 F0 ρ f K a w→OL P ops us l f K k→wpOps P ops Q is a w
 |[],[],[],_,_,_,_,_,_,_,_,h=>by simp[OL]at h
 |_::_,[],[],_,_,_,_,_,_,_,_,h=>by simp[OL]at h
 |_,[],_::_,hm,_,_,_,_,_,_,_,_=>by simp at hm
 |_,_::_,[],hm,_,_,_,_,_,_,_,_=>by simp at hm
 |u::us,i::is,o::l,hm,hd,ρ,f,K,a,w,hS,h=>by
  simp only[List.map_cons,List.cons.injEq]at hm;simp only[List.all_cons,Bool.and_eq_true]at hd;have hdst:∀d,o.dst=some d→d<n.n:=λd hd'=>by simpa[Ba,hd']using hd.1
  simp only[wpOps,hm.1];obtain⟨hg,h⟩:=h;rw[if_pos (by simp[Region.wanted,hg])]
  refine .inl ((YG hS h).wp λv w' ⟨av,K',ρ',h1,h2,h3⟩=>?_)
  obtain⟨f',h4,h5⟩:=h1.putO hdst h2 h3;exact fF hQ us is l hm.2 hd.2 _ _ _ _ _ h4 h5
 |[],[i1],[o1],_,_,_,_,_,_,_,_,h=>by simp[OL]at h
 |[],[i1,i2],[o1,o2],_,_,_,_,_,_,_,_,h=>by simp[OL]at h
 |[],[_],_::_::_,hm,_,_,_,_,_,_,_,_=>by simp at hm
 |[],_::_::_,[_],hm,_,_,_,_,_,_,_,_=>by simp at hm
 |[],[_,_],_::_::_::_,hm,_,_,_,_,_,_,_,_=>by simp at hm
 |[],_::_::_::_,[_,_],hm,_,_,_,_,_,_,_,_=>by simp at hm
 |[],i1::i2::i3::is,o1::o2::o3::l,hm,hd,ρ,f,K,a,w,hS,h=>by
  simp only[List.map_cons,List.cons.injEq]at hm;simp only[List.all_cons,Bool.and_eq_true]at hd;obtain⟨m1,m2,m3,m4⟩:=hm;obtain⟨d1,d2,d3,d4⟩:=hd;obtain⟨d,e,t,p,x,g,ts,j,i,o,q,m,m',rows,rs,rs',rv,⟨p1,p2,p3⟩,⟨p4,p5,p6⟩,⟨p7,p8⟩,hde,ht,hp,hj,hc,hcf,hA,hk⟩:=h;have hdn:d<n.n:=by simpa[Ba,p1]using d1
  have hen:e<n.n:=by simpa[Ba,p4]using d2
  have hil:i<rows.length:=by
   rcases Nat.lt_or_ge i rows.length with h|h
   ·exact h
   ·unfold VJ at hc
    rw[List.getD_eq_getElem?_getD,List.getElem?_eq_none h]at hc;simp at hc
  have hol:o<(VJ rows i).length:=by
   rcases Nat.lt_or_ge o (VJ rows i).length with h|h
   ·exact h
   ·rw[List.getElem?_eq_none h]at hc;cases hc
  obtain⟨v,hload,y,hy,ev1,ev2,hen2,hcall⟩:=hS.nest (P:=P) (g:=g) (k:=λK'=>K'=bF K j i o q m' rows rs') (l:=()) ht hp hj hc hdn hen hde hcf hA (ir (rs:=rs) (m:=m) ht hj hil hol rfl)
  simp only[wpOps,m1,m2,m3];rw[if_pos (by simp[Region.wanted,p3])]
  have s1:OpOut P o1 a w (λu w'=>u=v∧w'=w):=by
   unfold OpOut;simp only[execOp,p2];exact ResOut.value hload ⟨rfl,rfl⟩
  refine .inl (s1.wp λu w' ⟨hu,hw⟩=>?_)
  subst hu hw;rw[p1,if_pos (by simp[Region.wanted,p6])]
  have s2:OpOut P o2 (a.put (some d) u) w' (λz w2=>z=y∧w2=w'):=by
   unfold OpOut;simp only[execOp,p5,hy];exact⟨rfl,rfl⟩
  refine .inl (s2.wp λz w2 ⟨hz,hw⟩=>?_)
  subst hz hw;rw[p4,if_pos (by simp[Region.wanted,p8])]
  have s3:OpOut P o3 ((a.put (some d) u).put (some e) z) w2 (λu' w'=>∃K' ρ',Sim n Y w0 F0 ρ' (up (up f d (.sl K.length)) e (Am.ev (up f d (.sl K.length)) x)) K' ((a.put (some d) u).put (some e) z) w'∧(∀O E,XR w' O E rv u' [])∧K'=bF K j i o q m' rows rs'):=by
   unfold OpOut;simp only[execOp,p7];have ea:(#[Operand.tmp d,Operand.tmp e]:Array Operand).map ((a.put (some d) u).put (some e) z).eval=#[u,z]:=by simp[ev1,ev2]
   have eg:((a.put (some d) u).put (some e) z).eval (.func g)=.func (.func g) #[] #[]:=rfl;simp only[resolve,eg,Deferred.ofValue,Sem.run_bind,Sem.run_pure,Result.andThen_ok,invoke,Array.empty_append,Array.append_empty,ea,hen2];exact hcall.mono λen w' ⟨u',h1,h2,K',ρ',h3,h4⟩=>⟨u',h1,K',ρ',h3,h2,h4⟩
  refine .inl (s3.wp λu' w' ⟨K',ρ',q1,q2,q3⟩=>?_)
  subst q3;have hdst:∀d,o3.dst=some d→d<n.n:=λd hd'=>by simpa[Ba,hd']using d3
  obtain⟨f',h4,h5⟩:=q1.putO hdst (q2 _ _) hk;exact NX hQ is l m4 d4 _ _ _ _ _ h4 h5
end
end Go.Proofs.YtfhnbabcbhgffaaGreatDoor.Am
namespace Go.Proofs.YtfhnbabcbhgffaaGreatDoor.Am
open Go
def aP(o:Oper):Bool:=match o.op with
 |.buildSlice _ len ps=>Nat.beq len 0&&Nat.beq ps.size 0
 |_=>false
def pc:Operand:=.const (.slice none 0 0)
def pG(o:Oper):Option (Nat×Operand×Array TypeId):=match o.op with
 |.call { callee:=.builtin .append,args,argTypes }=>match args.toList with
  |[.tmp d,x]=>some (d,x,argTypes)
  |_=>none
 |_=>none
def ZS(ds:List Nat)(o:Oper):Oper :=
 cond (aP o) { o with op:=.move pc } (match pG o with
  |some (d,x,ts)=>cond (ds.contains d) { o with op:=.call { callee:=.builtin .append,args:=#[pc,x],argTypes:=ts } } o
  |none=>o)
def jO(ds:List Nat)(o:Oper):Bool:=match o.dst with|some d=>!ds.contains d|none=>true
def tC(ds:List Nat)(o:Oper):Bool:=match o.dst with|some d=>ds.contains d|none=>false
def ebT(P:Program)(o:Oper):Bool:=match o.op with
 |.buildSlice t _ _=>(Lr P t).isSome
 |_=>false
def jy(ops:Array Oper)(d:Nat)(e:Edge):Bool:=Region.binds .any e&&(match ops[e.on]? with|some oe=>aP oe&&(match oe.dst with|some d'=>Nat.beq d' d|none=>false)|none=>false)
def QcZ(P:Program)(ops:Array Oper)(ds:List Nat)(o:Oper):Bool :=
 cond (aP o) (ebT P o&&(o.guard.isNone&&tC ds o)) (jO ds o&&(match pG o with
  |some (d,_,_)=>!ds.contains d||(o.guard.isNone&&o.after.toList.any (jy ops d))
  |none=>true))
def pU(P:Program)(ops:Array Oper)(ds:List Nat):Bool:=ops.toList.all (QcZ P ops ds)
def qf(ds:List Nat)(o:Oper):(ZS ds o).dst=o.dst:=by
 unfold ZS;cases aP o with
 |true=>rfl
 |false =>
  simp only[Qb]
  split
  ·rename_i d x ts _
   cases ds.contains d<;>rfl
  ·rfl
def jG(ds:List Nat)(o:Oper):(ZS ds o).after=o.after:=by
 unfold ZS;cases aP o with
 |true=>rfl
 |false =>
  simp only[Qb]
  split
  ·rename_i d x ts _
   cases ds.contains d<;>rfl
  ·rfl
def aW(ds:List Nat)(ops:Array Oper)(listed:Array Bool):Region.ready .any (ops.map (ZS ds)) listed=Region.ready .any ops listed:=by
 unfold Region.ready;rw[Array.size_map];congr 1;funext i;rw[Array.getElem?_map];cases ops[i]? with
 |none=>rfl
 |some o=>simp[jG]
def qs[Wd]{P:Program}(ds:List Nat)(ops:Array Oper){o:Oper}{f:Fr}{K:KS}{c:Fr→KS→Prop}:G8 P (ops.map (ZS ds)) o f K c=G8 P ops o f K c:=by
 have e:∀j:Nat,((ops.map (ZS ds))[j]?).bind (·.dst)=(ops[j]?).bind (·.dst):=λj=>by
  rw[Array.getElem?_map];cases ops[j]? with
  |none=>rfl
  |some o=>simp[qf]
 unfold G8
 split
 ·rfl
 ·rw[e]
section
variable{P:Program}{n:NE}{Y:Nat→Prop}{w0:World}{F0:Nat→Prop}{ρ:Dl}{f:Fr}{K:KS}{a:Act}{w:World}
def INV(ops:Array Oper)(listed:Array Bool)(f:Fr):Prop:=∀(j:Nat) (o:Oper) (d:Nat),listed[j]?=some true→ops[j]?=some o→aP o=true→o.dst=some d→f d=.nil
def tK[Wd]{ops:Array Oper}{o:Oper}{c:Fr→KS→Prop}(h:G8 P ops o f K c):G8 P ops o f K (λf' K'=>(∃v,f'=AU f o.dst v)∧c f' K'):=by
 have h1:=Dz.1 h;refine Dz.2 ?_;cases hg:gd ops o f with
 |none=>rw[hg]at h1;exact h1.elim
 |some b =>
  rw[hg]at h1;cases b with
  |false=>exact⟨⟨_,rfl⟩,h1⟩
  |true=>exact CN h1 λv K' hc=>⟨⟨v,rfl⟩,hc⟩
def INV.upd{ops:Array Oper}{listed:Array Bool}{f:Fr}{o:Oper}{v:AV}{ds:List Nat}(hE:pU P ops ds=true)(hI:INV ops listed f)(hn:jO ds o=true){i:Nat}(ho:ops[i]?=some o)(he:aP o=false) :
  INV ops (listed.setIfInBounds i true) (AU f o.dst v):=by
 intro j oj d hl hj hej hd;have hji:i≠j:=by
  rintro rfl;rw[ho]at hj;injection hj with hj
  subst hj;rw[he]at hej;cases hej
 have hdj:ds.contains d=true:=by
  have:=(List.all_eq_true.1 hE) oj (by rw[←Array.getElem?_toList]at hj;exact List.mem_of_getElem? hj)
  unfold QcZ at this;rw[hej]at this;simp only[Qc,Bool.and_eq_true]at this;have h2:=this.2.2;unfold tC at h2;rw[hd]at h2;exact h2
 have hold:f d=.nil:=by
  refine hI j oj d ?_ hj hej hd;rw[Array.getElem?_setIfInBounds]at hl;rw[if_neg hji]at hl;exact hl
 unfold AU;cases hod:o.dst with
 |none=>exact hold
 |some d' =>
  have hne:d≠d':=by
   rintro rfl;unfold jO at hn;rw[hod]at hn;have hn2:(!ds.contains d)=true:=hn;rw[hdj]at hn2;cases hn2
  simp only[up];rw[if_neg hne];exact hold
def xZ{o:Oper}(h:aP o=true):∃t,o.op=.buildSlice t 0 #[]:=by
 unfold aP at h
 split at h
 ·rename_i t len ps hop
  simp only[Bool.and_eq_true]at h;have h1:=Nat.eq_of_beq_eq_true h.1;have h2:=Nat.eq_of_beq_eq_true h.2;subst h1;have:ps=#[]:=Array.eq_empty_of_size_eq_zero h2;subst this;exact⟨t,hop⟩
 ·cases h
def w7{o:Oper}{d:Nat}{x:Operand}{ts:Array TypeId}(h:pG o=some (d,x,ts)):o.op=.call { callee:=.builtin .append,args:=#[.tmp d,x],argTypes:=ts }:=by
 unfold pG at h
 split at h
 ·rename_i args argTypes hop
  split at h
  ·rename_i d' x' hargs
   injection h with h;injection h with h1 h;injection h with h2 h3
   subst h1 h2 h3;have:args=#[.tmp d',x']:=Array.toList_inj.1 hargs;rw[hop,this]
  ·cases h
 ·cases h
def QfC[Wd](hS:Sim n Y w0 F0 ρ f K a w){o:Oper}{t:TypeId}(ho:o.op=.buildSlice t 0 #[])(ht:(Lr P t).isSome=true) :
  OpOut P o a w (λv w'=>(∀O E,XR w' O E .nil v [])∧∃ρ',Sim n Y w0 F0 ρ' f K a w'):=by
 obtain⟨⟨e,m,z⟩,ht⟩:=Option.isSome_iff_exists.1 ht;obtain⟨hu,hz,hzc,hzl,hm⟩:=cT ht;have hrun:(Instr.buildSlice t 0 #[]).run P w=.ok (.slice (some ⟨w.heap.size,0,none⟩) 0 0) (L3 w #[] e):=by
  simp[Instr.buildSlice,V4 hu,Xb hz,DA,Instr.fill];have hz0:(Array.map (λ(x:Nat)=>(default:Value)) (Array.range 0))=#[]:=Array.eq_empty_of_size_eq_zero (by simp)
  rw[hz0]
 have hb:Go.RowKit.Below w.heap.size w (L3 w #[] e):=⟨rfl,rfl,rfl,by show w.heap.size≤(w.heap.push _).size;simp,λx hx=>M2 _ _ _ _ hx⟩
 have hX:XR (L3 w #[] e) TT EN .nil (.slice (some ⟨w.heap.size,0,none⟩) 0 0) []:=by simp[XR]
 obtain⟨ρ',s1,_⟩:=hS.import (Ext.of_below hb FF) hX List.nodup_nil (by simp)
 unfold OpOut;simp only[execOp,ho];refine ResOut.value (v:=.slice (some ⟨w.heap.size,0,none⟩) 0 0) (w':=L3 w #[] e) ?_ ⟨λO E=>by simp[XR],ρ',?_⟩
 ·rw[Array.map_empty];exact hrun
 ·simpa[X2]using s1
def Ll[Wd]{ops:Array Oper}{ds:List Nat}(hE:pU P ops ds=true){Q:Exit→Act→World→Prop}{k:Fr→KS→Prop}(hd:ops.toList.all (Ba n.n)=true)(hQ:∀a w,Ys n Y w0 F0 k a w→Q .normal a w) :
  ∀(fuel:Nat) (listed:Array Bool) (ρ:Dl) (f:Fr) (K:KS) (a:Act) (w:World),Sim n Y w0 F0 ρ f K a w→INV ops listed f→KX P (ops.map (ZS ds)) k fuel listed f K→wpAny P .any ops Q fuel listed a w
 |0,listed,ρ,f,K,a,w,hS,hI,h=>by
  unfold KX at h;rw[aW]at h;exact⟨h.1,hQ a w ⟨f,K,ρ,hS,h.2⟩⟩
 |fuel+1,listed,ρ,f,K,a,w,hS,hI,h=>by
  unfold KX at h;rw[aW]at h;refine⟨λh0=>hQ a w ⟨f,K,ρ,hS,h.1 h0⟩,λi hi=>?_⟩
  cases ho:ops[i]? with
  |none =>
   have:=hi;simp[Region.ready,ho]at this
  |some o =>
   have hmem:o∈ops.toList:=by rw[←Array.getElem?_toList]at ho;exact List.mem_of_getElem? ho
   have hdo:Ba n.n o=true:=(List.all_eq_true.1 hd) o hmem;have heo:=(List.all_eq_true.1 hE) o hmem;have hx:=h.2 i hi (ZS ds o) (by rw[Array.getElem?_map,ho];rfl)
   rw[qs]at hx;have hdst:∀d,o.dst=some d→d<n.n:=λd hd'=>by simpa[Ba,hd']using hdo
   unfold QcZ at heo;cases heb:aP o with
   |true =>
    rw[heb]at heo;simp only[Qc,Bool.and_eq_true]at heo;obtain⟨h1,h2,h3⟩:=heo;obtain⟨t,hop⟩:=xZ heb;have hg:o.guard=none:=by simpa using h2
    have hnb:ZS ds o={ o with op:=.move pc }:=by unfold ZS;rw[heb];rfl
    rw[hnb]at hx;unfold G8 at hx;simp only[hg]at hx;have hx':Gl o.dst .nil f (λf=>KX P (ops.map (ZS ds)) k fuel (listed.setIfInBounds i true) f K) ():=hx
    have hte:(Lr P t).isSome=true:=by
     unfold ebT at h1;rw[hop]at h1;exact h1
    unfold wpOp;simp only[ho];rw[if_pos (by simp[Region.wanted,hg])]
    refine .inl ((QfC hS hop hte).wp λv w' ⟨q1,ρ',q2⟩=>?_)
    cases hod:o.dst with
    |none=>unfold tC at h3;rw[hod]at h3;cases h3
    |some d =>
     rw[hod]at hx';have hx2:KX P (ops.map (ZS ds)) k fuel (listed.setIfInBounds i true) (up f d .nil) K:=hx';refine Ll hE hd hQ fuel _ ρ' _ K _ w' (q2.put (hdst d hod) (q1 _ _)) ?_ hx2;intro j oj d' hl hj hej hdj;simp only[up];by_cases hdd:d'=d
     ·rw[if_pos hdd]
     ·rw[if_neg hdd]
      refine hI j oj d' ?_ hj hej hdj;rw[Array.getElem?_setIfInBounds]at hl;by_cases hij:i=j
      ·subst hij
       rw[ho]at hj;injection hj with hj
       subst hj;rw[hod]at hdj;injection hdj with hdj
       exact absurd hdj.symm hdd
      ·rw[if_neg hij]at hl
       exact hl
   |false =>
    rw[heb]at heo;simp only[Qb,Bool.and_eq_true]at heo;obtain⟨hn,happ⟩:=heo;have go:∀{o':Oper},o'.dst=o.dst→G8 P ops o' f K (λf K=>KX P (ops.map (ZS ds)) k fuel (listed.setIfInBounds i true) f K) →
      G8 P ops o' f K (λf K=>INV ops (listed.setIfInBounds i true) f∧KX P (ops.map (ZS ds)) k fuel (listed.setIfInBounds i true) f K):=λ{o'} hdo' hx=>by
     have h1:=Dz.1 (tK hx);refine Dz.2 ?_;cases hg:gd ops o' f with
     |none=>rw[hg]at h1;exact h1.elim
     |some b =>
      rw[hg]at h1;cases b with
      |false =>
       refine⟨?_,h1.2⟩;rw[hdo'];exact INV.upd hE hI hn ho heb
      |true =>
       refine CN h1 λv K' hc=>⟨?_,hc.2⟩
       rw[hdo'];exact INV.upd hE hI hn ho heb
    cases hap:pG o with
    |none =>
     have hnb:ZS ds o=o:=by unfold ZS;rw[heb,hap];rfl
     rw[hnb]at hx;exact wpOp_mono (λa w ⟨f,K,ρ,h1,h2,h3⟩=>Ll hE hd hQ fuel _ ρ f K a w h1 h2 h3) (dP ho hdo hS (go rfl hx))
    |some q =>
     obtain⟨d,x,ts⟩:=q;rw[hap]at happ;simp only[Bool.or_eq_true,Bool.not_eq_true',Bool.and_eq_true]at happ;cases hcd:ds.contains d with
     |false =>
      have hnb:ZS ds o=o:=by unfold ZS;rw[heb,hap];simp only[Qb,hcd]
      rw[hnb]at hx;exact wpOp_mono (λa w ⟨f,K,ρ,h1,h2,h3⟩=>Ll hE hd hQ fuel _ ρ f K a w h1 h2 h3) (dP ho hdo hS (go rfl hx))
     |true =>
      rw[hcd]at happ;obtain⟨hg0,hedge⟩:o.guard.isNone=true∧o.after.toList.any (jy ops d)=true:=by
       rcases happ with h|h
       ·cases h
       ·exact h
      have hg:o.guard=none:=by simpa using hg0
      obtain⟨e,hem,hed⟩:=List.any_eq_true.1 hedge;unfold jy at hed;simp only[Bool.and_eq_true]at hed;obtain⟨hbind,hed⟩:=hed;cases hoe:ops[e.on]? with
      |none=>rw[hoe]at hed;cases hed
      |some oe =>
       rw[hoe]at hed;simp only[Bool.and_eq_true]at hed;obtain⟨heb',hdd⟩:=hed;cases hde:oe.dst with
       |none=>rw[hde]at hdd;cases hdd
       |some d' =>
        rw[hde]at hdd;have hdd':d'=d:=Nat.eq_of_beq_eq_true hdd;subst hdd';have hlist:listed[e.on]?=some true:=by
         simp only[Region.ready,List.mem_filter,Bool.and_eq_true]at hi;obtain⟨_,_,h3⟩:=hi;rw[ho]at h3;simp only[Option.map_some,Option.getD_some]at h3;have h4:=(Array.all_eq_true'.1 h3) e (by simpa using hem)
         rw[hbind]at h4;simp only[Qh,Bool.false_or]at h4;rw[Array.getD_eq_getD_getElem?]at h4;cases hl:listed[e.on]? with
         |none=>rw[hl]at h4;cases h4
         |some b=>rw[hl]at h4;simp at h4;rw[h4]
        have hfd:f d'=.nil:=hI e.on oe d' hlist hoe heb' hde;have hop:=w7 hap;have hnb:ZS ds o={ o with op:=.call { callee:=.builtin .append,args:=#[pc,x],argTypes:=ts } }:=by
         unfold ZS;rw[heb,hap];simp only[Qb,hcd,Qc]
        rw[hnb]at hx;have hx1:=go (o':={ o with op:=.call { callee:=.builtin .append,args:=#[pc,x],argTypes:=ts } }) rfl hx
        unfold G8 at hx1;simp only[hg]at hx1;have hx2:=K4 hx1;have hx3:Sy P o.op f K (λv K'=>Gl o.dst v f (λf=>INV ops (listed.setIfInBounds i true) f∧KX P (ops.map (ZS ds)) k fuel (listed.setIfInBounds i true) f K') ()) ():=by
         rw[hop];unfold Sy at hx2 ⊢;simp only at hx2 ⊢;have e1:Am.ev f (.tmp d')=Am.ev f pc:=by show f d'=_;rw[hfd];rfl
         cases hts:ts.toList with
         |nil=>rw[hts]at hx2;exact hx2.elim
         |cons t tl =>
          rw[hts]at hx2;cases tl with
          |nil=>exact hx2.elim
          |cons tx tl =>
           simp only at hx2 ⊢;rw[e1];exact hx2
        unfold wpOp;simp only[ho];rw[if_pos (by simp[Region.wanted,hg])]
        refine .inl ((YG hS hx3).wp λv w' ⟨av,K',ρ',h1,h2,h3⟩=>?_)
        obtain⟨f',h4,h5,h6⟩:=h1.putO hdst h2 h3;exact Ll hE hd hQ fuel _ ρ' f' K' _ w' h4 h5 h6
end
end Go.Proofs.YtfhnbabcbhgffaaGreatDoor.Am
namespace Go.Proofs.YtfhnbabcbhgffaaGreatDoor.Am
open Go
inductive Sh where
 |n|z (k:Nat)|a (ns:List Nat)
def pD(n:Nat):AV→AV
 |.nil=>if n=0 then .nil else .imm n []
 |v=>v
def ni:List Nat→List AV→List AV
 |n::ns,c::cs=>pD n c::ni ns cs
 |_,cs=>cs
def jD:Sh→AV→AV
 |.z k,v=>pD k v
 |.a ns,.agg cs=>.agg (ni ns cs)
 |_,v=>v
def aL:List Sh→List AV→List AV
 |s::ss,v::vs=>jD s v::aL ss vs
 |_,vs=>vs
section
variable{w:World}{O:Nat→Prop}{E:EI}
def uY{n:Nat}:∀{c:AV} {v:Value} {nb:List Nat},XR w O E c v nb→XR w O E (pD n c) v nb:=by
 intro c v nb h;cases c with
 |nil =>
  simp only[pD]
  split
  ·exact h
  ·simp only[XR]at h ⊢
   obtain⟨⟨a,rfl⟩,rfl⟩:=h;exact⟨rfl,a,0,rfl,Qg _,.inl trivial⟩
 |_=>exact h
def sw:∀{ns:List Nat} {cs:List AV} {vs:List Value} {nb:List Nat},XRs w O E cs vs nb→XRs w O E (ni ns cs) vs nb
 |[],[],_,_,h=>h
 |[],_::_,_,_,h=>h
 |_::_,[],_,_,h=>h
 |n::ns,c::cs,vs,nb,h=>by
  simp only[ni,XRs]at h ⊢;obtain⟨v,vs',n1,n2,h1,h2,h3,h4⟩:=h;exact⟨v,vs',n1,n2,h1,h2,uY h3,sw h4⟩
def xU{s:Sh}{c:AV}{v:Value}{nb:List Nat}(h:XR w O E c v nb):XR w O E (jD s c) v nb:=by
 unfold jD
 split
 ·exact uY h
 ·simp only[XR]at h ⊢
  obtain⟨vs,h1,h2⟩:=h;exact⟨vs,h1,sw h2⟩
 ·exact h
def gy:∀{ss:List Sh} {cs:List AV} {vs:List Value} {nb:List Nat},XRs w O E cs vs nb→XRs w O E (aL ss cs) vs nb
 |[],[],_,_,h=>h
 |[],_::_,_,_,h=>h
 |_::_,[],_,_,h=>h
 |s::ss,c::cs,vs,nb,h=>by
  simp only[aL,XRs]at h ⊢;obtain⟨v,vs',n1,n2,h1,h2,h3,h4⟩:=h;exact⟨v,vs',n1,n2,h1,h2,xU h3,gy h4⟩
end
def PC.fix[Wd]{P:Program}{g:FuncId}{ss:List Sh}{args:List AV}{R:AV→Prop}(h:PC P g (aL ss args) R):PC P g args R :=
 ⟨h.1,λw vs hi hv=>h.2 w vs hi (gy hv)⟩
def MC[Wd](P:Program)(g:FuncId)(K1:KS)(args:List AV)(R:AV→Prop):Prop:=EnterOK P g ∧
 ∀(w:World) (ρ:Dl) (Y:Nat→Prop) (vs:List Value),(∀w',Ext (λb=>∃j e,kg K1 j=some e∧b∈fp ρ j) w w'→Wd.I w') →
  (∀b,Y b→b<w.heap.size∧∀j e,kg K1 j=some e→b∉fp ρ j)→Sees w (OO K1 ρ Y) K1 ρ→XRs w (OO K1 ρ Y) (EK K1 ρ) args vs [] →
  Calls P g vs.toArray w λe w'=>∃v x nb,e=.returned v∧R x∧XR w' TT EN x v nb∧nb.Nodup ∧
   (∀b∈nb,b<w'.heap.size∧((∃i e',kg K1 i=some e'∧b∈fp ρ i)∨w.heap.size≤b))∧Ext (λb=>∃j e,kg K1 j=some e∧b∈fp ρ j) w w'
def MC.mono[Wd]{P:Program}{g:FuncId}{K1:KS}{args:List AV}{R R':AV→Prop}(h:MC P g K1 args R)(hR:∀x,R x→R' x):MC P g K1 args R' :=
 ⟨h.1,λw ρ Y vs h0 h1 h2 h3=>(h.2 w ρ Y vs h0 h1 h2 h3).mono λe w' ⟨v,x,nb,q1,q2,q3⟩=>⟨v,x,nb,q1,hR x q2,q3⟩⟩
def D5:List Nat→KS
 |[]=>[]
 |_::l=>none::D5 l
def RX:∀l:List Nat,(D5 l).length=l.length
 |[]=>rfl
 |_::l=>by simp[D5,RX l]
def ep:∀(l:List Nat) (i:Nat),kg (D5 l) i=none
 |[],i=>by simp[D5,kg]
 |_::l,0=>rfl
 |_::l,i+1=>by
  have:=ep l i;simpa[D5,kg]using this
section
variable{P:Program}{n:NE}{Y:Nat→Prop}{w0:World}{F0:Nat→Prop}{ρ:Dl}{f:Fr}{K:KS}{a:Act}{w:World}
def Sim.liftN[Wd]{ρ':Dl}{K':KS}{w':World}(h:Sim n Y w0 F0 ρ f K a w)
  (hs:Same (OO K ρ Y) (EK K ρ) w (OO K' ρ' Y) (EK K' ρ') w') (J:Nat→Prop)
  (hold:∀j e,kg K' j=some e→¬J j→kg K j=some e∧ρ' j=ρ j∧∀b∈fp ρ j,w'.heap[b]?=w.heap[b]?)
  (hnew:∀j e,kg K' j=some e→J j→Reg w' (OO K' ρ' Y) (EK K' ρ') e (ρ' j).1 (ρ' j).2∧(fp ρ' j).Nodup∧(∀b∈fp ρ' j,b<w'.heap.size∧(w.heap.size≤b∨∃i e',kg K i=some e'∧b∈fp ρ i∧kg K' i=none)))
  (hdj:∀i e j e' b,kg K' i=some e→kg K' j=some e'→J i→J j→i≠j→b∈fp ρ' i→b∉fp ρ' j)
  (hext:Ext F0 w0 w'):Sim n Y w0 F0 ρ' f K' a w':=by
 refine⟨h.defers,h.size,hs.keep h.keep,λt=>XR.mono (f t) hs _ _ (by simp) (h.fr t),⟨?_,?_,?_,?_⟩,hext,?_,h.yl⟩
 ·intro j e hj
  by_cases hJ:J j
  ·exact(hnew j e hj hJ).1
  ·obtain⟨h1,h2,h3⟩:=hold j e hj hJ
   have hr:=h.sees.reg j e h1;rw[h2];have hE:Same (OO K ρ Y) (e.E (EK K ρ)) w (OO K' ρ' Y) (e.E (EK K' ρ')) w':=by
    cases e with
    |box cs=>exact hs
    |lst n rows=>exact hs.en
   exact Reg.mono hE (λb hb=>h3 b (ED hb)) (λb hb=>h3 b (FO hb)) hr
 ·intro j e hj
  by_cases hJ:J j
  ·exact(hnew j e hj hJ).2.1
  ·obtain⟨h1,h2,h3⟩:=hold j e hj hJ
   have:=h.sees.nd j e h1;unfold fp at *;rw[h2];exact this
 ·intro j e b hj hb
  by_cases hJ:J j
  ·exact((hnew j e hj hJ).2.2 b hb).1
  ·obtain⟨h1,h2,h3⟩:=hold j e hj hJ
   unfold fp at hb;rw[h2]at hb;exact Nat.lt_of_lt_of_le (h.sees.lt j e b h1 hb) hs.size
 ·have key:∀k e' j e,kg K' k=some e'→kg K' j=some e→¬J k→J j→∀b∈fp ρ' j,b∉fp ρ' k:=by
   intro k e' j e hk hj hkJ hJ b hb hbk;obtain⟨h1,h2,h3⟩:=hold k e' hk hkJ;have hbk':b∈fp ρ k:=by unfold fp at hbk ⊢;rw[h2]at hbk;exact hbk
   rcases((hnew j e hj hJ).2.2 b hb).2 with h4|⟨i,e2,q1,q2,q3⟩
   ·have:=h.sees.lt k e' b h1 hbk'
    omega
   ·exact h.sees.dj i e2 k e' b q1 h1 (λhh=>by subst hh;rw[hk]at q3;cases q3) q2 hbk'
  intro j e k e' b hj hk hjk hb hbk;by_cases hJ:J j
  ·by_cases hJk:J k
   ·exact hdj j e k e' b hj hk hJ hJk hjk hb hbk
   ·exact key k e' j e hk hj hJk hJ b hb hbk
  ·by_cases hJk:J k
   ·exact key j e k e' hj hk hJ hJk b hbk hb
   ·obtain⟨h1,h2,_⟩:=hold j e hj hJ
    obtain⟨h3,h4,_⟩:=hold k e' hk hJk;unfold fp at hb hbk;rw[h2]at hb;rw[h4]at hbk;exact h.sees.dj j e k e' b h1 h3 hjk hb hbk
 ·intro j e b hj hb
  by_cases hJ:J j
  ·rcases((hnew j e hj hJ).2.2 b hb).2 with h4|⟨i,e2,q1,q2,q3⟩
   ·exact .inr (Nat.le_trans h.ext.size h4)
   ·exact h.new i e2 b q1 q2
  ·obtain⟨h1,h2,h3⟩:=hold j e hj hJ
   unfold fp at hb;rw[h2]at hb;exact h.new j e b h1 hb
def Sim.callM[Wd](hS:Sim n Y w0 F0 ρ f K a w){js:List Nat}(hnd:js.Nodup)(hls:∀j∈js,OH (kg K j)=true){g:FuncId}{cs cs':List AV}{xs:List Value}{x:AV}
  (hA:MC P g (Z4 K js) cs' (·=x)) (hsub:Gy js cs=some cs') (hx:XRs w (OO K ρ Y) (EK K ρ) cs xs []) :
  (callFunc g xs.toArray).run P w=.ok (.enter g xs.toArray) w∧Calls P g xs.toArray w λe w'=>∃v ρ',e=.returned v∧Sim n Y w0 F0 ρ' f (Bs K js (D5 js)++(X2 K.length x).2) a w' ∧
   XR w' (OO (Bs K js (D5 js)++(X2 K.length x).2) ρ' Y) (EK (Bs K js (D5 js)++(X2 K.length x).2) ρ') (X2 K.length x).1 v [] ∧
   Ext (λb=>∃j e,j∈js∧kg K j=some e∧b∈fp ρ j) w w':=by
 have hltK:∀j∈js,j<K.length:=λj hj=>by
  have:=hls j hj;cases hk:kg K j with
  |none=>rw[hk]at this;cases this
  |some e=>exact Gr hk
 have hF:∀b,(∃i e,kg (Z4 K js) i=some e∧b∈fp (GU ρ js) i)↔∃j e,j∈js∧kg K j=some e∧b∈fp ρ j:=λb=>by
  constructor
  ·rintro⟨i,e,h1,h2⟩
   obtain⟨j,q1,_,q2⟩:=J6 h1;exact⟨j,e,List.mem_of_getElem? q1,q2,by rw[←Ah q1];exact h2⟩
  ·rintro⟨j,e,h0,h1,h2⟩
   obtain⟨i,hi⟩:=AN h0;have:=Ez hi;exact⟨i,e,by rw[HD this];exact h1,by rw[Ah this];exact h2⟩
 have hF0:∀x,x<w0.heap.size→(∃i e,kg (Z4 K js) i=some e∧x∈fp (GU ρ js) i)→F0 x:=λx hx h=>by
  obtain⟨j,e,_,q1,q2⟩:=(hF x).1 h
  rcases hS.new j e x q1 q2 with q|q
  ·exact q
  ·omega
 have hIm:∀{E E':EI} {b:Bool},Same (OO K ρ Y) EN w (OO (Z4 K js) (GU ρ js) (O5 K ρ js Y)) EN w:=λ{_ _ _} =>
  ⟨Qg _,λ_ _ _=>rfl,λb hb _ h=>hb ((YR b).1 h),Qg _,λ_ _ _ h=>h,λ_ _ _ _ _ _ _ h=>h⟩
 have hSees:Sees w (OO (Z4 K js) (GU ρ js) (O5 K ρ js Y)) (Z4 K js) (GU ρ js):=by
  refine⟨λi e hi=>?_,λi e hi=>?_,λi e b hi hb=>?_,λi e k e' b hi hk hik hb hb'=>?_⟩
  ·obtain⟨j,q1,_,q2⟩:=J6 hi
   have hreg:=hS.sees.reg j e q2;have hl:=hls j (List.mem_of_getElem? q1);rw[q2]at hl;rw[I7 q1];cases e with
   |box _=>cases hl
   |lst m rows=>exact Reg.mono (E:=EK K ρ) (E':=EK (Z4 K js) (GU ρ js)) (hIm (E:=EN) (E':=EN) (b:=true)) (λ_ _=>rfl) (λ_ _=>rfl) hreg
  ·obtain⟨j,q1,_,q2⟩:=J6 hi
   rw[Ah q1];exact hS.sees.nd j e q2
  ·obtain⟨j,q1,_,q2⟩:=J6 hi
   rw[Ah q1]at hb;exact hS.sees.lt j e b q2 hb
  ·obtain⟨j,q1,_,q2⟩:=J6 hi
   obtain⟨j',p1,_,p2⟩:=J6 hk;rw[Ah q1]at hb;rw[Ah p1]at hb';refine hS.sees.dj j e j' e' b q2 p2 (λh=>?_) hb hb'
   subst h;have h1:=I9 hnd q1;rw[I9 hnd p1]at h1;injection h1 with h1
   exact hik h1.symm
 refine⟨hA.1 _ _,(hA.2 w (GU ρ js) (O5 K ρ js Y) xs (λw1 h1=>hS.yl.2 w1 (hS.ext.trans h1 (λ_ h=>h) hF0)) (λb hb=>?_) hSees (MN cs hsub hx)).mono
  λe w' ⟨v,x',nb,h1,h2,h3,h4,h5,h6⟩=>?_⟩
 ·rcases hb with hb|⟨j,e,q1,q2,q3⟩
  ·obtain⟨q1,q2⟩:=hS.yl.1 b hb
   refine⟨Nat.lt_of_lt_of_le q1 hS.ext.size,λi e hi hbi=>?_⟩
   obtain⟨j,p1,_,p2⟩:=J6 hi;rw[Ah p1]at hbi
   rcases hS.new j e b p2 hbi with q|q
   ·exact q2 q
   ·omega
  ·refine⟨hS.sees.lt j e b q1 q3,λi e' hi hbi=>?_⟩
   obtain⟨j',p1,_,p2⟩:=J6 hi;rw[Ah p1]at hbi;exact hS.sees.dj j e j' e' b q1 p2 (λh=>by subst h;exact q2 (List.mem_of_getElem? p1)) q3 hbi
 subst h2;have hE6:Ext (λb=>∃j e,j∈js∧kg K j=some e∧b∈fp ρ j) w w':=⟨h6.os,h6.tape,h6.output,h6.size,λb hb hn=>h6.block b hb (λh=>hn ((hF b).1 h)),h6.who⟩
 obtain⟨bs,hFr,hk⟩:=cV x' K.length h3;generalize hK2:(X2 K.length x').2=K2 at hFr hk ⊢;have hbl:=hFr.length
 let ρ':Dl:=λi=>if i<K.length then ρ i else bs.getD (i-K.length) (none,[])
 have hkn:∀j,j<K.length→kg (Bs K js (D5 js)++K2) j=match Fb js j with|some _=>none|none=>kg K j:=λj hj=>by
  rw[KI,if_pos (by rw[ZM];exact hj),UG js _ K j hnd hltK (by rw[RX];exact Qg _)]
  cases Fb js j with
  |some i=>exact ep js i
  |none=>rfl
 have hko:∀{j},j<K.length→j∉js→kg (Bs K js (D5 js)++K2) j=kg K j:=λ{j} hj h=>by rw[hkn j hj,Li h]
 have hki:∀{j},j∈js→kg (Bs K js (D5 js)++K2) j=none:=λ{j} h=>by
  obtain⟨i,hi⟩:=AN h;rw[hkn j (hltK j h),hi]
 have hkN:∀j,K.length≤j→kg (Bs K js (D5 js)++K2) j=kg K2 (j-K.length):=λj hj=>by
  rw[KI,ZM,if_neg (by omega)]
 have hat:∀i e,kg K2 i=some e→bs[i]?=some (ρ' (K.length+i))∧ρ' (K.length+i)=bs.getD i (none,[]):=λi e hi=>by
  obtain⟨p,hp,_⟩:=hFr.at h4 hi;have hni:¬(K.length+i<K.length):=by omega
  have:ρ' (K.length+i)=p:=by simp only[ρ',hni,if_false,List.getD];rw[show K.length+i-K.length=i by omega,hp];rfl
  exact⟨by rw[this];exact hp,by simp only[ρ',hni,if_false];rw[show K.length+i-K.length=i by omega]⟩
 have hold:∀{j e},kg (Bs K js (D5 js)++K2) j=some e→j<K.length→j∉js∧kg K j=some e:=λ{j e} hj hl=>by
  have hn:j∉js:=λh=>by rw[hki h]at hj;cases hj
  exact⟨hn,by rw[←hko hl hn];exact hj⟩
 have hO:∀b,b<w.heap.size→OO (Bs K js (D5 js)++K2) ρ' Y b→OO K ρ Y b:=by
  rintro b hlt (h|⟨i,e,hi,hb'⟩)
  ·exact .inl h
  ·by_cases hik:i<K.length
   ·exact .inr ⟨i,e,(hold hi hik).2,by simpa[fp,ρ',hik]using hb'⟩
   ·rw[hkN i (by omega)]at hi
    obtain⟨p,hp,_,_,_,h10⟩:=hFr.at h4 hi;have h1:=(hat _ e hi).1;rw[show K.length+(i-K.length)=i by omega]at h1
    rw[hp]at h1;injection h1 with h1
    have h2:b∈nb:=h10 b (by rw[h1];exact hb')
    rcases(h5 b h2).2 with q|q
    ·obtain⟨j,e',_,q1,q2⟩:=(hF b).1 q
     exact .inr ⟨j,e',q1,q2⟩
    ·exact absurd hlt (by omega)
 have hsame:Same (OO K ρ Y) (EK K ρ) w (OO (Bs K js (D5 js)++K2) ρ' Y) (EK (Bs K js (D5 js)++K2) ρ') w':=by
  refine⟨h6.size,λb hb hlt=>hE6.block b hlt (λ⟨j,e,_,q1,q2⟩=>hb (.inr ⟨j,e,q1,q2⟩)),λb hb hlt h=>hb (hO b hlt h),by simp[EK,ZM],λj p hj hp=>?_,λ_ _ _ _ _ _ _ hw=>h6.who _ _ hw⟩
  simp only[EK]at hj hp ⊢;cases hkj:kg (Bs K js (D5 js)++K2) j with
  |none=>rw[hkj]at hp;cases hp
  |some e =>
   rw[hkj]at hp;rw[(hold hkj hj).2];simpa[ρ',hj]using hp
 have hlift:=hS.liftN hsame (λj=>K.length≤j) (λj e hj hJ=>by
   obtain⟨q1,q2⟩:=hold hj (by omega)
   exact⟨q2,by simp[ρ',show j<K.length by omega],λb hb=>hE6.block b (hS.sees.lt j e b q2 hb) (λ⟨k,e',p0,p1,p2⟩=>hS.sees.dj j e k e' b q2 p1 (λh=>by subst h;exact q1 p0) hb p2)⟩)
  (λj e hj hJ=>by
   rw[hkN j hJ]at hj;obtain⟨p,hp,hR,⟨m,rows,rfl⟩,hnd',h10⟩:=hFr.at h4 hj;have h1:=(hat _ _ hj).1;rw[show K.length+(j-K.length)=j by omega]at h1
   rw[hp]at h1;injection h1 with h1
   have e1:fp ρ' j=p.1.toList++p.2:=by simp[fp,h1]
   rw[←h1,e1];refine⟨?_,hnd',λb hb'=>⟨(h5 b (h10 b hb')).1,?_⟩⟩
   ·have hw:Same TT EN w' (OO (Bs K js (D5 js)++K2) ρ' Y) EN w':=⟨Qg _,λ_ h=>absurd trivial h,λ_ h=>absurd trivial h,Qg _,λ_ _ _ h=>h,λ_ _ _ _ _ _ _ h=>h⟩
    exact Reg.mono hw (λ_ _=>rfl) (λ_ _=>rfl) hR
   ·rcases(h5 b (h10 b hb')).2 with q|q
    ·obtain⟨i,e',q0,q1,q2⟩:=(hF b).1 q
     exact .inr ⟨i,e',q1,q2,hki q0⟩
    ·exact .inl q)
  (λi e j e' b hi hj hJi hJj hij hb1 hb2=>by
   rw[hkN _ hJi]at hi;rw[hkN _ hJj]at hj;have h1:=(hat _ _ hi).1;have h2:=(hat _ _ hj).1;rw[show K.length+(i-K.length)=i by omega]at h1
   rw[show K.length+(j-K.length)=j by omega]at h2
   exact hFr.dj h4 hi hj (by omega) h1 h2 b hb1 hb2)
  (hS.ext.trans h6 (λ_ h=>h) hF0)
 refine⟨v,ρ',h1,hlift,hk _ _ ⟨by simp[EK,ZM],λi e hi q hq=>?_⟩,hE6⟩
 simp only[EK]at hq;rw[hkN _ (by omega),show K.length+i-K.length=i by omega,hi]at hq
 simp at hq;exact⟨_,(hat i e hi).1,hq.symm⟩
def MC.sub[Wd]{g:FuncId}{js:List Nat}(hnd:js.Nodup)(hls:∀j∈js,OH (kg K j)=true){cs cs':List AV}{x:AV}
  (hA:MC P g (Z4 K js) cs' (·=x)) (hsub:Gy js cs=some cs'):AC P g K cs (λv K'=>v=(X2 K.length x).1∧K'=Bs K js (D5 js)++(X2 K.length x).2):=by
 refine⟨hA.1,λw ρ Y vs hI hY hSe hX=>?_⟩
 let F1:Nat→Prop:=λb=>∃j e,kg K j=some e∧b∈fp ρ j
 have hS:Sim ⟨vs.length,EK K ρ⟩ Y w F1 ρ (Jy cs) K { tmps:=vs.toArray++Array.replicate (vs.length-vs.toArray.size) undef,defers:=[] } w :=
  Sim.init (by rw[XP hX];exact Qg _) hX ⟨Qg _,λ_ _ _ h=>h⟩ hSe (λj e b hj hb=>.inl ⟨j,e,hj,hb⟩) ⟨λb hb=>⟨(hY b hb).1,λ⟨j,e,hj,hb'⟩=>(hY b hb).2 j e hj hb'⟩,hI⟩
 obtain⟨_,q2⟩:=hS.callM (P:=P) hnd hls hA hsub hX;refine q2.mono λe w' ⟨v,ρ',h1,hS',h2,h4⟩=>⟨v,_,_,ρ',h1,⟨rfl,rfl⟩,by rw[List.length_append,ZM];omega,h2,hS'.sees,hS'.ext,hS'.new,λi e' hi hi'=>?_⟩
 have h3:=hS'.keep.2 i ((ρ' i).1,e'.n,e'.rows.length) hi (by simp[EK,hi'])
 simp only[EK]at h3;obtain⟨e,h4,h5⟩:=Option.map_eq_some_iff.1 h3;injection h5 with h5 h6;injection h6 with h6 h7
 exact⟨e,h4,h5.symm,h6.symm,h7.symm⟩
end
end Go.Proofs.YtfhnbabcbhgffaaGreatDoor.Am
namespace Go.Proofs.YtfhnbabcbhgffaaGreatDoor.Am
open Go
def wi(vs:List Nat)(o:Op):Bool:=match o with
 |.call { callee:=.value (.func g),.. }=>vs.contains g
 |_=>false
def Sl[Wd](vs:List Nat)(P:Program)(o:Op)(f:Fr)(K:KS)(k:AV→KS→Prop):Prop:=if wi vs o=true then Sy P o f K k ()else Gk P o f K k ()
def qA[Wd]{vs:List Nat}{P:Program}{o:Op}{f:Fr}{K:KS}{k:AV→KS→Prop}(h:Sl vs P o f K k):Sy P o f K k ():=by
 unfold Sl at h
 split at h
 ·exact h
 ·exact K4 h
def jv[Wd]{P:Program}{g:FuncId}{K:KS}{vs:List AV}{k k':AV→KS→Prop}(h:TF P g K vs k ())(hk:∀v K,k v K→k' v K):TF P g K vs k' ():=by
 rcases h with⟨R,h1,h2⟩|⟨R,h1,h2⟩
 ·exact .inl ⟨R,h1,λx hx=>hk _ _ (h2 x hx)⟩
 ·exact .inr ⟨R,h1,λx K' hx=>hk _ _ (h2 x K' hx)⟩
def bI[Wd]{vs:List Nat}{P:Program}{o:Op}{f:Fr}{K:KS}{k k':AV→KS→Prop}(h:Sl vs P o f K k)(hk:∀v K,k v K→k' v K):Sl vs P o f K k':=by
 unfold Sl at h ⊢
 split at h
 ·rename_i hv
  rw[if_pos hv];unfold wi at hv
  split at hv
  ·rename_i g args ts
   show TF P g K (args.toList.map (ev f)++[]) k' ();exact jv (show TF P g K (args.toList.map (ev f)++[]) k ()from h) hk
  ·cases hv
 ·rename_i hv
  rw[if_neg hv];exact CN h hk
def jJ[Wd]{vs:List Nat}{P:Program}{o:Op}{f f':Fr}{K:KS}{k:AV→KS→Prop}(h:∀x∈o.operands,Am.ev f x=Am.ev f' x):Sl vs P o f K k=Sl vs P o f' K k:=by
 unfold Sl;rw[Lj h,Wc h]
def Ha[Wd](vs:List Nat)(P:Program)(ops:Array Oper)(o:Oper)(f:Fr)(K:KS)(c:Fr→KS→Prop):Prop :=
 match gd ops o f with
 |some true=>Sl vs P o.op f K (λv K'=>c (AU f o.dst v) K')
 |some false=>c (AU f o.dst (.tup [])) K
 |none=>False
def RF[Wd]{vs:List Nat}{P:Program}{ops:Array Oper}{o:Oper}{f:Fr}{K:KS}{c:Fr→KS→Prop}(hv:wi vs o.op=false):Ha vs P ops o f K c↔G8 P ops o f K c:=by
 rw[Dz];unfold Ha Sl;rw[hv];exact Iff.rfl
def Lx[Wd]{vs:List Nat}{P:Program}{ops:Array Oper}{o:Oper}{f:Fr}{K:KS}{c c':Fr→KS→Prop}(h:Ha vs P ops o f K c)(hk:∀f K,c f K→c' f K):Ha vs P ops o f K c':=by
 unfold Ha at h ⊢;cases hg:gd ops o f with
 |none=>rw[hg]at h;exact h.elim
 |some b =>
  rw[hg]at h;cases b with
  |false=>exact hk _ _ h
  |true=>exact bI h λv K'=>hk _ _
def Mq[Wd](vs:List Nat)(P:Program)(ops:Array Oper)(k:Fr→KS→Prop):Nat→Array Bool→Fr→KS→Prop
 |0,listed,f,K=>Region.ready .any ops listed=[]∧k f K
 |fuel+1,listed,f,K=>(Region.ready .any ops listed=[]→k f K) ∧
  ∀i∈Region.ready .any ops listed,∀o,ops[i]?=some o→Ha vs P ops o f K (λf K=>Mq vs P ops k fuel (listed.setIfInBounds i true) f K)
section
variable{P:Program}{n:NE}{Y:Nat→Prop}{w0:World}{F0:Nat→Prop}{ρ:Dl}{f:Fr}{K:KS}{a:Act}{w:World}
def fO[Wd]{vs:List Nat}{ops:Array Oper}{Q:Exit→Act→World→Prop}{i:Nat}{o:Oper}(ho:ops[i]?=some o)(hd:Ba n.n o=true){c:Fr→KS→Prop}(hS:Sim n Y w0 F0 ρ f K a w)(h:Ha vs P ops o f K c) :
  wpOp P ops Q i (λa w=>Ys n Y w0 F0 c a w) a w:=by
 have hdst:∀d,o.dst=some d→d<n.n:=λd hd'=>by simpa[Ba,hd']using hd
 unfold wpOp;simp only[ho];have run:Sl vs P o.op f K (λv K'=>c (AU f o.dst v) K')→o.wp P a w (λa w=>Ys n Y w0 F0 c a w) Q:=λh =>
  (YG hS (qA h)).wp λv w' ⟨av,K',ρ',h1,h2,h3⟩=>by
   obtain⟨f',h4,h5⟩:=h1.putO (k:=λf=>c f K') (l:=()) hdst h2 (by rw[RK];exact h3)
   exact⟨f',K',ρ',h4,h5⟩
 have no:c (AU f o.dst (.tup [])) K→Ys n Y w0 F0 c (a.put o.dst undef) w:=λh=>by
  obtain⟨f',h4,h5⟩:=hS.putO (k:=λf=>c f K) (l:=()) hdst (v:=undef) (W9 _ _ _) (by rw[RK];exact h)
  exact⟨f',K,ρ,h4,h5⟩
 unfold Ha gd at h;cases hg:o.guard with
 |none =>
  rw[hg]at h;rw[if_pos (by simp[Region.wanted,hg])]
  exact .inl (run h)
 |some jw =>
  obtain⟨j,want⟩:=jw;rw[hg]at h;simp only at h;cases hj:(ops[j]?).bind (·.dst)with
  |none=>rw[hj]at h;exact h.elim
  |some d =>
   rw[hj]at h;simp only at h;cases hx:f d with
   |b x =>
    rw[hx]at h;simp only at h;have hv:=hS.fr d;rw[hx]at hv;simp only[XR]at hv;have hdn:d<n.n:=by
     refine Nat.lt_of_not_le λhge=>?_
     have:=hv.1;rw[Array.getD_eq_getD_getElem?,Array.getElem?_eq_none (by rw[hS.size];exact hge)]at this
     cases this
    have hy:yielded ops a.tmps j=some x:=by
     unfold yielded;have h1:a.tmps[d]?=some (.bool x):=by
      have h2:=hv.1;rw[Array.getD_eq_getD_getElem?]at h2;rw[Array.getElem?_eq_getElem (by rw[hS.size];exact hdn)]at h2 ⊢
      simpa using h2
     simp only[hj,Qa,h1]
    have hw:Region.wanted o (yielded ops a.tmps)=(x==want):=by simp[Region.wanted,hg,hy]
    rw[hw];cases hxw:(x==want)with
    |true=>rw[hxw]at h;rw[if_pos rfl];exact .inl (run h)
    |false=>rw[hxw]at h;rw[if_neg (by simp)];exact no h
   |tup l =>
    rw[hx]at h;cases l with
    |nil =>
     have hv:=hS.fr d;rw[hx]at hv;rw[OR hg hj hv];simp;exact no h
    |cons _ _=>exact h.elim
   |_=>rw[hx]at h;exact h.elim
def WX[Wd]{vs:List Nat}{ops:Array Oper}{Q:Exit→Act→World→Prop}{k:Fr→KS→Prop}(hd:ops.toList.all (Ba n.n)=true)(hQ:∀a w,Ys n Y w0 F0 k a w→Q .normal a w) :
  ∀(fuel:Nat) (listed:Array Bool) (ρ:Dl) (f:Fr) (K:KS) (a:Act) (w:World),Sim n Y w0 F0 ρ f K a w→Mq vs P ops k fuel listed f K→wpAny P .any ops Q fuel listed a w
 |0,listed,ρ,f,K,a,w,hS,h=>⟨h.1,hQ a w ⟨f,K,ρ,hS,h.2⟩⟩
 |fuel+1,listed,ρ,f,K,a,w,hS,h=>⟨λh0=>hQ a w ⟨f,K,ρ,hS,h.1 h0⟩,λi hi=>by
  cases ho:ops[i]? with
  |none =>
   have:=hi;simp[Region.ready,ho]at this
  |some o =>
   have hdo:Ba n.n o=true:=(List.all_eq_true.1 hd) o (by rw[←Array.getElem?_toList]at ho;exact List.mem_of_getElem? ho)
   exact wpOp_mono (λa w ⟨f,K,ρ,h1,h2⟩=>WX hd hQ fuel _ ρ f K a w h1 h2) (fO ho hdo hS (h.2 i hi o ho))⟩
def RP[Wd](vs:List Nat)(P:Program)(ops:Array Oper):List Oper→Fr→KS→(Fr→KS→Prop)→Prop
 |[],f,K,k=>k f K
 |o::r,f,K,k=>Ha vs P ops o f K λf K=>RP vs P ops r f K k
def gn[Wd]{vs:List Nat}{ops:Array Oper}{Q:Exit→Act→World→Prop}{k:Fr→KS→Prop}(hQ:∀a w,Ys n Y w0 F0 k a w→Q .normal a w) :
  ∀(is:List Nat) (l:List Oper),is.map (ops[·]?)=l.map some→(l.all (Ba n.n))=true→∀(ρ:Dl) (f:Fr) (K:KS) (a:Act) (w:World),Sim n Y w0 F0 ρ f K a w→RP vs P ops l f K k→wpOps P ops Q is a w
 |[],[],_,_,ρ,f,K,a,w,hS,h=>hQ a w ⟨f,K,ρ,hS,h⟩
 |[],_::_,hm,_,_,_,_,_,_,_,_=>by simp at hm
 |_::_,[],hm,_,_,_,_,_,_,_,_=>by simp at hm
 |i::is,o::l,hm,hd,ρ,f,K,a,w,hS,h=>by
  simp only[List.map_cons,List.cons.injEq]at hm;simp only[List.all_cons,Bool.and_eq_true]at hd;rw[wpOps_cons];exact wpOp_mono (λa w ⟨f,K,ρ,h1,h2⟩=>gn hQ is l hm.2 hd.2 ρ f K a w h1 h2) (fO hm.1 hd.1 hS h)
end
def Im(vs:List Nat)(P:Program)(ops:Array Oper)(oi oj:Oper):Bool:=if wi vs oj.op=true then oi.apart ops oj&&Km oi.op else KH P ops oi oj
def KB{vs:List Nat}{P:Program}{ops:Array Oper}{oi oj:Oper}(h:Im vs P ops oi oj=true):oi.apart ops oj=true:=by
 unfold Im at h
 split at h
 ·simp only[Bool.and_eq_true]at h;exact h.1
 ·simp only[KH,Bool.and_eq_true]at h;exact h.1
def ik[Wd]{vs:List Nat}{P:Program}{ops:Array Oper}{oi oj:Oper}{r:AV}{f:Fr}{K:KS}{c c':Fr→KS→Prop}(hok:Im vs P ops oi oj=true)
  (h:Ha vs P ops oj (AU f oi.dst r) K c) (hk:∀f' K',(∃x,f'=AU f oj.dst x)→(∀K'',T9 oi.op K' K''→T9 oi.op K K'')→c (AU f' oi.dst r) K'→c' f' K'):Ha vs P ops oj f K c':=by
 cases hv:wi vs oj.op with
 |false =>
  rw[RF hv]at h ⊢;have hok':KH P ops oi oj=true:=by unfold Im at hok;rw[hv]at hok;exact hok
  exact U6 (KB hok) h λf' K' h1 h2 h3=>hk f' K' h1 (fY hok' h2) h3
 |true =>
  have hfr:Km oi.op=true:=by
   unfold Im at hok;rw[if_pos hv]at hok;simp only[Bool.and_eq_true]at hok;exact hok.2
  have hst:∀K' K'',T9 oi.op K' K''→T9 oi.op K K'':=λ_ _ _=>.inl hfr
  obtain⟨a1,a2,a3⟩:=Oper.apart_spec (KB hok);have hag:Agree ops oj f (AU f oi.dst r):=RG a1;unfold Ha at h ⊢;rw[PM hag]at h;cases hg:gd ops oj f with
  |none=>rw[hg]at h;exact h.elim
  |some b =>
   rw[hg]at h;cases b with
   |false =>
    simp only at h ⊢;rw[IU _ _ _ _ _ a2]at h;exact hk _ _ ⟨_,rfl⟩ (hst K) h
   |true =>
    simp only at h ⊢;rw[←jJ hag.ev]at h;exact bI h λv K' hk'=>hk _ _ ⟨v,rfl⟩ (hst K') (by rw[IU _ _ _ _ _ a2]at hk';exact hk')
def WS{vs:List Nat}{o:Op}(h:Gm o=true):wi vs o=false:=by
 cases hv:wi vs o with
 |false=>rfl
 |true =>
  unfold wi at hv
  split at hv
  ·cases h
  ·cases hv
def T1[Wd]{vs:List Nat}{P:Program}{ops:Array Oper}{k:Fr→KS→Prop}{i:Nat}{oi:Oper}(hi:ops[i]?=some oi)(hp:Gm oi.op=true){r:AV}{D:List Nat}
  (hD:∀j∈D,∃oj,ops[j]?=some oj∧∃e∈oj.after,Region.binds .any e=true∧(e.on=i∨e.on∈D)) :
  ∀(fuel:Nat) (listed:Array Bool) (f:Fr) (K:KS),
   (∀j oj,ops[j]?=some oj→j≠i→listed.getD j true=false→j∉D→Im vs P ops oi oj=true)→(∀j∈D,listed.getD j true=false) →
   i∈Region.ready .any ops listed→XV P ops oi r f K→Mq vs P ops k fuel (listed.setIfInBounds i true) (AU f oi.dst r) K→Mq vs P ops k (fuel+1) listed f K:=by
 have hpv:=WS (vs:=vs) hp;have here:∀{fuel:Nat} {listed:Array Bool} {f:Fr} {K:KS},XV P ops oi r f K→Mq vs P ops k fuel (listed.setIfInBounds i true) (AU f oi.dst r) K→Ha vs P ops oi f K (λf K=>Mq vs P ops k fuel (listed.setIfInBounds i true) f K) :=
  λhv H=>(RF hpv).2 (hv _ _ _ (λ_ _=>rfl) (.inr (.inr (Keeps.refl _))) H)
 intro fuel
 induction fuel with
 |zero =>
  intro listed f K _ _ hr hv H;refine⟨λh=>(by rw[h]at hr;cases hr),λj hj o ho=>?_⟩
  by_cases hji:j=i
  ·subst hji;rw[hi]at ho;injection ho with ho;subst ho;exact here hv H
  ·have:=ready_mono hj hji
   rw[H.1]at this;cases this
 |succ fuel ih =>
  intro listed f K hfree hun hr hv H;refine⟨λh=>(by rw[h]at hr;cases hr),λj hj oj hoj=>?_⟩
  by_cases hji:j=i
  ·subst hji;rw[hi]at hoj;injection hoj with ho;subst ho;exact here hv H
  ·have h1:=H.2 j (ready_mono hj hji) oj hoj
   obtain⟨hjun,oj',hoj',hall⟩:=mem_ready.1 hj;rw[hoj]at hoj';injection hoj' with hoj';subst hoj'
   have hnot:j∉D:=λhjD=>by
    obtain⟨oj',q1,e,q2,q3,q4⟩:=hD j hjD;rw[hoj]at q1;injection q1 with q1;subst q1
    have h1:=hall e q2 q3;have h0:listed.getD e.on true=false:=by
     rcases q4 with q4|q4
     ·rw[q4];exact(mem_ready.1 hr).1
     ·exact hun _ q4
    rcases Nat.lt_or_ge e.on listed.size with h'|h'
    ·simp[h']at h0 h1;rw[h0]at h1;cases h1
    ·simp[Array.getElem?_eq_none h']at h1
   have hok:=hfree j oj hoj hji hjun hnot;have hset:∀m,m≠j→(listed.setIfInBounds j true).getD m true=listed.getD m true:=λm hm=>getD_set_ne true (Ne.symm hm)
   have hfree':∀k ok,ops[k]?=some ok→k≠i→(listed.setIfInBounds j true).getD k true=false →
     k∉D→Im vs P ops oi ok=true:=λk ok hk hki hun hno=>by
    refine hfree k ok hk hki ?_ hno;by_cases hjk:j=k
    ·subst hjk;exact hjun
    ·rw[hset k (Ne.symm hjk)]at hun;exact hun
   refine ik hok h1 λf' K' ⟨x,hf'⟩ hrel h3=>?_
   refine ih (listed.setIfInBounds j true) f' K' hfree' (λm hm=>?_) (ready_mono hr (Ne.symm hji)) ?_ ?_
   ·rw[hset m (λh=>hnot (h▸hm))];exact hun m hm
   ·refine hv.agree (λt ht=>?_) hrel
    rw[hf'];obtain⟨a1,a2,a3⟩:=Oper.apart_spec (KB hok);cases hd:oj.dst with
    |none=>rfl
    |some e =>
     have:t≠e:=λh'=>by subst h';exact a3 t hd ht
     simp[AU,up,this]
   ·rw[Array.setIfInBounds_comm _ _ hji]
    exact h3
def mk(vs:List Nat)(P:Program)(ops:Array Oper)(listed:Array Bool)(i:Nat)(oi:Oper):Bool :=
 (Kx ops i).all (λj=>!listed.getD j true)&&(List.range ops.size).all λj=>j==i||listed.getD j true||(Kx ops i).contains j||match ops[j]? with
  |some oj=>Im vs P ops oi oj
  |none=>true
def oh(vs:List Nat)(P:Program)(ops:Array Oper):List Nat→Array Bool→Bool
 |[],listed=>(Region.ready .any ops listed).isEmpty
 |i::r,listed=>match ops[i]? with
  |some oi=>(Region.ready .any ops listed).contains i&&((Region.ready .any ops listed)==[i]||(Gm oi.op&&mk vs P ops listed i oi))&&oh vs P ops r (listed.setIfInBounds i true)
  |none=>false
def LL{vs:List Nat}{P:Program}{ops:Array Oper}{listed:Array Bool}{i:Nat}{oi:Oper}(h:mk vs P ops listed i oi=true) :
  (∀j oj,ops[j]?=some oj→j≠i→listed.getD j true=false→j∉Kx ops i→Im vs P ops oi oj=true)∧∀j∈Kx ops i,listed.getD j true=false:=by
 unfold mk at h;rw[Bool.and_eq_true,List.all_eq_true,List.all_eq_true]at h;refine⟨λj oj hj hji hl hno=>?_,λj hj=>by simpa using h.1 j hj⟩
 have hlt:j<ops.size:=by
  rcases Nat.lt_or_ge j ops.size with h'|h'
  ·exact h'
  ·rw[Array.getElem?_eq_none h']at hj;cases hj
 have:=h.2 j (List.mem_range.2 hlt);simp only[hj,Bool.or_eq_true,beq_iff_eq,List.contains_iff_mem]at this
 rcases this with((h1|h1)|h1)|h1
 ·exact absurd h1 hji
 ·rw[hl]at h1;cases h1
 ·exact absurd h1 hno
 ·exact h1
def ia[Wd]{vs:List Nat}{P:Program}{ops:Array Oper}{k:Fr→KS→Prop}:∀(is:List Nat) (listed:Array Bool) (fuel:Nat) (f:Fr) (K:KS),oh vs P ops is listed=true→is.length≤fuel →
  RP vs P ops (is.filterMap (ops[·]?)) f K k→Mq vs P ops k fuel listed f K
 |[],listed,fuel,f,K,ho,_,h=>by
  have hr:Region.ready .any ops listed=[]:=by simpa[oh]using ho
  cases fuel with
  |zero=>exact⟨hr,h⟩
  |succ fuel=>exact⟨λ_=>h,λi hi=>by rw[hr]at hi;cases hi⟩
 |i::is,listed,0,f,K,ho,hl,h=>by simp at hl
 |i::is,listed,fuel+1,f,K,ho,hl,h=>by
  unfold oh at ho
  split at ho
  ·rename_i oi hi
   simp only[Bool.and_eq_true,Bool.or_eq_true,beq_iff_eq]at ho;obtain⟨⟨h1,h2⟩,h3⟩:=ho;have hmem:i∈Region.ready .any ops listed:=by simpa using h1
   have hfm:(i::is).filterMap (ops[·]?)=oi::is.filterMap (ops[·]?):=by simp[hi]
   rw[hfm]at h;have h':Ha vs P ops oi f K λf K=>Mq vs P ops k fuel (listed.setIfInBounds i true) f K:=Lx h λf K h=>ia is _ fuel f K h3 (by simpa using hl) h
   rcases h2 with h2|h2
   ·refine⟨λh0=>(by rw[h0]at hmem;cases hmem),λj hj o ho=>?_⟩
    rw[h2]at hj;simp only[List.mem_singleton]at hj;subst hj;rw[hi]at ho;injection ho with ho;subst ho
    exact h'
   ·obtain⟨r,hr1,hr2⟩:=NI h2.1 ((RF (WS h2.1)).1 h')
    exact T1 hi h2.1 Kd fuel listed f K (LL h2.2).1 (LL h2.2).2 hmem hr2 hr1
  ·cases ho
def Hi[Wd](vs:List Nat)(P:Program)(ops:Array Oper):OT→Fr→KS→(Fr→KS→Prop)→Prop
 |.done,f,K,k=>k f K
 |.one i t,f,K,k=>match ops[i]? with
  |some oi=>Ha vs P ops oi f K λf K=>Hi vs P ops t f K k
  |none=>False
 |.alt a b,f,K,k=>Hi vs P ops a f K k∧Hi vs P ops b f K k
def am(vs:List Nat)(P:Program)(ops:Array Oper):OT→Bool→Array Bool→Bool
 |.done,br,listed=>!br&&(Region.ready .any ops listed).isEmpty
 |.one i t,br,listed=>match ops[i]? with
  |some oi=>(br||((Region.ready .any ops listed).contains i&&((Region.ready .any ops listed)==[i]||(Gm oi.op&&mk vs P ops listed i oi))))&&am vs P ops t false (listed.setIfInBounds i true)
  |none=>false
 |.alt a b,br,listed=>(br||(!(Region.ready .any ops listed).isEmpty&&(Region.ready .any ops listed).all λi=>(a.heads++b.heads).contains i))&&(am vs P ops a true listed&&am vs P ops b true listed)
def I8[Wd]{vs:List Nat}{P:Program}{ops:Array Oper}{k:Fr→KS→Prop}{i:Nat}{listed:Array Bool}{f:Fr}{K:KS}:∀{t:OT},am vs P ops t true listed=true→i∈t.heads→Hi vs P ops t f K k →
  ∃oi t',ops[i]?=some oi∧Ha vs P ops oi f K (λf K=>Hi vs P ops t' f K k)∧am vs P ops t' false (listed.setIfInBounds i true)=true∧t'.depth+1≤t.depth
 |.done,_,hi,_=>by cases hi
 |.one j t,ho,hi,h=>by
  simp only[OT.heads,List.mem_singleton]at hi;subst hi;unfold am at ho;unfold Hi at h
  split at ho
  ·rename_i oi hoi
   simp only[hoi]at h;simp only[Bool.true_or,Bool.true_and]at ho;exact⟨oi,t,hoi,h,ho,Qg _⟩
  ·cases ho
 |.alt a b,ho,hi,h=>by
  unfold am at ho;simp only[Bool.true_or,Bool.true_and,Bool.and_eq_true]at ho;simp only[OT.heads,List.mem_append]at hi
  rcases hi with hi|hi
  ·obtain⟨oi,t',h1,h2,h3,h4⟩:=I8 ho.1 hi h.1
   exact⟨oi,t',h1,h2,h3,Nat.le_trans h4 (Nat.le_max_left _ _)⟩
  ·obtain⟨oi,t',h1,h2,h3,h4⟩:=I8 ho.2 hi h.2
   exact⟨oi,t',h1,h2,h3,Nat.le_trans h4 (Nat.le_max_right _ _)⟩
def z8[Wd]{vs:List Nat}{P:Program}{ops:Array Oper}{k:Fr→KS→Prop}:∀(fuel:Nat) (t:OT) (listed:Array Bool) (f:Fr) (K:KS),am vs P ops t false listed=true→t.depth≤fuel →
  Hi vs P ops t f K k→Mq vs P ops k fuel listed f K:=by
 have go:∀(fuel:Nat),(∀(t:OT) (listed:Array Bool) (f:Fr) (K:KS),am vs P ops t false listed=true→t.depth≤fuel→Hi vs P ops t f K k→Mq vs P ops k fuel listed f K) →
   ∀(t:OT) (listed:Array Bool) (f:Fr) (K:KS),am vs P ops t false listed=true→t.depth≤fuel+1→Hi vs P ops t f K k→Mq vs P ops k (fuel+1) listed f K:=by
  intro fuel ih t listed f K ho hd h;cases t with
  |done =>
   have hr:Region.ready .any ops listed=[]:=by simpa[am]using ho
   exact⟨λ_=>h,λi hi=>by rw[hr]at hi;cases hi⟩
  |one i t =>
   unfold am at ho;unfold Hi at h
   split at ho
   ·rename_i oi hi
    simp only[hi]at h;simp only[Bool.false_or,Bool.and_eq_true,Bool.or_eq_true,beq_iff_eq]at ho;obtain⟨⟨h1,h2⟩,h3⟩:=ho;have hmem:i∈Region.ready .any ops listed:=by simpa using h1
    have h':Ha vs P ops oi f K λf K=>Mq vs P ops k fuel (listed.setIfInBounds i true) f K:=Lx h λf K h=>ih t _ f K h3 (by simp only[OT.depth]at hd;omega) h
    rcases h2 with h2|h2
    ·refine⟨λh0=>(by rw[h0]at hmem;cases hmem),λj hj o ho=>?_⟩
     rw[h2]at hj;simp only[List.mem_singleton]at hj;subst hj;rw[hi]at ho;injection ho with ho;subst ho
     exact h'
    ·obtain⟨r,hr1,hr2⟩:=NI h2.1 ((RF (WS h2.1)).1 h')
     exact T1 hi h2.1 Kd fuel listed f K (LL h2.2).1 (LL h2.2).2 hmem hr2 hr1
   ·cases ho
  |alt a b =>
   have ho':=ho;unfold am at ho;simp only[Bool.false_or,Bool.and_eq_true,Bool.not_eq_true']at ho;obtain⟨⟨h1,h2⟩,h3,h4⟩:=ho;refine⟨λh0=>(by rw[h0]at h1;cases h1),λj hj o hoj=>?_⟩
   rw[List.all_eq_true]at h2;have hm:j∈(OT.alt a b).heads:=by simpa[OT.heads]using h2 j hj
   have ht:am vs P ops (.alt a b) true listed=true:=by unfold am;simp[h3,h4]
   obtain⟨oi,t',q1,q2,q3,q4⟩:=I8 ht hm h;rw[hoj]at q1;injection q1 with q1;subst q1
   exact Lx q2 λf K hx=>ih t' _ f K q3 (by omega) hx
 intro fuel
 induction fuel with
 |zero =>
  intro t listed f K ho hd h;cases t with
  |done =>
   have hr:Region.ready .any ops listed=[]:=by simpa[am]using ho
   exact⟨hr,h⟩
  |one i t=>simp[OT.depth]at hd
  |alt a b =>
   exfalso;unfold am at ho;simp only[Bool.false_or,Bool.and_eq_true,Bool.not_eq_true']at ho;obtain⟨⟨h1,h2⟩,h3,h4⟩:=ho;cases hr:Region.ready .any ops listed with
   |nil=>rw[hr]at h1;cases h1
   |cons j js =>
    rw[hr,List.all_eq_true]at h2;have hm:j∈(OT.alt a b).heads:=by simpa[OT.heads]using h2 j (by simp)
    have ht:am vs P ops (.alt a b) true listed=true:=by unfold am;simp[h3,h4]
    obtain⟨oi,t',q1,q2,q3,q4⟩:=I8 ht hm h;omega
 |succ fuel ih=>exact go fuel ih
end Go.Proofs.YtfhnbabcbhgffaaGreatDoor.Am
namespace Go.Proofs.YtfhnbabcbhgffaaGreatDoor.Am
open Go
section
variable{w:World}
end
section
variable{w:World}
mutual
theorem QeR{O O':Nat→Prop}(hO:∀b,O' b→O b):∀(c:AV) {v:Value} {nb:List Nat},(∀b∈nb,¬O' b)→XR w O EN c v nb→XR w O' EN (XQ c) v []
 |.own n rows,v,nb,hn,h=>by
  simp only[XR]at h;simp only[XQ,XR,true_and];have hl:(Vc rows).length=rows.length:=J3 rows
  rcases h with⟨rfl,⟨q,rfl⟩,_⟩|⟨bl,n',cap,rfl,h1,h2,h3,h4⟩
  ·exact⟨q,0,by simp[Vc],by simp[Vc],.inl (by simp[Vc])⟩
  refine⟨_,cap,by rw[hl];exact h1,by omega,.inr ⟨bl,0,rfl,hn bl (by simp),h3.lt,NS hO rows (λb hb=>hn b (by simp[hb])) h4⟩⟩
 |.u,v,nb,hn,h=>by simp[XQ,XR]
 |.b _,v,nb,hn,h=>by simp only[XR]at h;simp[XQ,XR,h.1]
 |.i _ _,v,nb,hn,h=>by simp only[XR]at h;simp[XQ,XR,h.1]
 |.s _,v,nb,hn,h=>by simp only[XR]at h;simp[XQ,XR,h.1]
 |.nil,v,nb,hn,h=>by simp only[XR]at h;simp only[XQ,XR];exact⟨h.1,trivial⟩
 |.z,v,nb,hn,h=>by simp only[XR]at h;simp only[XQ,XR];exact⟨h.1,trivial⟩
 |.imm _ _,v,nb,hn,h=>by
  have:=XR.mono _ (⟨Qg _,λ_ _ _=>rfl,λb hb _ h=>hb (hO b h),Qg _,λ_ _ _ h=>h,λ_ _ _ _ _ _ _ h=>h⟩:Same O EN w O' EN w) v nb (λ_ _=>rfl) h
  simp only[XR]at h;obtain⟨rfl,_⟩:=h;exact this
 |.iptr _ _ _ _,v,nb,hn,h=>by
  have:=XR.mono _ (⟨Qg _,λ_ _ _=>rfl,λb hb _ h=>hb (hO b h),Qg _,λ_ _ _ h=>h,λ_ _ _ _ _ _ _ h=>h⟩:Same O EN w O' EN w) v nb (λ_ _=>rfl) h
  simp only[XR]at h;obtain⟨rfl,_⟩:=h;exact this
 |.sl _,v,nb,hn,h=>by simp only[XR]at h;exact absurd h.2.1 (by simp[EN])
 |.ptr _ _ _,v,nb,hn,h=>by simp only[XR]at h;exact absurd h.2.1 (by simp[EN])
 |.agg _,v,nb,hn,h=>by simp[XQ,XR]
 |.tup _,v,nb,hn,h=>by simp[XQ,XR]
 |.clo _ _,v,nb,hn,h=>by simp[XQ,XR]
theorem gN{O O':Nat→Prop}(hO:∀b,O' b→O b):∀(cs:List AV) {bl o:Nat} {nb:List Nat},(∀b∈nb,¬O' b)→CR w O EN bl o cs nb→CR w O' EN bl o (Xp cs) []
 |[],bl,o,nb,hn,h=>by simp[Xp,CR]
 |c::cs,bl,o,nb,hn,h=>by
  simp only[CR]at h;obtain⟨v,n1,n2,h1,rfl,h3,h4⟩:=h;simp only[Xp,CR];exact⟨v,[],[],h1,rfl,QeR hO c (λb hb=>hn b (by simp[hb])) h3,gN hO cs (λb hb=>hn b (by simp[hb])) h4⟩
theorem NS{O O':Nat→Prop}(hO:∀b,O' b→O b):∀(rs:List (List AV)) {m bl off:Nat} {nb:List Nat},(∀b∈nb,¬O' b)→RR w O EN m bl off rs nb→RR w O' EN m bl off (Vc rs) []
 |[],m,bl,off,nb,hn,h=>by simp[Vc,RR]
 |r::rs,m,bl,off,nb,hn,h=>by
  simp only[RR]at h;obtain⟨n1,n2,rfl,h2,h3,h4⟩:=h;simp only[Vc,RR];exact⟨[],[],rfl,by rw[IL];exact h2,gN hO r (λb hb=>hn b (by simp[hb])) h3,NS hO rs (λb hb=>hn b (by simp[hb])) h4⟩
end
end
section
variable{P:Program}{n:NE}{Y:Nat→Prop}{w0:World}{F0:Nat→Prop}{ρ:Dl}{f:Fr}{K:KS}{a:Act}{w:World}
def Sim.freeze[Wd](hS:Sim n Y w0 F0 ρ f K a w){s j m:Nat}{rows:List (List AV)}(hs:f s=.sl j)(hj:kg K j=some (.lst m rows)) :
  Sim n Y w0 F0 ρ (up f s (.imm m (Vc rows))) (K.set j none) a w:=by
 have hlt:j<K.length:=by
  rcases Nat.lt_or_ge j K.length with h|h
  ·exact h
  ·unfold kg at hj;rw[List.getD_eq_getElem?_getD,List.getElem?_eq_none h]at hj;cases hj
 have hk:∀i e,kg (K.set j none) i=some e→i≠j∧kg K i=some e:=λi e h=>by
  rw[Zu _ _ _ _ hlt]at h;by_cases hi:i=j
  ·rw[if_pos hi]at h;cases h
  ·rw[if_neg hi]at h;exact⟨hi,h⟩
 have h1:=hS.drop (K1:=K.set j none) (by simp) (λi e h=>(hk i e h).2)
 refine⟨h1.defers,h1.size,h1.keep,λt=>?_,h1.sees,h1.ext,h1.new,h1.yl⟩
 unfold up;by_cases ht:t=s
 ·rw[if_pos ht]
  subst ht;have hx:=hS.fr t;rw[hs]at hx;simp only[XR]at hx ⊢;obtain⟨_,_,hn,hsm⟩:=hx;have he:(EK K ρ).of j=some ((ρ j).1,m,rows.length):=by simp[EK,hj,QE.n,QE.rows]
  have hr:=hS.sees.reg j _ hj;refine⟨trivial,?_⟩;cases hb:(ρ j).1 with
  |none =>
   rw[hb]at he hr;obtain⟨ad,hv⟩:=hn _ _ he;have h0:=hr.1;simp only[QE.rows]at h0;subst h0;exact⟨ad,0,by simpa[Vc]using hv,by simp[Vc],.inl (by simp[Vc])⟩
  |some bl =>
   rw[hb]at he hr;obtain⟨cap,hv,hc,_⟩:=hsm _ _ _ he;have hbl:bl∈fp ρ j:=ED hb;have hno:∀b∈fp ρ j,¬OO (K.set j none) ρ Y b:=by
    rintro b hb' (h|⟨i,e,hi,h⟩)
    ·have:=hS.yl.1 b h
     rcases hS.new j _ b hj hb' with h'|h'
     ·exact this.2 h'
     ·omega
    ·obtain⟨hne,hi⟩:=hk i e hi
     exact hS.sees.dj j _ i _ b hj hi (λh=>hne h.symm) hb' h
   have hOO:∀b,OO (K.set j none) ρ Y b→OO K ρ Y b:=by
    rintro b (h|⟨i,e,hi,h⟩)
    ·exact .inl h
    ·exact .inr ⟨i,e,(hk i e hi).2,h⟩
   refine⟨_,cap,by rw[J3];exact hv,by rw[J3];exact hc,.inr ⟨bl,0,rfl,hno bl hbl,hS.sees.lt j _ bl hj hbl,NS hOO rows (λb hb'=>hno b (FO hb')) hr.2.1⟩⟩
 ·rw[if_neg ht];exact h1.fr t
end
end Go.Proofs.YtfhnbabcbhgffaaGreatDoor.Am
namespace Go.Proofs.YtfhnbabcbhgffaaGreatDoor.Am
open Go
def clc:AV→Bool
 |.b _|.i _ _|.s _|.nil|.imm _ _=>true
 |_=>false
def dy:List AV→Bool
 |[]=>true
 |c::cs=>clc c&&dy cs
def pe:Option QE→Bool
 |some (.lst _ _)=>true
 |some (.box cs)=>dy cs
 |none=>false
def HR:List Nat→Nat→Nat→Nat
 |[],k,i=>k+i
 |j::_,_,0=>j
 |_::js,k,i+1=>HR js k i
mutual
def EZ(js:List Nat)(k:Nat):AV→AV
 |.sl i=>.sl (HR js k i)
 |.ptr i a b=>.ptr (HR js k i) a b
 |.agg cs=>.agg (Lh js k cs)
 |.tup cs=>.tup (Lh js k cs)
 |c=>c
def Lh(js:List Nat)(k:Nat):List AV→List AV
 |[]=>[]
 |c::cs=>EZ js k c::Lh js k cs
end
mutual
def TN(m:Nat):AV→Bool
 |.b _|.i _ _|.s _|.nil|.imm _ _=>true
 |.sl i=>Nat.blt i m
 |.ptr i _ _=>Nat.blt i m
 |.agg cs=>aj m cs
 |.tup cs=>aj m cs
 |_=>false
def aj(m:Nat):List AV→Bool
 |[]=>true
 |c::cs=>TN m c&&aj m cs
end
def pQ{w:World}{O O':Nat→Prop}{E E':EI}(hO:∀b,O' b→O b):∀{c:AV} {v:Value} {nb:List Nat},clc c=true→XR w O E c v nb→XR w O' E' c v nb:=by
 intro c v nb hc h;cases c with
 |b _=>simpa only[XR]using h
 |i _ _=>simpa only[XR]using h
 |s _=>simpa only[XR]using h
 |nil=>simpa only[XR]using h
 |imm m rows =>
  simp only[XR]at h ⊢;obtain⟨h0,a,cap,h1,h2,h3⟩:=h;refine⟨h0,a,cap,h1,h2,?_⟩
  rcases h3 with h3|⟨bl,off,h3,h4,hl,h5⟩
  ·exact .inl h3
  ·exact .inr ⟨bl,off,h3,λh=>h4 (hO bl h),hl,RR.mono rows (⟨Qg _,λ_ _ _=>rfl,λb hb _ h=>hb (hO b h),Qg _,λ_ _ _ h=>h,λ_ _ _ _ _ _ _ h=>h⟩:Same O EN w O' EN w) bl off [] rfl (by simp) h5⟩
 |_=>cases hc
def uz{w:World}{O O':Nat→Prop}{E E':EI}(hO:∀b,O' b→O b):∀{cs:List AV} {bl o:Nat} {nb:List Nat},dy cs=true→CR w O E bl o cs nb→CR w O' E' bl o cs nb
 |[],_,_,_,_,h=>by simpa only[CR]using h
 |c::cs,bl,o,nb,hc,h=>by
  simp only[dy,Bool.and_eq_true]at hc;simp only[CR]at h ⊢;obtain⟨v,n1,n2,h1,h2,h3,h4⟩:=h;exact⟨v,n1,n2,h1,h2,pQ hO hc.1 h3,uz hO hc.2 h4⟩
def ly{w:World}{O O':Nat→Prop}{E E':EI}(hO:∀b,O' b→O b){e:QE}{b:Option Nat}{nb:List Nat}(hc:pe (some e)=true)(h:Reg w O E e b nb):Reg w O' E' e b nb:=by
 cases e with
 |lst m rows =>
  exact Reg.mono (E:=E) (E':=E') (w:=w) (w':=w) (⟨Qg _,λ_ _ _=>rfl,λb hb _ h=>hb (hO b h),Qg _,λ_ _ _ h=>h,λ_ _ _ _ _ _ _ h=>h⟩:Same O EN w O' EN w) (λ_ _=>rfl) (λ_ _=>rfl) h
 |box cs =>
  cases b with
  |none=>exact h
  |some b =>
   obtain⟨h1,h2,h3⟩:=h;refine⟨h1,?_,h3⟩;simp only[QE.rows,QE.E,RR]at h2 ⊢;obtain⟨n1,n2,q1,q2,q3,q4⟩:=h2;exact⟨n1,n2,q1,q2,uz hO hc q3,q4⟩
def pO:∀{js:List Nat} {k i j:Nat},js[i]?=some j→HR js k i=j
 |[],_,_,_,h=>by simp at h
 |x::js,k,0,j,h=>by simpa[HR]using h
 |x::js,k,i+1,j,h=>by
  simp only[HR];exact pO (by simpa using h)
def tm:∀{js:List Nat} {k i:Nat},js.length≤i→HR js k i=k+(i-js.length)
 |[],k,i,_=>by simp[HR]
 |x::js,k,0,h=>by simp at h
 |x::js,k,i+1,h=>by
  simp only[HR];rw[tm (by simpa using h)]
  simp
mutual
theorem ko{w:World}{O O':Nat→Prop}{E E':EI}{js:List Nat}{k m:Nat}(hO:∀b,O' b→O b)(hE:∀i,i<m→HR js k i<E'.sz∧E'.of (HR js k i)=E.of i) :
  ∀(c:AV) {v:Value},TN m c=true→XR w O E c v []→XR w O' E' (EZ js k c) v []
 |.b _,v,_,h=>by simpa only[EZ,XR]using h
 |.i _ _,v,_,h=>by simpa only[EZ,XR]using h
 |.s _,v,_,h=>by simpa only[EZ,XR]using h
 |.nil,v,_,h=>by simpa only[EZ,XR]using h
 |.z,v,_,h=>by simpa only[EZ,XR]using h
 |.imm n rows,v,_,h=>by simp only[EZ];exact pQ hO rfl h
 |.sl i,v,hr,h=>by
  obtain⟨q1,q2⟩:=hE i (by simpa[TN,Nat.blt_eq]using hr)
  simp only[EZ,XR]at h ⊢;rw[q2];exact⟨trivial,q1,h.2.2⟩
 |.ptr i a b,v,hr,h=>by
  obtain⟨q1,q2⟩:=hE i (by simpa[TN,Nat.blt_eq]using hr)
  simp only[EZ,XR]at h ⊢;rw[q2];exact⟨trivial,q1,h.2.2⟩
 |.agg cs,v,hr,h=>by
  simp only[EZ,XR]at h ⊢;obtain⟨vs,h1,h2⟩:=h;exact⟨vs,h1,Yb hO hE cs (by simpa only[TN]using hr) h2⟩
 |.tup cs,v,hr,h=>by
  simp only[EZ,XR]at h ⊢;obtain⟨vs,h1,h2⟩:=h;exact⟨vs,h1,Yb hO hE cs (by simpa only[TN]using hr) h2⟩
 |.u,_,hr,_=>by cases hr
 |.own _ _,_,hr,_=>by cases hr
 |.iptr _ _ _ _,_,hr,_=>by cases hr
 |.clo _ _,_,hr,_=>by cases hr
theorem Yb{w:World}{O O':Nat→Prop}{E E':EI}{js:List Nat}{k m:Nat}(hO:∀b,O' b→O b)(hE:∀i,i<m→HR js k i<E'.sz∧E'.of (HR js k i)=E.of i) :
  ∀(cs:List AV) {vs:List Value},aj m cs=true→XRs w O E cs vs []→XRs w O' E' (Lh js k cs) vs []
 |[],vs,_,h=>by simpa only[Lh,XRs]using h
 |c::cs,vs,hr,h=>by
  simp only[aj,Bool.and_eq_true]at hr;simp only[Lh,XRs]at h ⊢;obtain⟨v,vs',n1,n2,h1,h2,h3,h4⟩:=h;obtain⟨rfl,rfl⟩:=List.append_eq_nil_iff.1 h2.symm;exact⟨v,vs',[],[],h1,rfl,ko hO hE c hr.1 h3,Yb hO hE cs hr.2 h4⟩
end
section
variable{P:Program}{n:NE}{Y:Nat→Prop}{w0:World}{F0:Nat→Prop}{ρ:Dl}{f:Fr}{K:KS}{a:Act}{w:World}
def OI:List Nat→KS→KS
 |[],es=>es
 |_::js,_::es=>OI js es
 |_,[]=>[]
def Rg:∀(js:List Nat) (es:KS),OI js es=es.drop js.length
 |[],es=>by simp[OI]
 |_::js,[]=>by simp[OI]
 |_::js,_::es=>by simp[OI,Rg js es]
def HP(K:KS)(js:List Nat)(es:KS):KS:=Bs K js es++OI js es
def Sim.callB[Wd](hS:Sim n Y w0 F0 ρ f K a w){js:List Nat}(hnd:js.Nodup)(hls:∀j∈js,pe (kg K j)=true){g:FuncId}{cs cs':List AV}{xs:List Value}{r:AV}{es:KS}
  (hA:AC P g (Z4 K js) cs' (λv K'=>(v=r∧K'.take es.length=es)∧TN es.length r=true∧(∀e∈es,pe e=true)∧js.length≤es.length)) (hsub:Gy js cs=some cs') (hx:XRs w (OO K ρ Y) (EK K ρ) cs xs []) :
  (callFunc g xs.toArray).run P w=.ok (.enter g xs.toArray) w∧Calls P g xs.toArray w λe w'=>∃v ρ',e=.returned v∧XR w' (OO (HP K js es) ρ' Y) (EK (HP K js es) ρ') (EZ js K.length r) v []∧Sim n Y w0 F0 ρ' f (HP K js es) a w' ∧
   Ext (λb=>∃j e,j∈js∧kg K j=some e∧b∈fp ρ j) w w':=by
 have hltK:∀j∈js,j<K.length:=λj hj=>by
  have:=hls j hj;cases hk:kg K j with
  |none=>rw[hk]at this;cases this
  |some e=>exact Gr hk
 have hF:∀b,(∃i e,kg (Z4 K js) i=some e∧b∈fp (GU ρ js) i)↔∃j e,j∈js∧kg K j=some e∧b∈fp ρ j:=λb=>by
  constructor
  ·rintro⟨i,e,h1,h2⟩
   obtain⟨j,q1,_,q2⟩:=J6 h1;exact⟨j,e,List.mem_of_getElem? q1,q2,by rw[←Ah q1];exact h2⟩
  ·rintro⟨j,e,h0,h1,h2⟩
   obtain⟨i,hi⟩:=AN h0;have:=Ez hi;exact⟨i,e,by rw[HD this];exact h1,by rw[Ah this];exact h2⟩
 have hF0:∀x,x<w0.heap.size→(∃i e,kg (Z4 K js) i=some e∧x∈fp (GU ρ js) i)→F0 x:=λx hx h=>by
  obtain⟨j,e,_,q1,q2⟩:=(hF x).1 h
  rcases hS.new j e x q1 q2 with q|q
  ·exact q
  ·omega
 have hSees:Sees w (OO (Z4 K js) (GU ρ js) (O5 K ρ js Y)) (Z4 K js) (GU ρ js):=by
  refine⟨λi e hi=>?_,λi e hi=>?_,λi e b hi hb=>?_,λi e k e' b hi hk hik hb hb'=>?_⟩
  ·obtain⟨j,q1,_,q2⟩:=J6 hi
   have hreg:=hS.sees.reg j e q2;have hl:=hls j (List.mem_of_getElem? q1);rw[q2]at hl;rw[I7 q1];exact ly (λb=>(YR b).1) hl hreg
  ·obtain⟨j,q1,_,q2⟩:=J6 hi
   rw[Ah q1];exact hS.sees.nd j e q2
  ·obtain⟨j,q1,_,q2⟩:=J6 hi
   rw[Ah q1]at hb;exact hS.sees.lt j e b q2 hb
  ·obtain⟨j,q1,_,q2⟩:=J6 hi
   obtain⟨j',p1,_,p2⟩:=J6 hk;rw[Ah q1]at hb;rw[Ah p1]at hb';refine hS.sees.dj j e j' e' b q2 p2 (λh=>?_) hb hb'
   subst h;have h1:=I9 hnd q1;rw[I9 hnd p1]at h1;injection h1 with h1
   exact hik h1.symm
 refine⟨hA.1 _ _,(hA.2 w (GU ρ js) (O5 K ρ js Y) xs (λw1 h1=>hS.yl.2 w1 (hS.ext.trans h1 (λ_ h=>h) hF0)) (λb hb=>?_) hSees (MN cs hsub hx)).mono
  λe w' ⟨v,r',K',ρ2,h1,⟨⟨h2,h2'⟩,hr,hes,hlen⟩,h3,h4,h5,h6,h7,h8⟩=>?_⟩
 ·rcases hb with hb|⟨j,e,q1,q2,q3⟩
  ·obtain⟨q1,q2⟩:=hS.yl.1 b hb
   refine⟨Nat.lt_of_lt_of_le q1 hS.ext.size,λi e hi hbi=>?_⟩
   obtain⟨j,p1,_,p2⟩:=J6 hi;rw[Ah p1]at hbi
   rcases hS.new j e b p2 hbi with q|q
   ·exact q2 q
   ·omega
  ·refine⟨hS.sees.lt j e b q1 q3,λi e' hi hbi=>?_⟩
   obtain⟨j',p1,_,p2⟩:=J6 hi;rw[Ah p1]at hbi;exact hS.sees.dj j e j' e' b q1 p2 (λh=>by subst h;exact q2 (List.mem_of_getElem? p1)) q3 hbi
 subst h2;have hil:∀{j i:Nat},Fb js j=some i→i<js.length:=λ{j i} h=>by
  have:=Ez h
  rcases Nat.lt_or_ge i js.length with h'|h'
  ·exact h'
  ·rw[List.getElem?_eq_none h']at this;cases this
 have hkes:∀{i:Nat},i<es.length→kg es i=kg K' i:=λ{i} hi=>by
  have h0:kg (K'.take es.length) i=kg K' i:=by
   unfold kg;rw[List.getD_eq_getElem?_getD,List.getD_eq_getElem?_getD,List.getElem?_take,if_pos hi]
  rw[h2']at h0;exact h0
 have hcl:∀{i e},kg es i=some e→i<es.length∧pe (some e)=true:=λ{i e} hi=>by
  have hlt:=Gr hi;refine⟨hlt,?_⟩;refine hes _ ?_;unfold kg at hi;rw[List.getD_eq_getElem?_getD,List.getElem?_eq_getElem hlt]at hi;simp only[Option.getD_some]at hi;rw[←hi];exact List.getElem_mem _
 let φ:Nat→Option Nat:=λj=>if j<K.length then Fb js j else some (js.length+(j-K.length))
 let ρ':Dl:=λj=>match φ j with|some i=>ρ2 i|none=>ρ j
 have hφn:∀{j},φ j=none→j<K.length∧j∉js:=λ{j} h=>by
  simp only[φ]at h
  split at h
  ·rename_i hj
   refine⟨hj,λhm=>?_⟩
   obtain⟨i,hi⟩:=AN hm;rw[hi]at h;cases h
  ·cases h
 have hφj:∀{j i},φ j=some i→j∈js∨K.length≤j:=λ{j i} h=>by
  simp only[φ]at h
  split at h
  ·exact .inl (List.mem_of_getElem? (Ez h))
  ·exact .inr (by omega)
 have hφo:∀{j},j<K.length→j∉js→φ j=none:=λ{j} h1 h2=>by simp only[φ,if_pos h1,Li h2]
 have hφi:∀{j k i},φ j=some i→φ k=some i→j=k:=λ{j k i} h1 h2=>by
  simp only[φ]at h1 h2
  split at h1<;>split at h2
  ·exact hU h1 h2
  ·have:=hil h1;injection h2 with h2;omega
  ·have:=hil h2;injection h1 with h1;omega
  ·injection h1 with h1;injection h2 with h2;omega
 have hρn:∀{j},φ j=none→ρ' j=ρ j:=λ{j} hj=>by simp only[ρ',hj]
 have hρi:∀{j i},φ j=some i→ρ' j=ρ2 i:=λ{j i} h=>by simp only[ρ',h]
 have hKl:(HP K js es).length=K.length+(es.length-js.length):=by simp[HP,Rg,ZM]
 have hkn:∀j,kg (HP K js es) j=match φ j with|some i=>kg es i|none=>kg K j:=λj=>by
  simp only[HP,Rg,φ];rw[KI,ZM]
  split
  ·exact UG js es K j hnd hltK hlen
  ·unfold kg;simp[List.getD_eq_getElem?_getD]
 have hki':∀{j i},φ j=some i→kg (HP K js es) j=kg es i:=λ{j i} h=>by rw[hkn,h]
 have hki:∀{j i e},φ j=some i→kg (HP K js es) j=some e→kg K' i=some e∧pe (some e)=true:=λ{j i e} h hj=>by
  rw[hki' h]at hj;obtain⟨q1,q2⟩:=hcl hj;exact⟨by rw[←hkes q1];exact hj,q2⟩
 have hko:∀{j},φ j=none→kg (HP K js es) j=kg K j:=λ{j} h=>by rw[hkn,h]
 have hshape:∀{j i e'},j<K.length→φ j=some i→kg K' i=some e'→∃e,kg K j=some e∧(ρ2 i).1=(ρ j).1∧e'.n=e.n∧e'.rows.length=e.rows.length:=λ{j i e'} hj h hk=>by
  simp only[φ,if_pos hj]at h;have hi:=Ez h;obtain⟨e,q1,q2,q3⟩:=h8 i e' (by simp only[Z4,List.length_map];exact hil h) hk
  rw[HD hi]at q1;rw[I7 hi]at q2;exact⟨e,q1,q2,q3⟩
 have hOs:∀b,OO (HP K js es) ρ' Y b→OO K' ρ2 (O5 K ρ js Y) b:=by
  rintro b (h|⟨j,e,q1,q2⟩)
  ·exact .inl (.inl h)
  ·cases hj:φ j with
   |some i =>
    obtain⟨q3,_⟩:=hki hj q1;exact .inr ⟨i,e,q3,by unfold fp at q2 ⊢;rw[hρi hj]at q2;exact q2⟩
   |none =>
    rw[hko hj]at q1;exact .inl (.inr ⟨j,e,q1,(hφn hj).2,by unfold fp at q2 ⊢;rw[hρn hj]at q2;exact q2⟩)
 have hOn:∀b,b<w.heap.size→OO K' ρ2 (O5 K ρ js Y) b→OO K ρ Y b:=by
  rintro b hb ((h|⟨j,e,q1,_,q2⟩)|⟨i,e,q1,q2⟩)
  ·exact .inl h
  ·exact .inr ⟨j,e,q1,q2⟩
  ·rcases h7 i e b q1 q2 with q|q
   ·obtain⟨j,e',_,q3,q4⟩:=(hF b).1 q
    exact .inr ⟨j,e',q3,q4⟩
   ·omega
 have hE6:Ext (λb=>∃j e,j∈js∧kg K j=some e∧b∈fp ρ j) w w':=⟨h6.os,h6.tape,h6.output,h6.size,λb hb hn=>h6.block b hb (λh=>hn ((hF b).1 h)),h6.who⟩
 have hsame:Same (OO K ρ Y) (EK K ρ) w (OO (HP K js es) ρ' Y) (EK (HP K js es) ρ') w':=by
  refine⟨h6.size,λb hb hlt=>hE6.block b hlt (λ⟨j,e,_,q1,q2⟩=>hb (.inr ⟨j,e,q1,q2⟩)),λb hb hlt hb'=>hb (hOn b hlt (hOs b hb')),by simp only[EK,hKl];omega,λj p hj hp=>?_,λ_ _ _ _ _ _ _ hw=>h6.who _ _ hw⟩
  simp only[EK]at hj hp ⊢;cases hjs:φ j with
  |some i =>
   cases hk:kg (HP K js es) j with
   |none=>rw[hk]at hp;cases hp
   |some e' =>
    rw[hk]at hp;obtain⟨e0,q1,q2,q3,q4⟩:=hshape hj hjs (hki hjs hk).1;simp only[Option.map_some]at hp;rw[q1,Option.map_some,←hp,hρi hjs,q2,q3,q4]
  |none =>
   rw[hko hjs]at hp;rw[←hp,hρn hjs]
 have hS':Sim n Y w0 F0 ρ' f (HP K js es) a w':=by
  refine⟨hS.defers,hS.size,hsame.keep hS.keep,λt=>XR.mono (f t) hsame _ _ (by simp) (hS.fr t),⟨λj e hj=>?_,λj e hj=>?_,λj e b hj hb=>?_,?_⟩,hS.ext.trans h6 (λ_ h=>h) hF0,λj e b hj hb=>?_,hS.yl⟩
  ·cases hjs:φ j with
   |some i =>
    obtain⟨q1,q2⟩:=hki hjs hj;rw[hρi hjs];exact ly hOs q2 (h5.reg i e q1)
   |none =>
    rw[hko hjs]at hj;have hreg:=hS.sees.reg j e hj;rw[hρn hjs];have hb:∀b∈fp ρ j,w'.heap[b]?=w.heap[b]?:=λb hb=>hE6.block b (hS.sees.lt j e b hj hb) (λ⟨k,e',q0,q1,q2⟩=>hS.sees.dj j e k e' b hj q1 (λh=>by subst h;exact(hφn hjs).2 q0) hb q2)
    have hE:Same (OO K ρ Y) (e.E (EK K ρ)) w (OO (HP K js es) ρ' Y) (e.E (EK (HP K js es) ρ')) w':=by
     cases e with
     |box cs=>exact hsame
     |lst n rows=>exact hsame.en
    exact Reg.mono hE (λb h=>hb b (ED h)) (λb h=>hb b (FO h)) hreg
  ·cases hjs:φ j with
   |some i =>
    have:=h5.nd i e (hki hjs hj).1;unfold fp at this ⊢;rw[hρi hjs];exact this
   |none =>
    rw[hko hjs]at hj;have:=hS.sees.nd j e hj;unfold fp at this ⊢;rw[hρn hjs];exact this
  ·cases hjs:φ j with
   |some i =>
    unfold fp at hb;rw[hρi hjs]at hb;exact h5.lt i e b (hki hjs hj).1 hb
   |none =>
    rw[hko hjs]at hj;unfold fp at hb;rw[hρn hjs]at hb;exact Nat.lt_of_lt_of_le (hS.sees.lt j e b hj hb) h6.size
  ·have key:∀{j k e e' b i},φ j=some i→φ k=none→kg (HP K js es) j=some e→kg (HP K js es) k=some e'→b∈fp ρ' j→b∉fp ρ' k:=by
    intro j k e e' b i hj hk h1 h2 hb hb';rw[hko hk]at h2;unfold fp at hb hb';rw[hρi hj]at hb;rw[hρn hk]at hb'
    rcases h7 i e b (hki hj h1).1 hb with q|q
    ·obtain⟨j',e1,q0,q1,q2⟩:=(hF b).1 q
     exact hS.sees.dj j' e1 k e' b q1 h2 (λh=>by subst h;exact(hφn hk).2 q0) q2 hb'
    ·have:=hS.sees.lt k e' b h2 hb'
     omega
   intro j e k e' b hj hk hjk hb hb';cases hjs:φ j with
   |some i =>
    cases hks:φ k with
    |some i' =>
     have q1:=(hki hjs hj).1;have q2:=(hki hks hk).1;unfold fp at hb hb';rw[hρi hjs]at hb;rw[hρi hks]at hb';exact h5.dj i e i' e' b q1 q2 (λh=>by subst h;exact hjk (hφi hjs hks)) hb hb'
    |none=>exact key hjs hks hj hk hb hb'
   |none =>
    cases hks:φ k with
    |some i=>exact key hks hjs hk hj hb' hb
    |none =>
     rw[hko hjs]at hj;rw[hko hks]at hk;unfold fp at hb hb';rw[hρn hjs]at hb;rw[hρn hks]at hb';exact hS.sees.dj j e k e' b hj hk hjk hb hb'
  ·cases hjs:φ j with
   |some i =>
    unfold fp at hb;rw[hρi hjs]at hb
    rcases h7 i e b (hki hjs hj).1 hb with q|q
    ·obtain⟨j',e1,_,q1,q2⟩:=(hF b).1 q
     exact hS.new j' e1 b q1 q2
    ·exact .inr (Nat.le_trans hS.ext.size q)
   |none =>
    rw[hko hjs]at hj;unfold fp at hb;rw[hρn hjs]at hb;exact hS.new j e b hj hb
 have hφr:∀i,i<es.length→φ (HR js K.length i)=some i∧HR js K.length i<(HP K js es).length:=λi hi=>by
  rcases Nat.lt_or_ge i js.length with h|h
  ·have hj:js[i]?=some js[i]:=List.getElem?_eq_getElem h
   have hm:=hltK _ (List.getElem_mem h);rw[pO hj];exact⟨by simp only[φ,if_pos hm];exact I9 hnd hj,by rw[hKl];omega⟩
  ·rw[tm h]
   refine⟨?_,by rw[hKl];omega⟩
   simp only[φ];rw[if_neg (by omega)]
   congr 1;omega
 refine⟨v,ρ',h1,ko hOs (λi hi=>?_) r' hr h4,hS',hE6⟩
 obtain⟨q1,q2⟩:=hφr i hi;refine⟨q2,?_⟩;simp only[EK,hki' q1,hρi q1,hkes hi]
def AC.subB[Wd]{g:FuncId}{js:List Nat}(hnd:js.Nodup)(hls:∀j∈js,pe (kg K j)=true){cs cs':List AV}{r:AV}{es:KS}
  (hA:AC P g (Z4 K js) cs' (λv K'=>(v=r∧K'.take es.length=es)∧TN es.length r=true∧(∀e∈es,pe e=true)∧js.length≤es.length)) (hsub:Gy js cs=some cs'):AC P g K cs (λv K'=>v=EZ js K.length r∧K'=HP K js es):=by
 refine⟨hA.1,λw ρ Y vs hI hY hSe hX=>?_⟩
 let F1:Nat→Prop:=λb=>∃j e,kg K j=some e∧b∈fp ρ j
 have hS:Sim ⟨vs.length,EK K ρ⟩ Y w F1 ρ (Jy cs) K { tmps:=vs.toArray++Array.replicate (vs.length-vs.toArray.size) undef,defers:=[] } w :=
  Sim.init (by rw[XP hX];exact Qg _) hX ⟨Qg _,λ_ _ _ h=>h⟩ hSe (λj e b hj hb=>.inl ⟨j,e,hj,hb⟩) ⟨λb hb=>⟨(hY b hb).1,λ⟨j,e,hj,hb'⟩=>(hY b hb).2 j e hj hb'⟩,hI⟩
 obtain⟨_,q2⟩:=hS.callB (P:=P) hnd hls hA hsub hX;refine q2.mono λe w' ⟨v,ρ',h1,h2,hS',h4⟩=>⟨v,_,_,ρ',h1,⟨rfl,rfl⟩,by simp only[HP,Rg,List.length_append,ZM];omega,h2,hS'.sees,hS'.ext,hS'.new,λi e' hi hi'=>?_⟩
 have h3:=hS'.keep.2 i ((ρ' i).1,e'.n,e'.rows.length) hi (by simp[EK,hi'])
 simp only[EK]at h3;obtain⟨e,h4,h5⟩:=Option.map_eq_some_iff.1 h3;injection h5 with h5 h6;injection h6 with h6 h7
 exact⟨e,h4,h5.symm,h6.symm,h7.symm⟩
end
end Go.Proofs.YtfhnbabcbhgffaaGreatDoor.Am
namespace Go.Proofs.YtfhnbabcbhgffaaGreatDoor.Am
open Go
section
variable{w:World}
def jf{O:Nat→Prop}{E:EI}{bl:Nat}{c:AV}:∀{cs:List AV} {o k:Nat} {nb:List Nat},cs[k]?=some c→CR w O E bl o cs nb→∃v n,w.cell? ⟨bl,o+k,none⟩=some v∧XR w O E c v n
 |[],o,k,nb,hk,h=>by simp at hk
 |x::cs,o,0,nb,hk,h=>by
  simp only[CR]at h;obtain⟨v,n1,n2,h1,_,h3,_⟩:=h;simp at hk;subst hk;exact⟨v,n1,h1.1,h3⟩
 |x::cs,o,k+1,nb,hk,h=>by
  simp only[CR]at h;obtain⟨v,n1,n2,_,_,_,h4⟩:=h;obtain⟨v,n,g1,g2⟩:=jf (k:=k) (by simpa using hk) h4
  exact⟨v,n,by rw[show o+(k+1)=o+1+k by omega];exact g1,g2⟩
def d6{O:Nat→Prop}{E:EI}{bl:Nat}{c d:AV}:∀{cs:List AV} {o k:Nat} {nb:List Nat},cs[k]?=some c→(∀v n,XR w O E c v n→n=[])→(∀v,w.cell? ⟨bl,o+k,none⟩=some v→XR w O E d v [])→CR w O E bl o cs nb→CR w O E bl o (cs.set k d) nb
 |[],o,k,nb,hk,_,_,h=>by simp at hk
 |x::cs,o,0,nb,hk,hc,hd,h=>by
  simp only[CR,List.set_cons_zero]at h ⊢;obtain⟨v,n1,n2,h1,h2,h3,h4⟩:=h;simp at hk;subst hk;have:=hc v n1 h3;subst this;exact⟨v,[],n2,h1,h2,hd v h1.1,h4⟩
 |x::cs,o,k+1,nb,hk,hc,hd,h=>by
  simp only[CR,List.set_cons_succ]at h ⊢;obtain⟨v,n1,n2,h1,h2,h3,h4⟩:=h;exact⟨v,n1,n2,h1,h2,h3,d6 (k:=k) (by simpa using hk) hc (λv hv=>hd v (by rw[show o+(k+1)=o+1+k by omega];exact hv)) h4⟩
end
section
variable{P:Program}{n:NE}{Y:Nat→Prop}{w0:World}{F0:Nat→Prop}{ρ:Dl}{f:Fr}{K:KS}{a:Act}{w:World}
def Sim.freezeC[Wd](hS:Sim n Y w0 F0 ρ f K a w){jb o j m:Nat}{cs:List AV}{rows:List (List AV)}(hb:kg K jb=some (.box cs))(hc:cs[o]?=some (.sl j))(hj:kg K j=some (.lst m rows)) :
  Sim n Y w0 F0 ρ f ((K.set j none).set jb (some (.box (cs.set o (.imm m (Vc rows)))))) a w:=by
 have hne:jb≠j:=by rintro rfl;rw[hb]at hj;cases hj
 have hlt:=Gr hj;have hltb:=Gr hb;have hk1:∀i,kg (K.set j none) i=if i=j then none else kg K i:=λi=>Zu _ _ _ _ hlt
 have hk:∀i e,kg (K.set j none) i=some e→i≠j∧kg K i=some e:=λi e h=>by
  rw[hk1]at h;by_cases hi:i=j
  ·rw[if_pos hi]at h;cases h
  ·rw[if_neg hi]at h;exact⟨hi,h⟩
 have hb1:kg (K.set j none) jb=some (.box cs):=by rw[hk1,if_neg hne];exact hb
 have h1:=hS.drop (K1:=K.set j none) (by simp) (λi e h=>(hk i e h).2)
 generalize hcs:cs.set o (.imm m (Vc rows))=cs';have hlen:cs'.length=cs.length:=by rw[←hcs];simp
 have hk2:∀i,kg ((K.set j none).set jb (some (.box cs'))) i=if i=jb then some (.box cs')else kg (K.set j none) i:=λi=>Zu _ _ _ _ (by simpa using hltb)
 have hOO:OO ((K.set j none).set jb (some (.box cs'))) ρ Y=OO (K.set j none) ρ Y:=by
  funext b;apply propext;constructor
  ·rintro(h|⟨i,e,hi,h⟩)
   ·exact .inl h
   ·rw[hk2]at hi
    by_cases hij:i=jb
    ·subst hij;exact .inr ⟨i,_,hb1,h⟩
    ·rw[if_neg hij]at hi;exact .inr ⟨i,e,hi,h⟩
  ·rintro(h|⟨i,e,hi,h⟩)
   ·exact .inl h
   ·by_cases hij:i=jb
    ·subst hij;exact .inr ⟨i,.box cs',by rw[hk2,if_pos rfl],h⟩
    ·exact .inr ⟨i,e,by rw[hk2,if_neg hij];exact hi,h⟩
 have hEK:EK ((K.set j none).set jb (some (.box cs'))) ρ=EK (K.set j none) ρ:=by
  unfold EK;congr 1
  ·simp
  ·funext i
   rw[hk2];by_cases hij:i=jb
   ·subst hij;rw[if_pos rfl,hb1];simp[QE.n,QE.rows,hlen]
   ·rw[if_neg hij]
 have hsame:Same (OO (K.set j none) ρ Y) (EK (K.set j none) ρ) w (OO ((K.set j none).set jb (some (.box cs'))) ρ Y) (EK ((K.set j none).set jb (some (.box cs'))) ρ) w:=by
  rw[hOO,hEK];exact⟨Qg _,λ_ _ _=>rfl,λ_ h _=>h,Qg _,λ_ _ _ h=>h,λ_ _ _ _ _ _ _ h=>h⟩
 refine h1.lift hsame jb (λi e hi hij=>⟨by rw[hk2,if_neg hij]at hi;exact hi,rfl,λ_ _=>rfl⟩) (λe he=>?_) hS.ext
 rw[hk2,if_pos rfl]at he;injection he with he
 subst he;refine⟨?_,h1.sees.nd jb _ hb1,λb hb'=>⟨h1.sees.lt jb _ b hb1 hb',.inr ⟨jb,_,hb1,hb',.inl rfl⟩⟩⟩
 rw[hOO,hEK];have hr:=h1.sees.reg jb _ hb1;have hr0:=hS.sees.reg jb _ hb;unfold Reg at hr hr0 ⊢;cases hρ:(ρ jb).1 with
 |none=>rw[hρ]at hr;simp[QE.rows]at hr
 |some b =>
  rw[hρ]at hr hr0;obtain⟨r1,r2,r3⟩:=hr;have r20:=hr0.2.1;simp only[QE.rows,QE.n,QE.E,RR,List.length_singleton,Nat.one_mul,hlen]at r1 r2 r20 ⊢;obtain⟨n1,n2,e1,_,c1,e2⟩:=r2;obtain⟨m1,m2,_,_,d1,_⟩:=r20;refine⟨r1,⟨n1,n2,e1,trivial,?_,e2⟩,λ_=>r3 rfl⟩
  rw[←hcs];refine d6 hc (λv n h=>by simp only[XR]at h;exact h.1) (λv hv=>?_) c1
  obtain⟨v',n',g1,g2⟩:=jf hc d1;rw[hv]at g1;injection g1 with g1
  subst g1;simp only[XR]at g2 ⊢;obtain⟨_,_,hn,hsm⟩:=g2;have he:(EK K ρ).of j=some ((ρ j).1,m,rows.length):=by simp[EK,hj,QE.n,QE.rows]
  have hrj:=hS.sees.reg j _ hj;refine⟨trivial,?_⟩;cases hbj:(ρ j).1 with
  |none =>
   rw[hbj]at he hrj;obtain⟨ad,hv⟩:=hn _ _ he;have h0:=hrj.1;simp only[QE.rows]at h0;subst h0;exact⟨ad,0,by simpa[Vc]using hv,by simp[Vc],.inl (by simp[Vc])⟩
  |some bl =>
   rw[hbj]at he hrj;obtain⟨cap,hv,hc,_⟩:=hsm _ _ _ he;have hbl:bl∈fp ρ j:=ED hbj;have hno:∀b∈fp ρ j,¬OO (K.set j none) ρ Y b:=by
    rintro b hb' (h|⟨i,e,hi,h⟩)
    ·have:=hS.yl.1 b h
     rcases hS.new j _ b hj hb' with h'|h'
     ·exact this.2 h'
     ·omega
    ·obtain⟨hne,hi⟩:=hk i e hi
     exact hS.sees.dj j _ i _ b hj hi (λh=>hne h.symm) hb' h
   have hOK:∀b,OO (K.set j none) ρ Y b→OO K ρ Y b:=by
    rintro b (h|⟨i,e,hi,h⟩)
    ·exact .inl h
    ·exact .inr ⟨i,e,(hk i e hi).2,h⟩
   refine⟨_,cap,by rw[J3];exact hv,by rw[J3];exact hc,.inr ⟨bl,0,rfl,hno bl hbl,hS.sees.lt j _ bl hj hbl,NS hOK rows (λb hb'=>hno b (FO hb')) hrj.2.1⟩⟩
end
end Go.Proofs.YtfhnbabcbhgffaaGreatDoor.Am
namespace Go.Proofs.YtfhnbabcbhgffaaGreatDoor.Am
open Go
section
variable{P:Program}{n:NE}{Y:Nat→Prop}{w0:World}{F0:Nat→Prop}{ρ:Dl}{f:Fr}{K:KS}{a:Act}{w:World}
def Sim.niC[Wd](hS:Sim n Y w0 F0 ρ f K a w){jb o:Nat}{cs:List AV}(m:Nat)(hb:kg K jb=some (.box cs))(hc:cs[o]?=some .nil) :
  ∃ρ',Sim n Y w0 F0 ρ' f ((K++[some (QE.lst m [])]).set jb (some (QE.box (cs.set o (.sl K.length))))) a w:=by
 obtain⟨ρ',h1,hsl⟩:=hS.addNil (K1:=K) rfl (λ_ _ h=>h) m
 have hltb:=Gr hb;generalize hK1:K++[some (QE.lst m [])]=K1 at h1 hsl ⊢;have hlt1:jb<K1.length:=by rw[←hK1];simp;omega
 have hb1:kg K1 jb=some (.box cs):=by rw[←hK1,GZ,if_neg (by omega)];exact hb
 generalize hcs:cs.set o (.sl K.length)=cs';have hlen:cs'.length=cs.length:=by rw[←hcs];simp
 have hk2:∀i,kg (K1.set jb (some (.box cs'))) i=if i=jb then some (.box cs')else kg K1 i:=λi=>Zu _ _ _ _ hlt1
 have hOO:OO (K1.set jb (some (.box cs'))) ρ' Y=OO K1 ρ' Y:=by
  funext b;apply propext;constructor
  ·rintro(h|⟨i,e,hi,h⟩)
   ·exact .inl h
   ·rw[hk2]at hi
    by_cases hij:i=jb
    ·subst hij;exact .inr ⟨i,_,hb1,h⟩
    ·rw[if_neg hij]at hi;exact .inr ⟨i,e,hi,h⟩
  ·rintro(h|⟨i,e,hi,h⟩)
   ·exact .inl h
   ·by_cases hij:i=jb
    ·subst hij;exact .inr ⟨i,.box cs',by rw[hk2,if_pos rfl],h⟩
    ·exact .inr ⟨i,e,by rw[hk2,if_neg hij];exact hi,h⟩
 have hEK:EK (K1.set jb (some (.box cs'))) ρ'=EK K1 ρ':=by
  unfold EK;congr 1
  ·simp
  ·funext i
   rw[hk2];by_cases hij:i=jb
   ·subst hij;rw[if_pos rfl,hb1];simp[QE.n,QE.rows,hlen]
   ·rw[if_neg hij]
 have hsame:Same (OO K1 ρ' Y) (EK K1 ρ') w (OO (K1.set jb (some (.box cs'))) ρ' Y) (EK (K1.set jb (some (.box cs'))) ρ') w:=by
  rw[hOO,hEK];exact⟨Qg _,λ_ _ _=>rfl,λ_ h _=>h,Qg _,λ_ _ _ h=>h,λ_ _ _ _ _ _ _ h=>h⟩
 refine⟨ρ',h1.lift hsame jb (λi e hi hij=>⟨by rw[hk2,if_neg hij]at hi;exact hi,rfl,λ_ _=>rfl⟩) (λe he=>?_) hS.ext⟩
 rw[hk2,if_pos rfl]at he;injection he with he
 subst he;refine⟨?_,h1.sees.nd jb _ hb1,λb hb'=>⟨h1.sees.lt jb _ b hb1 hb',.inr ⟨jb,_,hb1,hb',.inl rfl⟩⟩⟩
 rw[hOO,hEK];have hr:=h1.sees.reg jb _ hb1;unfold Reg at hr ⊢;cases hρ:(ρ' jb).1 with
 |none=>rw[hρ]at hr;simp[QE.rows]at hr
 |some b =>
  rw[hρ]at hr;obtain⟨r1,r2,r3⟩:=hr;simp only[QE.rows,QE.n,QE.E,RR,List.length_singleton,Nat.one_mul,hlen]at r1 r2 ⊢;obtain⟨n1,n2,e1,_,c1,e2⟩:=r2;refine⟨r1,⟨n1,n2,e1,trivial,?_,e2⟩,λ_=>r3 rfl⟩
  rw[←hcs];refine d6 hc (λv n h=>by simp only[XR]at h;exact h.2) (λv hv=>?_) c1
  obtain⟨v',n',g1,g2⟩:=jf hc c1;rw[hv]at g1;injection g1 with g1
  subst g1;simp only[XR]at g2;obtain⟨⟨q,hq⟩,_⟩:=g2;rw[hq];exact hsl _ q
end
def Wk.nilc[Wd]{z:Nat}{f:Fr}{K:KS}{cs:List AV}{j o:Nat}(m:Nat)(hj:kg K j=some (.box cs))(hc:cs[o]?=some .nil):Wk z f K f ((K++[some (QE.lst m [])]).set j (some (QE.box (cs.set o (.sl K.length))))):=λn Y w0 F0 ρ a w hz hS=>hS.niC m hj hc
end Go.Proofs.YtfhnbabcbhgffaaGreatDoor.Am
