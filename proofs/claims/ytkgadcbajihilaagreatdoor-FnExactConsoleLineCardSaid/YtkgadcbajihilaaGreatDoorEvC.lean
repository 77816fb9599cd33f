import Derived.Test.YtkgadcbajihilaaGreatDoorEvA
set_option linter.unusedVariables false
set_option linter.unusedSimpArgs false
set_option linter.defProp false
namespace Go.Proofs.YtkgadcbajihilaaGreatDoor.Am
open Go
section
variable{β:Type}{r:β}
def Xh{b:Bool}{q:Option β}{l}(h:V9 b q l=some r):b=true∧q=some r:=by
 cases b with
 |false=>cases h
 |true=>exact⟨rfl,h⟩
def sV{b:Bool}{p q:Option β}(h:cond b p q=some r):(b=true→p=some r)∧(b=false→q=some r):=by
 cases b with
 |false=>exact⟨λh'=>by (cases h'),λ_=>h⟩
 |true=>exact⟨λ_=>h,λh'=>by cases h'⟩
def JS{p:Prop}[Decidable p]{q:Option β}(h:(if p then q else none)=some r):p∧q=some r:=by
 by_cases hp:p
 ·rw[if_pos hp]at h;exact⟨hp,h⟩
 ·rw[if_neg hp]at h;cases h
def C9{p:Prop}[Decidable p]{q:Prop}(hp:p)(hq:q):(if p then q else False):=by rw[if_pos hp];exact hq
def Qbk(a b:Int):(a==b)=decide (a=b):=by by_cases h:a=b<;>simp[h]
def QcP(a b:Int):(a != b)=!decide (a=b):=by by_cases h:a=b<;>simp[h]
def Qb9(a b:List UInt8):(a==b)=decide (a=b):=by by_cases h:a=b<;>simp[h]
def Qb5(a b:List UInt8):(a != b)=!decide (a=b):=by by_cases h:a=b<;>simp[h]
def om{te:Option (List CK)}{xs ys:List AV}{k:Bool→Option β}{l}(h:Qd6 te xs ys k l=some r):gE te xs ys (λv=>k v=some r) ():=by
 unfold Qd6 at h;unfold gE
 split at h
 ·split at h
  ·rename_i hb;simp only[hb];exact h
  ·cases h
 ·cases h
def QdM{t:TI}{x:AV}{lo hi:Option AV}{k:AV→Option β}{l}(h:Pr t x lo hi k l=some r):kV t x lo hi (λv=>k v=some r) ():=by
 unfold Pr at h;unfold kV
 split at h
 ·obtain⟨hm,h⟩:=JS h
  simp only;rw[if_pos hm]
  split at h
  ·rename_i h1 h2
   simp only[h1,h2];obtain⟨h3,h4⟩:=Xh h;exact⟨by simpa[Ff]using h3,h4⟩
  ·cases h
 ·simp only
  split at h
  ·rename_i h1 h2
   simp only[h1,h2];obtain⟨h3,h4⟩:=Xh h;exact⟨by simpa[Ff]using h3,h4⟩
  ·cases h
 ·cases h
def QcG{t:TI}{x i:AV}{k:AV→Option β}{l}(h:xS t x i k l=some r):kE t x i (λv=>k v=some r) ():=by
 unfold xS at h;unfold kE
 split at h
 ·obtain⟨h3,h4⟩:=Xh h
  exact⟨C8.1 h3,h4⟩
 ·cases h
def QdV{te:Option (List CK)}{op:BinOp}{x y:AV}{k:AV→Option β}{l}(h:Bb te op x y k l=some r):jU te op x y (λv=>k v=some r) ():=by
 unfold Bb at h;unfold jU
 split at h
 ·simp only
  split at h
  ·exact om h
  ·exact om h
  ·cases h
 ·simp only
  split at h
  ·exact h
  ·exact h
  ·cases h
 ·simp only
  split at h
  ·rename_i hs
   rw[if_pos hs];obtain⟨h1,h2⟩:=Xh h;exact⟨by simpa using h1,h2⟩
  rename_i hs;rw[if_neg hs];obtain⟨hc,h⟩:=JS h;rw[if_pos hc]
  split at h<;>simp only<;>first
   |exact h
   |(rw[Qbk];exact h)
   |(rw[QcP];exact h)
   |(obtain⟨h1,h2⟩:=Xh h;exact⟨by simpa using h1,h2⟩)
   |cases h
 ·simp only
  split at h<;>simp only<;>first
   |(rw[Qb9];exact h)
   |(rw[Qb5];exact h)
   |(obtain⟨h1,h2⟩:=Xh h;exact⟨by simpa using h1,h2⟩)
   |cases h
 ·cases h
def Qhd{op:UnOp}{x:AV}{k:AV→Option β}{l}(h:oun op x k l=some r):xun op x (λv=>k v=some r) ():=by
 unfold oun at h;unfold xun
 split at h
 ·exact h
 ·exact h
 ·cases h
def QaS{c x y:AV}{k:AV→Option β}{l}(h:bQ c x y k l=some r):WI c x y (λv=>k v=some r) ():=by
 unfold bQ at h;unfold WI
 split at h
 ·rename_i b
  cases b with
  |true=>exact h
  |false=>exact h
 ·cases h
variable{K:KS}
def Qcj{t:TI}{x:AV}{k:AV→Option β}{l}(h:jB K t x k l=some r):j9 K t x (λv=>k v=some r) ():=by
 unfold jB at h;unfold j9
 split at h
 ·exact h
 ·exact h
 ·split at h
  ·rename_i e he;simp only[he];exact h
  ·cases h
 ·exact h
 ·exact h
 ·cases h
def QbX{x:AV}{o:Option (Nat×TK)}{k:AV→Option β}{l}(h:tU K x o k l=some r):kM K x o (λv=>k v=some r) ():=by
 unfold tU at h;unfold kM
 split at h
 ·split at h
  ·rename_i e he;simp only[he];exact h
  ·cases h
 ·exact h
 ·cases h
def Qcl{t:TI}{x i:AV}{k:AV→Option β}{l}(h:kU K t x i k l=some r):kP K t x i (λv=>k v=some r) ():=by
 unfold kU at h;unfold kP
 split at h
 ·obtain⟨hm,h⟩:=JS h
  obtain⟨h1,h2⟩:=Xh h;exact C9 hm ⟨C8.1 h1,h2⟩
 ·split at h
  ·rename_i e he
   obtain⟨hm,h⟩:=JS h;simp only[he];obtain⟨h1,h2⟩:=Xh h;exact C9 hm ⟨C8.1 h1,h2⟩
  ·cases h
 ·split at h
  ·rename_i e he
   simp only[he];obtain⟨h1,h2⟩:=Xh h;exact⟨by simpa[gB]using h1,h2⟩
  ·cases h
 ·cases h
def dk{t:TK}{cs:List AV}{k:AV→Option β}{l}(h:MG t cs k l=some r):LT t cs (λv=>k v=some r) ():=by
 unfold MG at h;unfold LT
 split at h
 ·split at h
  ·exact h
  ·cases h
 ·obtain⟨hm,h⟩:=JS h
  exact C9 hm (h)
 ·cases h
def rh{cs:List AV}{o:Nat}{t:TK}{v:AV}{ok:AV→Bool}{k:List AV→Option β}{l}(h:Pp cs o t v ok k l=some r):iH cs o t v ok (λv=>k v=some r) ():=by
 unfold Pp at h;unfold iH
 split at h
 ·obtain⟨hm,h⟩:=JS h
  exact C9 hm (h)
 ·obtain⟨hm,h⟩:=JS h
  exact C9 hm (h)
 ·cases h
def Wj{t:TK}{p v:AV}{k:KS→Option β}{l}(h:Ui K t p v k l=some r):Mp K t p v (λK=>k K=some r) ():=by
 unfold Ui at h;unfold Mp
 split at h
 ·split at h
  ·rename_i cs hj
   simp only[hj];obtain⟨hm,h⟩:=JS h;exact C9 hm (rh h)
  ·rename_i n rows hj
   simp only[hj];obtain⟨hm,h⟩:=JS h;exact C9 hm (rh h)
  ·cases h
 ·cases h
def mX{t:TK}{j i o n:Nat}{rows:List (List AV)}{v:AV}{k:KS→Option β}{l}{ns:List Nat}(h:TY ns K t j i o n rows v k l=some r):La ns K t j i o n rows v (λK=>k K=some r) ():=by
 unfold TY at h;unfold La;obtain⟨hm,h⟩:=JS h;rw[if_pos hm]
 split at h
 ·rename_i K1 ds hab
  obtain⟨hc,h⟩:=JS h;simp only[hab];exact C9 hc h
 ·cases h
def mz{fl:Bool}{t:TK}{p v:AV}{k:KS→Option β}{l}{ns:List Nat}(h:Su fl ns K t p v k l=some r):C5 fl ns K t p v (λK=>k K=some r) ():=by
 unfold Su at h;unfold C5
 split at h
 ·split at h
  ·rename_i n rows hj
   simp only[hj]
   split at h
   ·rename_i hc;rw[if_pos hc];exact Wj h
   ·rename_i hc
    rw[if_neg hc];obtain⟨hf,h⟩:=JS h;exact C9 hf (mX h)
  ·rename_i hj
   cases hk:kg K _ with
   |none=>simp only[hk];exact Wj h
   |some e =>
    cases e with
    |box cs=>simp only[hk];exact Wj h
    |lst n rows=>exact absurd hk (hj n rows)
 ·cases h
def Qct{v:AV}{k:AV→KS→Option β}{l}(h:nB K v k l=some r):tN K v (λv K=>k v K=some r) ():=by
 unfold nB at h;unfold tN
 split at h
 ·obtain⟨hm,h⟩:=JS h
  exact C9 hm h
 ·rename_i hn
  obtain⟨hm,h⟩:=JS h;cases v with
  |agg cs=>exact absurd rfl (hn cs)
  |_=>exact C9 hm h
def sC{z:Option (List AV)}{k:AV→KS→Option β}{l}(h:aC K z k l=some r):UX K z (λv K=>k v K=some r) ():=by
 unfold aC at h;unfold UX
 split at h
 ·exact h
 ·cases h
def tp{t:TB}{parts:List (Nat×AV)}{k:AV→Option β}{l}(h:Ur K t parts k l=some r):Nl K t parts (λv=>k v=some r) ():=by
 unfold Ur at h;unfold Nl
 split at h
 ·split at h
  ·rename_i cs hc;simp only[hc];exact h
  ·cases h
 ·split at h
  ·rename_i cs hc;simp only[hc];exact h
  ·cases h
 ·cases h
def mB{t:Option (TypeId×Nat×List AV)}{len:Nat}{parts:List (Nat×AV)}{k:AV→KS→Option β}{l}{fl:Bool}{ns:List Nat}(h:OF fl ns K t len parts k l=some r):(fl=true→jN K t len parts=true)∧GT ns K t len parts (λv K=>k v K=some r) ():=by
 unfold OF at h;unfold GT jN;cases t with
 |none=>cases h
 |some q =>
  obtain⟨e,m,z⟩:=q;simp only at h ⊢;by_cases h0:len=0
  ·rw[if_pos h0]at h ⊢
   subst h0;cases parts with
   |nil=>exact⟨λ_=>by simp[EB,Iz,iv],h⟩
   |cons _ _=>cases h
  ·rw[if_neg h0]at h ⊢
   obtain⟨hm,h⟩:=JS h;rw[if_pos hm];cases hx:EB K (λi=>some (i*m,m)) (Iz len z) parts with
   |none=>rw[hx]at h;cases h
   |some cs =>
    rw[hx]at h;simp only at h ⊢;cases hf:yB fl cs with
    |false=>rw[hf]at h;cases h
    |true =>
     rw[hf]at h;simp only[Qc]at h;refine⟨λhfl=>?_,?_⟩
     ·rw[hfl]at hf;exact hf
     ·cases ha:Xv K cs with
      |none=>rw[ha]at h;cases h
      |some q =>
       obtain⟨K1,ds⟩:=q;rw[ha]at h;exact h
def Qc5{v:AV}{i:Nat}{k:AV→Option β}{l}(h:u0 v i k l=some r):kr v i (λv=>k v=some r) ():=by
 unfold u0 at h;unfold kr
 split at h
 ·split at h
  ·rename_i c hc;simp only[hc];exact h
  ·cases h
 ·cases h
def Qce{o:Option (Nat×TK)}{x:AV}{k:AV→Option β}{l}(h:wz o x k l=some r):kn o x (λv=>k v=some r) ():=by
 unfold wz at h;unfold kn jv
 split at h
 ·exact dk h
 ·cases h
def nQ{t:Option (TypeId×Nat×List AV)}{b:Option Nat}{s x:AV}{k:AV→KS→Option β}{l}(h:YV K t b s x k l=some r):Kc K t b s x (λv K=>k v K=some r) ():=by
 unfold YV at h;unfold Kc
 split at h
 ·simp only
  split at h
  ·rename_i rows K1 hs
   simp only[hs]
   split at h
   ·split at h
    ·rename_i n rows hj
     simp only[hj];obtain⟨hm,h⟩:=JS h;obtain⟨h1,h2⟩:=Xh h;exact C9 hm ⟨by simpa using h1,h2⟩
    ·cases h
   ·obtain⟨h1,h2⟩:=Xh h
    exact⟨by simpa using h1,h2⟩
   ·cases h
  ·cases h
 ·cases h
def Qd4{x y:AV}{k:AV→Option β}{l}(h:zo x y k l=some r):jr x y (λv=>k v=some r) ():=by
 unfold zo at h;unfold jr
 split at h
 ·exact h
 ·cases h
def Qb1{x y:AV}{k:AV→Option β}{l}(h:xy x y k l=some r):lL x y (λv=>k v=some r) ():=by
 unfold xy at h;unfold lL
 split at h
 ·exact h
 ·cases h
def w4{t:TI}{x:AV}{k:AV→Option β}{l}(h:ls t x k l=some r):Wv t x (λv=>k v=some r) ():=by
 unfold ls at h;unfold Wv
 split at h
 ·exact h
 ·cases h
def yV{K:KS}{t:TI}{x:AV}{k:AV→Option β}{l}(h:jT K t x k l=some r):RY K t x (λv=>k v=some r) ():=by
 unfold jT at h;unfold RY
 split at h
 ·split at h
  ·rename_i h1
   split at h
   ·rename_i h2;simp only[h1,h2];exact h
   ·cases h
  ·cases h
 ·cases h
def sP{op:BinOp}{x:AV}{k:AV→Option β}{l}(h:Uz op x k l=some r):NJ op x (λv=>k v=some r) ():=by
 have key:∀{b:Bool} {x y:Option β},Yj b x y=some r→(b=true→x=some r)∧y=some r:=by
  intro b x y h;unfold Yj at h;cases b with
  |false=>exact⟨λh=>(by cases h),h⟩
  |true =>
   simp only[Qc,tt]at h
   split at h
   ·rename_i he;exact⟨λ_=>h,by rw[←he];exact h⟩
   ·cases h
 unfold Uz at h;unfold NJ
 split at h
 ·exact key h
 ·exact key h
 ·cases h
def wV{t:Option (TypeId×Nat×List AV)}{b:Option Nat}{x c:AV}{k:AV→KS→Option β}{l}{ns:List Nat}(h:pG ns K t b x c k l=some r):eL ns K t b x c (λv K=>k v K=some r) ():=by
 unfold pG at h;unfold eL
 split at h
 ·simp only
  obtain⟨h1,h2⟩:=Xh h;obtain⟨h3,h4⟩:=Xh h2;rw[if_pos (by simpa using h1)]
  exact⟨by simpa[sO]using h3,h4⟩
 ·cases h
def SortP[Wd](P:Program)(g:FuncId):Prop:=∀(K:KS) (j:Nat) (rows:List (List AV)) (xs:List Int),kg K j=some (.lst 1 rows)→Hr rows=some xs→xs.length<4611686018427387904 →
 AC P g K [.sl j] (λx K'=>x=.tup []∧K'=K.set j (some (.lst 1 ((Al xs).map cI))))
def CompP[Wd](P:Program)(g:FuncId):Prop:=∀(K:KS) (j:Nat) (rows:List (List AV)) (xs:List Int),kg K j=some (.lst 1 rows)→Hr rows=some xs→xs.length<4611686018427387904 →
 AC P g K [.sl j] (λx K'=>x=.sl K.length∧K'=K.set j none++[some (.lst 1 ((Zz xs).map cI))])
def LV:∀{l:List Nat},tC l=true→l.Nodup
 |[],_=>by simp
 |x::l,h=>by
  simp only[tC,Bool.and_eq_true,Bool.not_eq_true']at h;rw[List.nodup_cons];exact⟨by simpa using h.1,LV h.2⟩
def ArP[Wd](P:Program)(D:Orc):Prop:=∀g K args x,D.a g K args=some x→AC P g K args (λv K'=>(v=x.1∧K'.take x.2.length=x.2)∧WH x.2.length x.1=true∧(∀e∈x.2,tq e=true)∧K.length≤x.2.length)
def MrP[Wd](P:Program)(D:Orc):Prop:=∀g K args x,D.m g K args=some x→MC P g K args (·=x)
def Nz[Wd](P:Program)(D:Orc):Prop:=(∀g args x,D.p g args=some x→PC P g args (·=x))∧(∀g,D.s g=true→SortP P g)∧(∀g,D.q g=true→CompP P g)∧ArP P D∧MrP P D
def pw:∀{K:KS},mM K=true→∀e∈K,PD e=true
 |[],_,e,he=>by cases he
 |some (.lst n rows)::K,h,e,he=>by
  rcases List.mem_cons.1 he with rfl|he
  ·rfl
  ·exact pw (K:=K) h e he
 |none::K,h,e,he=>by cases h
 |some (.box cs)::K,h,e,he=>by cases h
def Tl:∀{K:KS},PU K=true→∀e∈K,tq e=true
 |[],_,e,he=>by cases he
 |some (.lst n rows)::K,h,e,he=>by
  rcases List.mem_cons.1 he with rfl|he
  ·rfl
  ·exact Tl (K:=K) h e he
 |none::K,h,e,he=>by cases h
 |some (.box cs)::K,h,e,he=>by
  simp only[PU,Bool.and_eq_true]at h
  rcases List.mem_cons.1 he with rfl|he
  ·exact h.1
  ·exact Tl (K:=K) h.2 e he
def Qb0{s:Operand}(hs:Gn s=true)(f:Fr):LN (ev f s)=false:=by
 cases s with
 |const v =>
  cases v<;>first|(cases hs;done)|skip
  rename_i a l c;cases a<;>cases l<;>cases c<;>first|rfl|cases hs
 |_=>cases hs
def aR[Wd]{P:Program}{D:Orc}(hD:Nz P D){o:Op}{f:Fr}{k:AV→KS→Option β}{l}(h:ER P D o f K k l=some r):GX P o f K (λv K=>k v K=some r) ():=by
 unfold ER at h;unfold GX
 split at h
 case h_21 x args _ =>
  simp only;unfold nX at h;unfold iS
  split at h
  ·rename_i g caps hg
   unfold MO Ad at h;obtain⟨x,hx,h⟩:=Option.bind_eq_some_iff.1 h;simp only[hg];exact⟨_,(hD.1 _ _ _ hx).fix,λy hy=>by rw[hy];exact h⟩
  ·cases h
 all_goals (simp only;unfold Ub;simp only)
 case h_1=>exact h
 case h_2=>exact h
 case h_3=>exact QaS h
 case h_4=>exact sC h
 case h_5=>exact Qct h
 case h_6=>exact tp h
 case h_7=>exact mB h
 case h_8=>exact dk h
 case h_9=>exact mz h
 case h_10 =>
  split at h
  ·rename_i hn
   obtain⟨hm,h⟩:=JS h;rw[if_pos hn];exact C9 hm (sP h)
  ·rename_i hn
   rw[if_neg hn];exact QdV h
 case h_11=>exact Qhd h
 case h_12 =>
  split at h
  ·rename_i hb;rw[if_pos hb];exact yV h
  ·rename_i hb
   obtain⟨hm,h⟩:=JS h;rw[if_neg hb];exact C9 hm (w4 h)
 case h_13 =>
  obtain⟨hm,h⟩:=JS h;exact C9 hm (h)
 case h_14=>exact QbX h
 case h_15=>exact Qcl h
 case h_16=>exact Qc5 h
 case h_17 =>
  split at h
  ·rename_i h1 h2;simp only[h1,h2];exact Qcj h
  ·cases h
 case h_18 =>
  split at h
  ·rename_i h1 h2
   obtain⟨⟨hm,hn⟩,h⟩:=JS h;simp only[h1,h2];refine⟨λhc=>?_,C9 hm (nQ h)⟩
   rename_i s x _ _ _ _;have hs:Gn s=true:=hc;rw[hs]at hn;have hs2:LN (ev f s)=false:=Qb0 hs f;have hx2:LN (ev f x)=false:=hn;simp[hs2,hx2]
  ·cases h
 case h_19 =>
  split at h
  ·rename_i h1;simp only[h1];exact Qd4 h
  ·cases h
 case h_20 =>
  split at h
  ·rename_i h1;simp only[h1];exact Qb1 h
  ·cases h
 case h_22=>exact wV h
 case h_23=>exact QdM h
 case h_24=>exact QcG h
 case h_25 =>
  unfold yo at h;unfold Qc4
  split at h
  ·rename_i hv
   simp only[hv];unfold qw at h
   split at h
   ·rename_i hj;simp only[hj];exact h
   ·cases h
  ·rename_i hv
   simp only[hv];exact h
  ·cases h
 case h_26=>exact Qce h
 case h_27=>cases h
def pU[Wd]{P:Program}{D:Orc}(hD:Nz P D){o:Op}{f:Fr}{K:KS}{k:AV→KS→Option β}{k':AV→KS→Prop}{l}(h:HQ P D o f K k l=some r)(hk:∀v K,k v K=some r→k' v K):Ub P o f K k' ():=by
 unfold HQ at h
 split at h
 ·rename_i x args ts _
  show iS (ev f x) (λg caps=>WM P g K (args.toList.map (ev f)++caps) k' ()) ()
  unfold nX at h;unfold iS
  split at h
  ·rename_i g caps hg
   simp only[hg];simp only at h;cases hs:D.s g with
   |false =>
    rw[hs]at h;have h:cond (D.q g) (cl K (args.toList.map (ev f)++caps) k ()) (cond (D.w g) (Uv D g K (args.toList.map (ev f)++caps) k ()) (cond (D.v g) (PV D g K (args.toList.map (ev f)++caps) k ()) (MO D g K (args.toList.map (ev f)++caps) k ())))=some r:=h;cases hq:D.q g with
    |false =>
     rw[hq]at h;have h:cond (D.w g) (Uv D g K (args.toList.map (ev f)++caps) k ()) (cond (D.v g) (PV D g K (args.toList.map (ev f)++caps) k ()) (MO D g K (args.toList.map (ev f)++caps) k ()))=some r:=h;cases hw:D.w g with
     |false =>
      rw[hw]at h;have h:cond (D.v g) (PV D g K (args.toList.map (ev f)++caps) k ()) (MO D g K (args.toList.map (ev f)++caps) k ())=some r:=h;cases hv:D.v g with
      |false =>
       rw[hv]at h;have h':MO D g K (args.toList.map (ev f)++caps) k ()=some r:=h;unfold MO Ad at h';obtain⟨x,hx,h'⟩:=Option.bind_eq_some_iff.1 h';exact .inl ⟨_,(hD.1 _ _ _ hx).fix,λy hy=>by rw[hy];exact hk _ _ h'⟩
      |true =>
       rw[hv]at h;have h':PV D g K (args.toList.map (ev f)++caps) k ()=some r:=h;unfold PV YL at h';obtain⟨h1,h2⟩:=Xh h';unfold YS at h2
       split at h2
       ·rename_i cs hcs
        obtain⟨h3,h4⟩:=Xh h2;unfold Ad at h4;obtain⟨x,hx,h5⟩:=Option.bind_eq_some_iff.1 h4;have hls:∀j∈K6 (args.toList.map (ev f)++caps),PD (kg K j)=true:=λj hj=>pw h3 _ (by unfold Z4;exact List.mem_map_of_mem hj)
        exact .inr ⟨_,MC.sub (LV h1) hls (hD.2.2.2.2 _ _ _ _ hx) hcs,λv K' ⟨hv,hK⟩=>by rw[hv,hK];exact hk _ _ h5⟩
       ·cases h2
     |true =>
      rw[hw]at h;have h':Uv D g K (args.toList.map (ev f)++caps) k ()=some r:=h;unfold Uv YP at h';obtain⟨h1,h2⟩:=Xh h';unfold Y6 at h2
      split at h2
      ·rename_i cs hcs
       obtain⟨h3,h4⟩:=Xh h2;unfold Ad at h4;obtain⟨x,hx,h5⟩:=Option.bind_eq_some_iff.1 h4;have x4:=hD.2.2.2.1 _ _ _ _ hx;have hlen:(Z4 K (K6 (args.toList.map (ev f)++caps))).length=(K6 (args.toList.map (ev f)++caps)).length:=by simp[Z4]
       rw[hlen]at x4;have hls:∀j∈K6 (args.toList.map (ev f)++caps),tq (kg K j)=true:=λj hj=>Tl h3 _ (by unfold Z4;exact List.mem_map_of_mem hj)
       exact .inr ⟨_,AC.subB (LV h1) hls x4 hcs,λv K' ⟨hv,hK⟩=>by rw[hv,hK];exact hk _ _ h5⟩
      ·cases h2
    |true =>
     rw[hq]at h;have h':cl K (args.toList.map (ev f)++caps) k ()=some r:=h;unfold cl at h'
     split at h'
     ·rename_i j hv
      rw[hv]
      split at h'
      ·rename_i rows hj
       split at h'
       ·rename_i xs hxs
        obtain⟨h1,h2⟩:=Xh h';exact .inr ⟨_,hD.2.2.1 g hq K j rows xs hj hxs (by simpa using h1),λx K' ⟨hx,hK⟩=>by rw[hx,hK];exact hk _ _ h2⟩
       ·cases h'
      ·cases h'
     ·cases h'
   |true =>
    rw[hs]at h;have h':eK K (args.toList.map (ev f)++caps) k ()=some r:=h;unfold eK at h'
    split at h'
    ·rename_i j hv
     rw[hv]
     split at h'
     ·rename_i rows hj
      split at h'
      ·rename_i xs hxs
       obtain⟨h1,h2⟩:=Xh h';exact .inr ⟨_,hD.2.1 g hs K j rows xs hj hxs (by simpa using h1),λx K' ⟨hx,hK⟩=>by rw[hx,hK];exact hk _ _ h2⟩
      ·cases h'
     ·cases h'
    ·cases h'
  ·cases h
 ·exact LE (Dw (aR hD h) hk)
def Nw[Wd]{P:Program}{D:Orc}(hD:Nz P D){ops:Array Oper}:∀(l:List Oper) {f:Fr} {K:KS} {k:Fr→KS→Option β},MY P D ops l f K k ()=some r→Pd P ops l f K (λf K=>k f K=some r) ()
 |[],f,K,k,h=>h
 |o::l,f,K,k,h=>by
  unfold MY at h;unfold Pd
  split at h
  ·rename_i hg
   simp only[hg];refine pU hD h λv K' h=>?_
   unfold L0 at h;unfold G1
   split at h
   ·rename_i d hd;simp only[hd];exact Nw hD l h
   ·rename_i hd;simp only[hd];exact Nw hD l h
  ·cases h
def oP{α:Type}:∀{l:List α} {o:Nat} {c:α} {cs:List α},l.drop o=c::cs→l[o]?=some c
 |[],o,c,cs,h=>by simp at h
 |x::l,0,c,cs,h=>by simp at h;simp[h.1]
 |x::l,o+1,c,cs,h=>by simp at h;simpa using oP h
def Qkw[Wd]{P:Program}{D:Orc}(hD:Nz P D){f:Fr}{K:KS}{p x:AV}{g:FuncId}{k:AV→KS→Option β}{l}(h:onp D f K p x g k l=some r) :
  ∃j i o q m m' rows rs rs' rv,p=.ptr j i o∧kg K j=some (.lst q rows)∧(VI rows i)[o]?=some (.own m rs)∧x.scal=true ∧
   AC P g [some (.lst m rs)] [.sl 0,x] (λv K'=>(v=rv∧K'.take 1=[some (.lst m' rs')])∧rv.flat=true)∧k rv (ff K j i o q m' rows rs')=some r:=by
 unfold onp at h
 split at h
 ·rename_i j i o
  unfold onj at h
  split at h
  ·rename_i q rows hj
   unfold onx at h
   split at h
   ·rename_i m rs cs hcs
    obtain⟨h1,h2⟩:=Xh h;unfold Ad at h2;obtain⟨y,hy,h3⟩:=Option.bind_eq_some_iff.1 h2;unfold onr at h3
    split at h3
    ·rename_i m' rs' hy2
     obtain⟨h4,h5⟩:=Xh h3;have y4:=hD.2.2.2.1 _ _ _ _ hy;rw[hy2]at y4;simp only[Bool.and_eq_true]at h4;exact⟨j,i,o,q,m,m',rows,rs,rs',y.1,rfl,hj,oP hcs,h1,y4.mono λv K' ⟨z1,z2,_⟩=>⟨z1,h4.1⟩,h5⟩
    ·cases h3
   ·cases h
  ·cases h
 ·cases h
def aX[Wd]{P:Program}{D:Orc}(hD:Nz P D){ops:Array Oper}:∀(us:List Nat) (l:List Oper) {f:Fr} {K:KS} {k:Fr→KS→Option β},PA P D ops us l f K k ()=some r→PF P ops us l f K (λf K=>k f K=some r)
 |_::us,o::l,f,K,k,h=>by
  unfold PA at h;unfold PF
  split at h
  ·rename_i hg
   refine⟨hg,LE (Dw (aR hD h) λv K' h=>?_)⟩
   unfold L0 at h;unfold G1
   split at h
   ·rename_i d hd;simp only[hd];exact aX hD us l h
   ·rename_i hd;simp only[hd];exact aX hD us l h
  ·cases h
 |_::_,[],f,K,k,h=>by unfold PA at h;cases h
 |[],l,f,K,k,h=>by
  unfold PA at h
  split at h
  ·rename_i he;cases he
  ·rename_i _ _ d t p _ _ _ e x _ _ _ dst g args ts _ _ _ l' _
   split at h
   ·rename_i d' e' hargs
    obtain⟨h1,h2⟩:=Xh h;simp only[Bool.and_eq_true,Bool.not_eq_true']at h1;obtain⟨ht,hd',he',hde⟩:=h1;obtain⟨j,i,o,q,m,m',rows,rs,rs',rv,q1,q2,q3,q4,q6,q7⟩:=Qkw hD h2;have e1:d=d':=Nat.eq_of_beq_eq_true hd';have e2:e=e':=Nat.eq_of_beq_eq_true he';subst e1 e2;have ea:args=#[.tmp d,.tmp e]:=Array.toList_inj.1 hargs;subst ea;unfold PF;refine⟨d,e,t,p,x,g,ts,j,i,o,q,m,m',rows,rs,rs',rv,⟨rfl,rfl,rfl⟩,⟨rfl,rfl,rfl⟩,⟨rfl,rfl⟩,(λhh=>by subst hh;rw[Nat.beq_refl]at hde;cases hde),?_,q1,q2,q3,q4,q6,?_⟩
    ·revert ht
     cases tk P t<;>intro ht<;>first|rfl|cases ht
    ·unfold L0 at q7
     unfold G1
     split at q7
     ·exact Nw hD _ q7
     ·exact Nw hD _ q7
   ·cases h
  ·cases h
def Sa[Wd]{P:Program}{D:Orc}(hD:Nz P D){ops:Array Oper}:∀(l:List Oper) {f:Fr} {K:KS} {k:Fr→KS→Option β},Im P D ops l f K k ()=some r→Me P ops l f K (λf K=>k f K=some r)
 |[],f,K,k,h=>h
 |o::l,f,K,k,h=>by
  unfold Im at h;unfold Me;refine DV.2 ?_;have yes:∀{f},ER P D o.op f K (λv K'=>L0 o.dst v f (λf=>Im P D ops l f K' k ()) ()) ()=some r→GX P o.op f K (λv K'=>Me P ops l (Bc f o.dst v) K' (λf K=>k f K=some r)) ():=λ{f} h =>
   Dw (aR hD h) λv K' h=>Sa hD l (by
    unfold L0 at h;unfold Bc;cases hd:o.dst with
    |none=>simp only[hd]at h;exact h
    |some d=>simp only[hd]at h;exact h)
  have no:∀{f},L0 o.dst (.tup []) f (λf=>Im P D ops l f K k ()) ()=some r→Me P ops l (Bc f o.dst (.tup [])) K (λf K=>k f K=some r):=λ{f} h=>Sa hD l (by
    unfold L0 at h;unfold Bc;cases hd:o.dst with
    |none=>simp only[hd]at h;exact h
    |some d=>simp only[hd]at h;exact h)
  unfold gd
  split at h
  ·rename_i hg;simp only[hg];exact yes h
  ·rename_i j want hg
   simp only[hg];unfold ogd at h
   split at h
   ·rename_i d hj
    simp only[hj]
    split at h
    ·rename_i b hb
     simp only[hb];have e1:up f d (.b b)=f:=ga f d _ hb;cases b<;>cases want<;>simp at h ⊢<;>rw[e1]at h
     ·exact yes h
     ·exact no h
     ·exact no h
     ·exact yes h
    ·rename_i hb
     simp only[hb];exact no h
    ·cases h
   ·cases h
def Qdc[Wd]{vs:List Nat}{P:Program}{D:Orc}(hD:Nz P D){o:Op}{f:Fr}{K:KS}{k:AV→KS→Option β}{k':AV→KS→Prop}{l}(h:YE vs P D o f K k l=some r)(hk:∀v K,k v K=some r→k' v K):SN vs P o f K k':=by
 have key:(∃g args ts,o=.call ⟨.value (.func g),args,ts⟩)∨(vOp vs o=false∧YE vs P D o f K k l=ER P D o f K k ()):=by
  cases o with
  |call c =>
   obtain⟨cal,args,ts⟩:=c;cases cal with
   |value x =>
    cases x with
    |func g=>exact .inl ⟨g,args,ts,rfl⟩
    |_=>exact .inr ⟨rfl,rfl⟩
   |_=>exact .inr ⟨rfl,rfl⟩
  |_=>exact .inr ⟨rfl,rfl⟩
 unfold SN
 rcases key with⟨g,args,ts,rfl⟩|⟨hv,he⟩
 ·have h:cond (vs.contains g) (HQ P D (.call ⟨.value (.func g),args,ts⟩) f K k ()) (ER P D (.call ⟨.value (.func g),args,ts⟩) f K k ())=some r:=h
  have hv:vOp vs (.call ⟨.value (.func g),args,ts⟩)=vs.contains g:=rfl;rw[hv];cases hc:vs.contains g with
  |true =>
   rw[hc]at h;rw[if_pos rfl];exact pU (l:=()) hD h hk
  |false =>
   rw[hc]at h;rw[if_neg (by simp)]
   exact Dw (aR (l:=()) hD h) hk
 ·rw[he]at h
  rw[hv,if_neg (by simp)]
  exact Dw (aR (l:=()) hD h) hk
def NA[Wd]{vs:List Nat}{P:Program}{D:Orc}(hD:Nz P D){ops:Array Oper}:∀(l:List Oper) {f:Fr} {K:KS} {k:Fr→KS→Option β},C1 vs P D ops l f K k ()=some r→S9 vs P ops l f K (λf K=>k f K=some r)
 |[],f,K,k,h=>h
 |o::l,f,K,k,h=>by
  unfold C1 at h;unfold S9 Ic;have yes:∀{f},YE vs P D o.op f K (λv K'=>L0 o.dst v f (λf=>C1 vs P D ops l f K' k ()) ()) ()=some r→SN vs P o.op f K (λv K'=>S9 vs P ops l (Bc f o.dst v) K' (λf K=>k f K=some r)):=λ{f} h =>
   Qdc hD h λv K' h=>NA hD l (by
    unfold L0 at h;unfold Bc;cases hd:o.dst with
    |none=>simp only[hd]at h;exact h
    |some d=>simp only[hd]at h;exact h)
  have no:∀{f},L0 o.dst (.tup []) f (λf=>C1 vs P D ops l f K k ()) ()=some r→S9 vs P ops l (Bc f o.dst (.tup [])) K (λf K=>k f K=some r):=λ{f} h=>NA hD l (by
    unfold L0 at h;unfold Bc;cases hd:o.dst with
    |none=>simp only[hd]at h;exact h
    |some d=>simp only[hd]at h;exact h)
  unfold gd
  split at h
  ·rename_i hg;simp only[hg];exact yes h
  ·rename_i j want hg
   simp only[hg];unfold ogd at h
   split at h
   ·rename_i d hj
    simp only[hj]
    split at h
    ·rename_i b hb
     simp only[hb];have e1:up f d (.b b)=f:=ga f d _ hb;cases b<;>cases want<;>simp at h ⊢<;>rw[e1]at h
     ·exact yes h
     ·exact no h
     ·exact no h
     ·exact yes h
    ·rename_i hb
     simp only[hb];exact no h
    ·cases h
   ·cases h
def jF[Wd]{P:Program}{ops:Array Oper}:∀(l:List Oper) {f:Fr} {K:KS} {k:Fr→KS→Prop},Me P ops l f K k→Pd P ops l f K k ()
 |[],f,K,k,h=>h
 |o::l,f,K,k,h=>by
  unfold Me Ib at h;unfold Pd;have st:∀{f:Fr} {K:KS} {d:Option Tmp} {v:AV},G1 d v f (λf=>Me P ops l f K k) ()→G1 d v f (λf=>Pd P ops l f K k ()) ():=λ{f K d v} h=>by
   rw[RV]at h ⊢;exact jF l h
  have yes:∀{f},GX P o.op f K (λv K'=>G1 o.dst v f (λf=>Me P ops l f K' k) ()) ()→Ub P o.op f K (λv K'=>G1 o.dst v f (λf=>Pd P ops l f K' k ()) ()) ():=λ{f} h =>
   LE (Dw h λv K' h=>st h)
  split at h
  ·rename_i hg;try simp only[hg]
   exact yes h
  ·rename_i j want hg
   try simp only[hg]
   unfold xL at h ⊢
   split at h
   ·rename_i d hj
    try simp only[hj]
    split at h
    ·rename_i b hb
     unfold XBr at h ⊢;refine⟨λhx=>?_,λhx=>?_⟩
     ·have:=h.1 hx
      cases want
      ·exact st this
      ·exact yes this
     ·have:=h.2 hx
      cases want
      ·exact yes this
      ·exact st this
    ·rename_i hb
     exact st h
    ·exact h.elim
   ·exact h.elim
end
end Go.Proofs.YtkgadcbajihilaaGreatDoor.Am
