import Derived.Test.YtfhnbabcbhgffaaGreatDoorEvA
set_option linter.unusedVariables false
set_option linter.unusedSimpArgs false
set_option linter.defProp false
namespace Go.Proofs.YtfhnbabcbhgffaaGreatDoor.Am
open Go
section
variable{β:Type}{r:β}
def Xo{b:Bool}{q:Option β}{l}(h:Xi b q l=some r):b=true∧q=some r:=by
 cases b with
 |false=>cases h
 |true=>exact⟨rfl,h⟩
def nX{b:Bool}{p q:Option β}(h:cond b p q=some r):(b=true→p=some r)∧(b=false→q=some r):=by
 cases b with
 |false=>exact⟨λh'=>by (cases h'),λ_=>h⟩
 |true=>exact⟨λ_=>h,λh'=>by cases h'⟩
def Zm{p:Prop}[Decidable p]{q:Option β}(h:(if p then q else none)=some r):p∧q=some r:=by
 by_cases hp:p
 ·rw[if_pos hp]at h;exact⟨hp,h⟩
 ·rw[if_neg hp]at h;cases h
def CH{p:Prop}[Decidable p]{q:Prop}(hp:p)(hq:q):(if p then q else False):=by rw[if_pos hp];exact hq
def wy(a b:Int):(a==b)=decide (a=b):=by by_cases h:a=b<;>simp[h]
def z7(a b:Int):(a != b)=!decide (a=b):=by by_cases h:a=b<;>simp[h]
def y5(a b:List UInt8):(a==b)=decide (a=b):=by by_cases h:a=b<;>simp[h]
def yP(a b:List UInt8):(a != b)=!decide (a=b):=by by_cases h:a=b<;>simp[h]
def kZ{te:Option (List CK)}{xs ys:List AV}{k:Bool→Option β}{l}(h:wW te xs ys k l=some r):c7 te xs ys (λv=>k v=some r) ():=by
 unfold wW at h;unfold c7
 split at h
 ·split at h
  ·rename_i hb;simp only[hb];exact h
  ·cases h
 ·cases h
def yq{t:TI}{x:AV}{lo hi:Option AV}{k:AV→Option β}{l}(h:Oz t x lo hi k l=some r):fu t x lo hi (λv=>k v=some r) ():=by
 unfold Oz at h;unfold fu
 split at h
 ·obtain⟨hm,h⟩:=Zm h
  simp only;rw[if_pos hm]
  split at h
  ·rename_i h1 h2
   simp only[h1,h2];obtain⟨h3,h4⟩:=Xo h;exact⟨by simpa[Cy]using h3,h4⟩
  ·cases h
 ·simp only
  split at h
  ·rename_i h1 h2
   simp only[h1,h2];obtain⟨h3,h4⟩:=Xo h;exact⟨by simpa[Cy]using h3,h4⟩
  ·cases h
 ·cases h
def wC{t:TI}{x i:AV}{k:AV→Option β}{l}(h:vC t x i k l=some r):gJ t x i (λv=>k v=some r) ():=by
 unfold vC at h;unfold gJ
 split at h
 ·obtain⟨h3,h4⟩:=Xo h
  exact⟨AA.1 h3,h4⟩
 ·cases h
def xn{te:Option (List CK)}{op:BinOp}{x y:AV}{k:AV→Option β}{l}(h:AS te op x y k l=some r):ft te op x y (λv=>k v=some r) ():=by
 unfold AS at h;unfold ft
 split at h
 ·simp only
  split at h
  ·exact kZ h
  ·exact kZ h
  ·cases h
 ·simp only
  split at h
  ·exact h
  ·exact h
  ·cases h
 ·simp only
  split at h
  ·rename_i hs
   rw[if_pos hs];obtain⟨h1,h2⟩:=Xo h;exact⟨by simpa using h1,h2⟩
  rename_i hs;rw[if_neg hs];obtain⟨hc,h⟩:=Zm h;rw[if_pos hc]
  split at h<;>simp only<;>first
   |exact h
   |(rw[wy];exact h)
   |(rw[z7];exact h)
   |(obtain⟨h1,h2⟩:=Xo h;exact⟨by simpa using h1,h2⟩)
   |cases h
 ·simp only
  split at h<;>simp only<;>first
   |(rw[y5];exact h)
   |(rw[yP];exact h)
   |(obtain⟨h1,h2⟩:=Xo h;exact⟨by simpa using h1,h2⟩)
   |cases h
 ·cases h
def Qew{op:UnOp}{x:AV}{k:AV→Option β}{l}(h:oun op x k l=some r):xun op x (λv=>k v=some r) ():=by
 unfold oun at h;unfold xun
 split at h
 ·exact h
 ·exact h
 ·cases h
def sW{c x y:AV}{k:AV→Option β}{l}(h:Wp c x y k l=some r):TS c x y (λv=>k v=some r) ():=by
 unfold Wp at h;unfold TS
 split at h
 ·rename_i b
  cases b with
  |true=>exact h
  |false=>exact h
 ·cases h
variable{K:KS}
def zX{t:TI}{x:AV}{k:AV→Option β}{l}(h:gA K t x k l=some r):gG K t x (λv=>k v=some r) ():=by
 unfold gA at h;unfold gG
 split at h
 ·exact h
 ·exact h
 ·split at h
  ·rename_i e he;simp only[he];exact h
  ·cases h
 ·exact h
 ·exact h
 ·cases h
def xz{x:AV}{o:Option (Nat×TK)}{k:AV→Option β}{l}(h:nL K x o k l=some r):gk K x o (λv=>k v=some r) ():=by
 unfold nL at h;unfold gk
 split at h
 ·split at h
  ·rename_i e he;simp only[he];exact h
  ·cases h
 ·exact h
 ·cases h
def wV{t:TI}{x i:AV}{k:AV→Option β}{l}(h:em K t x i k l=some r):eF K t x i (λv=>k v=some r) ():=by
 unfold em at h;unfold eF
 split at h
 ·obtain⟨hm,h⟩:=Zm h
  obtain⟨h1,h2⟩:=Xo h;exact CH hm ⟨AA.1 h1,h2⟩
 ·split at h
  ·rename_i e he
   obtain⟨hm,h⟩:=Zm h;simp only[he];obtain⟨h1,h2⟩:=Xo h;exact CH hm ⟨AA.1 h1,h2⟩
  ·cases h
 ·split at h
  ·rename_i e he
   simp only[he];obtain⟨h1,h2⟩:=Xo h;exact⟨by simpa[dJ]using h1,h2⟩
  ·cases h
 ·cases h
def YA{t:TK}{cs:List AV}{k:AV→Option β}{l}(h:Mi t cs k l=some r):K6 t cs (λv=>k v=some r) ():=by
 unfold Mi at h;unfold K6
 split at h
 ·split at h
  ·exact h
  ·cases h
 ·obtain⟨hm,h⟩:=Zm h
  exact CH hm (h)
 ·cases h
def mq{cs:List AV}{o:Nat}{t:TK}{v:AV}{ok:AV→Bool}{k:List AV→Option β}{l}(h:Oc cs o t v ok k l=some r):ct cs o t v ok (λv=>k v=some r) ():=by
 unfold Oc at h;unfold ct
 split at h
 ·obtain⟨hm,h⟩:=Zm h
  exact CH hm (h)
 ·obtain⟨hm,h⟩:=Zm h
  exact CH hm (h)
 ·cases h
def Tw{t:TK}{p v:AV}{k:KS→Option β}{l}(h:S8 K t p v k l=some r):Ly K t p v (λK=>k K=some r) ():=by
 unfold S8 at h;unfold Ly
 split at h
 ·split at h
  ·rename_i cs hj
   simp only[hj];obtain⟨hm,h⟩:=Zm h;exact CH hm (mq h)
  ·rename_i n rows hj
   simp only[hj];obtain⟨hm,h⟩:=Zm h;exact CH hm (mq h)
  ·cases h
 ·cases h
def je{t:TK}{j i o n:Nat}{rows:List (List AV)}{v:AV}{k:KS→Option β}{l}{ns:List Nat}(h:PY ns K t j i o n rows v k l=some r):Kh ns K t j i o n rows v (λK=>k K=some r) ():=by
 unfold PY at h;unfold Kh;obtain⟨hm,h⟩:=Zm h;rw[if_pos hm]
 split at h
 ·rename_i K1 ds hab
  obtain⟨hc,h⟩:=Zm h;simp only[hab];exact CH hc h
 ·cases h
def iK{fl:Bool}{t:TK}{p v:AV}{k:KS→Option β}{l}{ns:List Nat}(h:PR fl ns K t p v k l=some r):CL fl ns K t p v (λK=>k K=some r) ():=by
 unfold PR at h;unfold CL
 split at h
 ·split at h
  ·rename_i n rows hj
   simp only[hj]
   split at h
   ·rename_i hc;rw[if_pos hc];exact Tw h
   ·rename_i hc
    rw[if_neg hc];obtain⟨hf,h⟩:=Zm h;exact CH hf (je h)
  ·rename_i hj
   cases hk:kg K _ with
   |none=>simp only[hk];exact Tw h
   |some e =>
    cases e with
    |box cs=>simp only[hk];exact Tw h
    |lst n rows=>exact absurd hk (hj n rows)
 ·cases h
def Qao{v:AV}{k:AV→KS→Option β}{l}(h:io K v k l=some r):nP K v (λv K=>k v K=some r) ():=by
 unfold io at h;unfold nP
 split at h
 ·obtain⟨hm,h⟩:=Zm h
  exact CH hm h
 ·rename_i hn
  obtain⟨hm,h⟩:=Zm h;cases v with
  |agg cs=>exact absurd rfl (hn cs)
  |_=>exact CH hm h
def nQ{z:Option (List AV)}{k:AV→KS→Option β}{l}(h:WM K z k l=some r):SI K z (λv K=>k v K=some r) ():=by
 unfold WM at h;unfold SI
 split at h
 ·exact h
 ·cases h
def pu{t:TB}{parts:List (Nat×AV)}{k:AV→Option β}{l}(h:Ty K t parts k l=some r):Ng K t parts (λv=>k v=some r) ():=by
 unfold Ty at h;unfold Ng
 split at h
 ·split at h
  ·rename_i cs hc;simp only[hc];exact h
  ·cases h
 ·split at h
  ·rename_i cs hc;simp only[hc];exact h
  ·cases h
 ·cases h
def j9{t:Option (TypeId×Nat×List AV)}{len:Nat}{parts:List (Nat×AV)}{k:AV→KS→Option β}{l}{fl:Bool}{ns:List Nat}(h:NQ fl ns K t len parts k l=some r):(fl=true→gW K t len parts=true)∧F9 ns K t len parts (λv K=>k v K=some r) ():=by
 unfold NQ at h;unfold F9 gW;cases t with
 |none=>cases h
 |some q =>
  obtain⟨e,m,z⟩:=q;simp only at h ⊢;by_cases h0:len=0
  ·rw[if_pos h0]at h ⊢
   subst h0;cases parts with
   |nil=>exact⟨λ_=>by simp[DU,HF,dQ],h⟩
   |cons _ _=>cases h
  ·rw[if_neg h0]at h ⊢
   obtain⟨hm,h⟩:=Zm h;rw[if_pos hm];cases hx:DU K (λi=>some (i*m,m)) (HF len z) parts with
   |none=>rw[hx]at h;cases h
   |some cs =>
    rw[hx]at h;simp only at h ⊢;cases hf:yB fl cs with
    |false=>rw[hf]at h;cases h
    |true =>
     rw[hf]at h;simp only[Qc]at h;refine⟨λhfl=>?_,?_⟩
     ·rw[hfl]at hf;exact hf
     ·cases ha:XJ K cs with
      |none=>rw[ha]at h;cases h
      |some q =>
       obtain⟨K1,ds⟩:=q;rw[ha]at h;exact h
def zt{v:AV}{i:Nat}{k:AV→Option β}{l}(h:qZ v i k l=some r):eG v i (λv=>k v=some r) ():=by
 unfold qZ at h;unfold eG
 split at h
 ·split at h
  ·rename_i c hc;simp only[hc];exact h
  ·cases h
 ·cases h
def yZ{o:Option (Nat×TK)}{x:AV}{k:AV→Option β}{l}(h:sg o x k l=some r):eA o x (λv=>k v=some r) ():=by
 unfold sg at h;unfold eA eT
 split at h
 ·exact YA h
 ·cases h
def iO{t:Option (TypeId×Nat×List AV)}{b:Option Nat}{s x:AV}{k:AV→KS→Option β}{l}(h:U0 K t b s x k l=some r):Ip K t b s x (λv K=>k v K=some r) ():=by
 unfold U0 at h;unfold Ip
 split at h
 ·simp only
  split at h
  ·rename_i rows K1 hs
   simp only[hs]
   split at h
   ·split at h
    ·rename_i n rows hj
     simp only[hj];obtain⟨hm,h⟩:=Zm h;obtain⟨h1,h2⟩:=Xo h;exact CH hm ⟨by simpa using h1,h2⟩
    ·cases h
   ·obtain⟨h1,h2⟩:=Xo h
    exact⟨by simpa using h1,h2⟩
   ·cases h
  ·cases h
 ·cases h
def xm{x y:AV}{k:AV→Option β}{l}(h:vD x y k l=some r):eP x y (λv=>k v=some r) ():=by
 unfold vD at h;unfold eP
 split at h
 ·exact h
 ·cases h
def zS{x y:AV}{k:AV→Option β}{l}(h:tZ x y k l=some r):eV x y (λv=>k v=some r) ():=by
 unfold tZ at h;unfold eV
 split at h
 ·exact h
 ·cases h
def vM{t:TI}{x:AV}{k:AV→Option β}{l}(h:fj t x k l=some r):TH t x (λv=>k v=some r) ():=by
 unfold fj at h;unfold TH
 split at h
 ·exact h
 ·cases h
def tp{K:KS}{t:TI}{x:AV}{k:AV→Option β}{l}(h:gh K t x k l=some r):Rx K t x (λv=>k v=some r) ():=by
 unfold gh at h;unfold Rx
 split at h
 ·split at h
  ·rename_i h1
   split at h
   ·rename_i h2;simp only[h1,h2];exact h
   ·cases h
  ·cases h
 ·cases h
def nM{op:BinOp}{x:AV}{k:AV→Option β}{l}(h:S4 op x k l=some r):MU op x (λv=>k v=some r) ():=by
 have key:∀{b:Bool} {x y:Option β},T8 b x y=some r→(b=true→x=some r)∧y=some r:=by
  intro b x y h;unfold T8 at h;cases b with
  |false=>exact⟨λh=>(by cases h),h⟩
  |true =>
   simp only[Qc,px]at h
   split at h
   ·rename_i he;exact⟨λ_=>h,by rw[←he];exact h⟩
   ·cases h
 unfold S4 at h;unfold MU
 split at h
 ·exact key h
 ·exact key h
 ·cases h
def uX{t:Option (TypeId×Nat×List AV)}{b:Option Nat}{x c:AV}{k:AV→KS→Option β}{l}{ns:List Nat}(h:me ns K t b x c k l=some r):bw ns K t b x c (λv K=>k v K=some r) ():=by
 unfold me at h;unfold bw
 split at h
 ·simp only
  obtain⟨h1,h2⟩:=Xo h;obtain⟨h3,h4⟩:=Xo h2;rw[if_pos (by simpa using h1)]
  exact⟨by simpa[mkB]using h3,h4⟩
 ·cases h
def SortP[Wd](P:Program)(g:FuncId):Prop:=∀(K:KS) (j:Nat) (rows:List (List AV)) (xs:List Int),kg K j=some (.lst 1 rows)→GI rows=some xs→xs.length<4611686018427387904 →
 AC P g K [.sl j] (λx K'=>x=.tup []∧K'=K.set j (some (.lst 1 ((Aw xs).map cI))))
def CompP[Wd](P:Program)(g:FuncId):Prop:=∀(K:KS) (j:Nat) (rows:List (List AV)) (xs:List Int),kg K j=some (.lst 1 rows)→GI rows=some xs→xs.length<4611686018427387904 →
 AC P g K [.sl j] (λx K'=>x=.sl K.length∧K'=K.set j none++[some (.lst 1 ((ZR xs).map cI))])
def Lg:∀{l:List Nat},pl l=true→l.Nodup
 |[],_=>by simp
 |x::l,h=>by
  simp only[pl,Bool.and_eq_true,Bool.not_eq_true']at h;rw[List.nodup_cons];exact⟨by simpa using h.1,Lg h.2⟩
def ArP[Wd](P:Program)(D:Orc):Prop:=∀g K args x,D.a g K args=some x→AC P g K args (λv K'=>(v=x.1∧K'.take x.2.length=x.2)∧TN x.2.length x.1=true∧(∀e∈x.2,pe e=true)∧K.length≤x.2.length)
def MrP[Wd](P:Program)(D:Orc):Prop:=∀g K args x,D.m g K args=some x→MC P g K args (·=x)
def M8[Wd](P:Program)(D:Orc):Prop:=(∀g args x,D.p g args=some x→PC P g args (·=x))∧(∀g,D.s g=true→SortP P g)∧(∀g,D.q g=true→CompP P g)∧ArP P D∧MrP P D
def lf:∀{K:KS},jz K=true→∀e∈K,OH e=true
 |[],_,e,he=>by cases he
 |some (.lst n rows)::K,h,e,he=>by
  rcases List.mem_cons.1 he with rfl|he
  ·rfl
  ·exact lf (K:=K) h e he
 |none::K,h,e,he=>by cases h
 |some (.box cs)::K,h,e,he=>by cases h
def Ra:∀{K:KS},PA K=true→∀e∈K,pe e=true
 |[],_,e,he=>by cases he
 |some (.lst n rows)::K,h,e,he=>by
  rcases List.mem_cons.1 he with rfl|he
  ·rfl
  ·exact Ra (K:=K) h e he
 |none::K,h,e,he=>by cases h
 |some (.box cs)::K,h,e,he=>by
  simp only[PA,Bool.and_eq_true]at h
  rcases List.mem_cons.1 he with rfl|he
  ·exact h.1
  ·exact Ra (K:=K) h.2 e he
def w4{s:Operand}(hs:FL s=true)(f:Fr):KV (ev f s)=false:=by
 cases s with
 |const v =>
  cases v<;>first|(cases hs;done)|skip
  rename_i a l c;cases a<;>cases l<;>cases c<;>first|rfl|cases hs
 |_=>cases hs
def U4[Wd]{P:Program}{D:Orc}(hD:M8 P D){o:Op}{f:Fr}{k:AV→KS→Option β}{l}(h:Eo P D o f K k l=some r):Gk P o f K (λv K=>k v K=some r) ():=by
 unfold Eo at h;unfold Gk
 split at h
 case h_21 x args _ =>
  simp only;unfold iU at h;unfold dY
  split at h
  ·rename_i g caps hg
   unfold Mc Aj at h;obtain⟨x,hx,h⟩:=Option.bind_eq_some_iff.1 h;simp only[hg];exact⟨_,(hD.1 _ _ _ hx).fix,λy hy=>by rw[hy];exact h⟩
  ·cases h
 all_goals (simp only;unfold Sy;simp only)
 case h_1=>exact h
 case h_2=>exact h
 case h_3=>exact sW h
 case h_4=>exact nQ h
 case h_5=>exact Qao h
 case h_6=>exact pu h
 case h_7=>exact j9 h
 case h_8=>exact YA h
 case h_9=>exact iK h
 case h_10 =>
  split at h
  ·rename_i hn
   obtain⟨hm,h⟩:=Zm h;rw[if_pos hn];exact CH hm (nM h)
  ·rename_i hn
   rw[if_neg hn];exact xn h
 case h_11=>exact Qew h
 case h_12 =>
  split at h
  ·rename_i hb;rw[if_pos hb];exact tp h
  ·rename_i hb
   obtain⟨hm,h⟩:=Zm h;rw[if_neg hb];exact CH hm (vM h)
 case h_13 =>
  obtain⟨hm,h⟩:=Zm h;exact CH hm (h)
 case h_14=>exact xz h
 case h_15=>exact wV h
 case h_16=>exact zt h
 case h_17 =>
  split at h
  ·rename_i h1 h2;simp only[h1,h2];exact zX h
  ·cases h
 case h_18 =>
  split at h
  ·rename_i h1 h2
   obtain⟨⟨hm,hn⟩,h⟩:=Zm h;simp only[h1,h2];refine⟨λhc=>?_,CH hm (iO h)⟩
   rename_i s x _ _ _ _;have hs:FL s=true:=hc;rw[hs]at hn;have hs2:KV (ev f s)=false:=w4 hs f;have hx2:KV (ev f x)=false:=hn;simp[hs2,hx2]
  ·cases h
 case h_19 =>
  split at h
  ·rename_i h1;simp only[h1];exact xm h
  ·cases h
 case h_20 =>
  split at h
  ·rename_i h1;simp only[h1];exact zS h
  ·cases h
 case h_22=>exact uX h
 case h_23=>exact yq h
 case h_24=>exact wC h
 case h_25 =>
  unfold rK at h;unfold xP
  split at h
  ·rename_i hv
   simp only[hv];unfold mI at h
   split at h
   ·rename_i hj;simp only[hj];exact h
   ·cases h
  ·rename_i hv
   simp only[hv];exact h
  ·cases h
 case h_26=>exact yZ h
 case h_27=>cases h
def lr[Wd]{P:Program}{D:Orc}(hD:M8 P D){o:Op}{f:Fr}{K:KS}{k:AV→KS→Option β}{k':AV→KS→Prop}{l}(h:G6 P D o f K k l=some r)(hk:∀v K,k v K=some r→k' v K):Sy P o f K k' ():=by
 unfold G6 at h
 split at h
 ·rename_i x args ts _
  show dY (ev f x) (λg caps=>TF P g K (args.toList.map (ev f)++caps) k' ()) ()
  unfold iU at h;unfold dY
  split at h
  ·rename_i g caps hg
   simp only[hg];simp only at h;cases hs:D.s g with
   |false =>
    rw[hs]at h;have h:cond (D.q g) (YI K (args.toList.map (ev f)++caps) k ()) (cond (D.w g) (Tb D g K (args.toList.map (ev f)++caps) k ()) (cond (D.v g) (O1 D g K (args.toList.map (ev f)++caps) k ()) (Mc D g K (args.toList.map (ev f)++caps) k ())))=some r:=h;cases hq:D.q g with
    |false =>
     rw[hq]at h;have h:cond (D.w g) (Tb D g K (args.toList.map (ev f)++caps) k ()) (cond (D.v g) (O1 D g K (args.toList.map (ev f)++caps) k ()) (Mc D g K (args.toList.map (ev f)++caps) k ()))=some r:=h;cases hw:D.w g with
     |false =>
      rw[hw]at h;have h:cond (D.v g) (O1 D g K (args.toList.map (ev f)++caps) k ()) (Mc D g K (args.toList.map (ev f)++caps) k ())=some r:=h;cases hv:D.v g with
      |false =>
       rw[hv]at h;have h':Mc D g K (args.toList.map (ev f)++caps) k ()=some r:=h;unfold Mc Aj at h';obtain⟨x,hx,h'⟩:=Option.bind_eq_some_iff.1 h';exact .inl ⟨_,(hD.1 _ _ _ hx).fix,λy hy=>by rw[hy];exact hk _ _ h'⟩
      |true =>
       rw[hv]at h;have h':O1 D g K (args.toList.map (ev f)++caps) k ()=some r:=h;unfold O1 UM at h';obtain⟨h1,h2⟩:=Xo h';unfold UI at h2
       split at h2
       ·rename_i cs hcs
        obtain⟨h3,h4⟩:=Xo h2;unfold Aj at h4;obtain⟨x,hx,h5⟩:=Option.bind_eq_some_iff.1 h4;have hls:∀j∈Kl (args.toList.map (ev f)++caps),OH (kg K j)=true:=λj hj=>lf h3 _ (by unfold Z4;exact List.mem_map_of_mem hj)
        exact .inr ⟨_,MC.sub (Lg h1) hls (hD.2.2.2.2 _ _ _ _ hx) hcs,λv K' ⟨hv,hK⟩=>by rw[hv,hK];exact hk _ _ h5⟩
       ·cases h2
     |true =>
      rw[hw]at h;have h':Tb D g K (args.toList.map (ev f)++caps) k ()=some r:=h;unfold Tb US at h';obtain⟨h1,h2⟩:=Xo h';unfold UL at h2
      split at h2
      ·rename_i cs hcs
       obtain⟨h3,h4⟩:=Xo h2;unfold Aj at h4;obtain⟨x,hx,h5⟩:=Option.bind_eq_some_iff.1 h4;have x4:=hD.2.2.2.1 _ _ _ _ hx;have hlen:(Z4 K (Kl (args.toList.map (ev f)++caps))).length=(Kl (args.toList.map (ev f)++caps)).length:=by simp[Z4]
       rw[hlen]at x4;have hls:∀j∈Kl (args.toList.map (ev f)++caps),pe (kg K j)=true:=λj hj=>Ra h3 _ (by unfold Z4;exact List.mem_map_of_mem hj)
       exact .inr ⟨_,AC.subB (Lg h1) hls x4 hcs,λv K' ⟨hv,hK⟩=>by rw[hv,hK];exact hk _ _ h5⟩
      ·cases h2
    |true =>
     rw[hq]at h;have h':YI K (args.toList.map (ev f)++caps) k ()=some r:=h;unfold YI at h'
     split at h'
     ·rename_i j hv
      rw[hv]
      split at h'
      ·rename_i rows hj
       split at h'
       ·rename_i xs hxs
        obtain⟨h1,h2⟩:=Xo h';exact .inr ⟨_,hD.2.2.1 g hq K j rows xs hj hxs (by simpa using h1),λx K' ⟨hx,hK⟩=>by rw[hx,hK];exact hk _ _ h2⟩
       ·cases h'
      ·cases h'
     ·cases h'
   |true =>
    rw[hs]at h;have h':bM K (args.toList.map (ev f)++caps) k ()=some r:=h;unfold bM at h'
    split at h'
    ·rename_i j hv
     rw[hv]
     split at h'
     ·rename_i rows hj
      split at h'
      ·rename_i xs hxs
       obtain⟨h1,h2⟩:=Xo h';exact .inr ⟨_,hD.2.1 g hs K j rows xs hj hxs (by simpa using h1),λx K' ⟨hx,hK⟩=>by rw[hx,hK];exact hk _ _ h2⟩
      ·cases h'
     ·cases h'
    ·cases h'
  ·cases h
 ·exact K4 (CN (U4 hD h) hk)
def MY[Wd]{P:Program}{D:Orc}(hD:M8 P D){ops:Array Oper}:∀(l:List Oper) {f:Fr} {K:KS} {k:Fr→KS→Option β},Ml P D ops l f K k ()=some r→Og P ops l f K (λf K=>k f K=some r) ()
 |[],f,K,k,h=>h
 |o::l,f,K,k,h=>by
  unfold Ml at h;unfold Og
  split at h
  ·rename_i hg
   simp only[hg];refine lr hD h λv K' h=>?_
   unfold Ln at h;unfold Gl
   split at h
   ·rename_i d hd;simp only[hd];exact MY hD l h
   ·rename_i hd;simp only[hd];exact MY hD l h
  ·cases h
def mT{α:Type}:∀{l:List α} {o:Nat} {c:α} {cs:List α},l.drop o=c::cs→l[o]?=some c
 |[],o,c,cs,h=>by simp at h
 |x::l,0,c,cs,h=>by simp at h;simp[h.1]
 |x::l,o+1,c,cs,h=>by simp at h;simpa using mT h
def Qdx[Wd]{P:Program}{D:Orc}(hD:M8 P D){f:Fr}{K:KS}{p x:AV}{g:FuncId}{k:AV→KS→Option β}{l}(h:onp D f K p x g k l=some r) :
  ∃j i o q m m' rows rs rs' rv,p=.ptr j i o∧kg K j=some (.lst q rows)∧(VJ rows i)[o]?=some (.own m rs)∧x.scal=true ∧
   AC P g [some (.lst m rs)] [.sl 0,x] (λv K'=>(v=rv∧K'.take 1=[some (.lst m' rs')])∧rv.flat=true)∧k rv (bF K j i o q m' rows rs')=some r:=by
 unfold onp at h
 split at h
 ·rename_i j i o
  unfold onj at h
  split at h
  ·rename_i q rows hj
   unfold onx at h
   split at h
   ·rename_i m rs cs hcs
    obtain⟨h1,h2⟩:=Xo h;unfold Aj at h2;obtain⟨y,hy,h3⟩:=Option.bind_eq_some_iff.1 h2;unfold onr at h3
    split at h3
    ·rename_i m' rs' hy2
     obtain⟨h4,h5⟩:=Xo h3;have y4:=hD.2.2.2.1 _ _ _ _ hy;rw[hy2]at y4;simp only[Bool.and_eq_true]at h4;exact⟨j,i,o,q,m,m',rows,rs,rs',y.1,rfl,hj,mT hcs,h1,y4.mono λv K' ⟨z1,z2,_⟩=>⟨z1,h4.1⟩,h5⟩
    ·cases h3
   ·cases h
  ·cases h
 ·cases h
def Y3[Wd]{P:Program}{D:Orc}(hD:M8 P D){ops:Array Oper}:∀(us:List Nat) (l:List Oper) {f:Fr} {K:KS} {k:Fr→KS→Option β},ON P D ops us l f K k ()=some r→OL P ops us l f K (λf K=>k f K=some r)
 |_::us,o::l,f,K,k,h=>by
  unfold ON at h;unfold OL
  split at h
  ·rename_i hg
   refine⟨hg,K4 (CN (U4 hD h) λv K' h=>?_)⟩
   unfold Ln at h;unfold Gl
   split at h
   ·rename_i d hd;simp only[hd];exact Y3 hD us l h
   ·rename_i hd;simp only[hd];exact Y3 hD us l h
  ·cases h
 |_::_,[],f,K,k,h=>by unfold ON at h;cases h
 |[],l,f,K,k,h=>by
  unfold ON at h
  split at h
  ·rename_i he;cases he
  ·rename_i _ _ d t p _ _ _ e x _ _ _ dst g args ts _ _ _ l' _
   split at h
   ·rename_i d' e' hargs
    obtain⟨h1,h2⟩:=Xo h;simp only[Bool.and_eq_true,Bool.not_eq_true']at h1;obtain⟨ht,hd',he',hde⟩:=h1;obtain⟨j,i,o,q,m,m',rows,rs,rs',rv,q1,q2,q3,q4,q6,q7⟩:=Qdx hD h2;have e1:d=d':=Nat.eq_of_beq_eq_true hd';have e2:e=e':=Nat.eq_of_beq_eq_true he';subst e1 e2;have ea:args=#[.tmp d,.tmp e]:=Array.toList_inj.1 hargs;subst ea;unfold OL;refine⟨d,e,t,p,x,g,ts,j,i,o,q,m,m',rows,rs,rs',rv,⟨rfl,rfl,rfl⟩,⟨rfl,rfl,rfl⟩,⟨rfl,rfl⟩,(λhh=>by subst hh;rw[Nat.beq_refl]at hde;cases hde),?_,q1,q2,q3,q4,q6,?_⟩
    ·revert ht
     cases tk P t<;>intro ht<;>first|rfl|cases ht
    ·unfold Ln at q7
     unfold Gl
     split at q7
     ·exact MY hD _ q7
     ·exact MY hD _ q7
   ·cases h
  ·cases h
def RW[Wd]{P:Program}{D:Orc}(hD:M8 P D){ops:Array Oper}:∀(l:List Oper) {f:Fr} {K:KS} {k:Fr→KS→Option β},Hj P D ops l f K k ()=some r→LN P ops l f K (λf K=>k f K=some r)
 |[],f,K,k,h=>h
 |o::l,f,K,k,h=>by
  unfold Hj at h;unfold LN;refine Dz.2 ?_;have yes:∀{f},Eo P D o.op f K (λv K'=>Ln o.dst v f (λf=>Hj P D ops l f K' k ()) ()) ()=some r→Gk P o.op f K (λv K'=>LN P ops l (AU f o.dst v) K' (λf K=>k f K=some r)) ():=λ{f} h =>
   CN (U4 hD h) λv K' h=>RW hD l (by
    unfold Ln at h;unfold AU;cases hd:o.dst with
    |none=>simp only[hd]at h;exact h
    |some d=>simp only[hd]at h;exact h)
  have no:∀{f},Ln o.dst (.tup []) f (λf=>Hj P D ops l f K k ()) ()=some r→LN P ops l (AU f o.dst (.tup [])) K (λf K=>k f K=some r):=λ{f} h=>RW hD l (by
    unfold Ln at h;unfold AU;cases hd:o.dst with
    |none=>simp only[hd]at h;exact h
    |some d=>simp only[hd]at h;exact h)
  unfold gd
  split at h
  ·rename_i hg;simp only[hg];exact yes h
  ·rename_i j want hg
   simp only[hg];unfold yi at h
   split at h
   ·rename_i d hj
    simp only[hj]
    split at h
    ·rename_i b hb
     simp only[hb];have e1:up f d (.b b)=f:=dX f d _ hb;cases b<;>cases want<;>simp at h ⊢<;>rw[e1]at h
     ·exact yes h
     ·exact no h
     ·exact no h
     ·exact yes h
    ·rename_i hb
     simp only[hb];exact no h
    ·cases h
   ·cases h
def zE[Wd]{vs:List Nat}{P:Program}{D:Orc}(hD:M8 P D){o:Op}{f:Fr}{K:KS}{k:AV→KS→Option β}{k':AV→KS→Prop}{l}(h:Ut vs P D o f K k l=some r)(hk:∀v K,k v K=some r→k' v K):Sl vs P o f K k':=by
 have key:(∃g args ts,o=.call ⟨.value (.func g),args,ts⟩)∨(wi vs o=false∧Ut vs P D o f K k l=Eo P D o f K k ()):=by
  cases o with
  |call c =>
   obtain⟨cal,args,ts⟩:=c;cases cal with
   |value x =>
    cases x with
    |func g=>exact .inl ⟨g,args,ts,rfl⟩
    |_=>exact .inr ⟨rfl,rfl⟩
   |_=>exact .inr ⟨rfl,rfl⟩
  |_=>exact .inr ⟨rfl,rfl⟩
 unfold Sl
 rcases key with⟨g,args,ts,rfl⟩|⟨hv,he⟩
 ·have h:cond (vs.contains g) (G6 P D (.call ⟨.value (.func g),args,ts⟩) f K k ()) (Eo P D (.call ⟨.value (.func g),args,ts⟩) f K k ())=some r:=h
  have hv:wi vs (.call ⟨.value (.func g),args,ts⟩)=vs.contains g:=rfl;rw[hv];cases hc:vs.contains g with
  |true =>
   rw[hc]at h;rw[if_pos rfl];exact lr (l:=()) hD h hk
  |false =>
   rw[hc]at h;rw[if_neg (by simp)]
   exact CN (U4 (l:=()) hD h) hk
 ·rw[he]at h
  rw[hv,if_neg (by simp)]
  exact CN (U4 (l:=()) hD h) hk
def Nm[Wd]{vs:List Nat}{P:Program}{D:Orc}(hD:M8 P D){ops:Array Oper}:∀(l:List Oper) {f:Fr} {K:KS} {k:Fr→KS→Option β},Cx vs P D ops l f K k ()=some r→RP vs P ops l f K (λf K=>k f K=some r)
 |[],f,K,k,h=>h
 |o::l,f,K,k,h=>by
  unfold Cx at h;unfold RP Ha;have yes:∀{f},Ut vs P D o.op f K (λv K'=>Ln o.dst v f (λf=>Cx vs P D ops l f K' k ()) ()) ()=some r→Sl vs P o.op f K (λv K'=>RP vs P ops l (AU f o.dst v) K' (λf K=>k f K=some r)):=λ{f} h =>
   zE hD h λv K' h=>Nm hD l (by
    unfold Ln at h;unfold AU;cases hd:o.dst with
    |none=>simp only[hd]at h;exact h
    |some d=>simp only[hd]at h;exact h)
  have no:∀{f},Ln o.dst (.tup []) f (λf=>Cx vs P D ops l f K k ()) ()=some r→RP vs P ops l (AU f o.dst (.tup [])) K (λf K=>k f K=some r):=λ{f} h=>Nm hD l (by
    unfold Ln at h;unfold AU;cases hd:o.dst with
    |none=>simp only[hd]at h;exact h
    |some d=>simp only[hd]at h;exact h)
  unfold gd
  split at h
  ·rename_i hg;simp only[hg];exact yes h
  ·rename_i j want hg
   simp only[hg];unfold yi at h
   split at h
   ·rename_i d hj
    simp only[hj]
    split at h
    ·rename_i b hb
     simp only[hb];have e1:up f d (.b b)=f:=dX f d _ hb;cases b<;>cases want<;>simp at h ⊢<;>rw[e1]at h
     ·exact yes h
     ·exact no h
     ·exact no h
     ·exact yes h
    ·rename_i hb
     simp only[hb];exact no h
    ·cases h
   ·cases h
def gR[Wd]{P:Program}{ops:Array Oper}:∀(l:List Oper) {f:Fr} {K:KS} {k:Fr→KS→Prop},LN P ops l f K k→Og P ops l f K k ()
 |[],f,K,k,h=>h
 |o::l,f,K,k,h=>by
  unfold LN G8 at h;unfold Og;have st:∀{f:Fr} {K:KS} {d:Option Tmp} {v:AV},Gl d v f (λf=>LN P ops l f K k) ()→Gl d v f (λf=>Og P ops l f K k ()) ():=λ{f K d v} h=>by
   rw[RK]at h ⊢;exact gR l h
  have yes:∀{f},Gk P o.op f K (λv K'=>Gl o.dst v f (λf=>LN P ops l f K' k) ()) ()→Sy P o.op f K (λv K'=>Gl o.dst v f (λf=>Og P ops l f K' k ()) ()) ():=λ{f} h =>
   K4 (CN h λv K' h=>st h)
  split at h
  ·rename_i hg;try simp only[hg]
   exact yes h
  ·rename_i j want hg
   try simp only[hg]
   unfold uA at h ⊢
   split at h
   ·rename_i d hj
    try simp only[hj]
    split at h
    ·rename_i b hb
     unfold XBr at h ⊢;refine⟨λhx=>?_,λhx=>?_⟩
     ·have:=h.1 hx
      cases want
      ·exact st this
      ·exact yes this
     ·have:=h.2 hx
      cases want
      ·exact yes this
      ·exact st this
    ·rename_i hb
     exact st h
    ·exact h.elim
   ·exact h.elim
end
end Go.Proofs.YtfhnbabcbhgffaaGreatDoor.Am
