import Derived.Test.YtoilkmgiofimjaaGreatDoorEvA
namespace Go.Proofs.YtoilkmgiofimjaaGreatDoor.Am
open Go
set_option linter.unusedVariables false
set_option linter.unusedSimpArgs false
section
variable{β:Type}{r:β}
theorem VQ{b:Bool}{q:Option β}{l}(h:VI b q l=some r):b=true∧q=some r:=by
 cases b with
 |false=>cases h
 |true=>exact⟨rfl,h⟩
theorem mZ{b:Bool}{p q:Option β}(h:cond b p q=some r):(b=true→p=some r)∧(b=false→q=some r):=by
 cases b with
 |false=>exact⟨λh'=>by (cases h'),λ_=>h⟩
 |true=>exact⟨λ_=>h,λh'=>by cases h'⟩
theorem Js{p:Prop}[Decidable p]{q:Option β}(h:(if p then q else none)=some r):p∧q=some r:=by
 by_cases hp:p
 ·rw[if_pos hp]at h;exact⟨hp,h⟩
 ·rw[if_neg hp]at h;cases h
theorem B5{p:Prop}[Decidable p]{q:Prop}(hp:p)(hq:q):(if p then q else False):=by rw[if_pos hp];exact hq
theorem xA(a b:Int):(a==b)=decide (a=b):=by by_cases h:a=b<;>simp[h]
theorem xv(a b:Int):(a != b)=!decide (a=b):=by by_cases h:a=b<;>simp[h]
theorem xY(a b:List UInt8):(a==b)=decide (a=b):=by by_cases h:a=b<;>simp[h]
theorem yn(a b:List UInt8):(a != b)=!decide (a=b):=by by_cases h:a=b<;>simp[h]
theorem jP{te:Option (List CK)}{xs ys:List AV}{k:Bool→Option β}{l}(h:xy te xs ys k l=some r):bg te xs ys (λv=>k v=some r) ():=by
 unfold xy at h;unfold bg
 split at h
 ·split at h
  ·rename_i hb;simp only[hb];exact h
  ·cases h
 ·cases h
theorem vG{t:TI}{x:AV}{lo hi:Option AV}{k:AV→Option β}{l}(h:MN t x lo hi k l=some r):eC t x lo hi (λv=>k v=some r) ():=by
 unfold MN at h;unfold eC
 split at h
 ·obtain⟨hm,h⟩:=Js h
  simp only;rw[if_pos hm]
  split at h
  ·rename_i h1 h2
   simp only[h1,h2];obtain⟨h3,h4⟩:=VQ h;exact⟨by simpa[slB]using h3,h4⟩
  ·cases h
 ·simp only
  split at h
  ·rename_i h1 h2
   simp only[h1,h2];obtain⟨h3,h4⟩:=VQ h;exact⟨by simpa[slB]using h3,h4⟩
  ·cases h
 ·cases h
theorem ym{t:TI}{x i:AV}{k:AV→Option β}{l}(h:pu t x i k l=some r):gg t x i (λv=>k v=some r) ():=by
 unfold pu at h;unfold gg
 split at h
 ·obtain⟨h3,h4⟩:=VQ h
  exact⟨B3.1 h3,h4⟩
 ·cases h
theorem y0{te:Option (List CK)}{op:BinOp}{x y:AV}{k:AV→Option β}{l}(h:Ap te op x y k l=some r):fB te op x y (λv=>k v=some r) ():=by
 unfold Ap at h;unfold fB
 split at h
 ·simp only
  split at h
  ·exact jP h
  ·exact jP h
  ·cases h
 ·simp only
  split at h
  ·exact h
  ·exact h
  ·cases h
 ·simp only
  split at h
  ·rename_i hs
   rw[if_pos hs];obtain⟨h1,h2⟩:=VQ h;exact⟨by simpa using h1,h2⟩
  rename_i hs;rw[if_neg hs];obtain⟨hc,h⟩:=Js h;rw[if_pos hc]
  split at h<;>simp only<;>first
   |exact h
   |(rw[xA];exact h)
   |(rw[xv];exact h)
   |(obtain⟨h1,h2⟩:=VQ h;exact⟨by simpa using h1,h2⟩)
   |cases h
 ·simp only
  split at h<;>simp only<;>first
   |(rw[xY];exact h)
   |(rw[yn];exact h)
   |(obtain⟨h1,h2⟩:=VQ h;exact⟨by simpa using h1,h2⟩)
   |cases h
 ·cases h
theorem QbM{op:UnOp}{x:AV}{k:AV→Option β}{l}(h:oun op x k l=some r):xun op x (λv=>k v=some r) ():=by
 unfold oun at h;unfold xun
 split at h
 ·exact h
 ·exact h
 ·cases h
theorem tX{c x y:AV}{k:AV→Option β}{l}(h:T1 c x y k l=some r):Sw c x y (λv=>k v=some r) ():=by
 unfold T1 at h;unfold Sw
 split at h
 ·rename_i b
  cases b with
  |true=>exact h
  |false=>exact h
 ·cases h
variable{K:KS}
theorem u7{t:TI}{x:AV}{k:AV→Option β}{l}(h:gy K t x k l=some r):eo K t x (λv=>k v=some r) ():=by
 unfold gy at h;unfold eo
 split at h
 ·exact h
 ·exact h
 ·split at h
  ·rename_i e he;simp only[he];exact h
  ·cases h
 ·exact h
 ·exact h
 ·cases h
theorem ve{x:AV}{o:Option (Nat×TK)}{k:AV→Option β}{l}(h:pa K x o k l=some r):fQ K x o (λv=>k v=some r) ():=by
 unfold pa at h;unfold fQ
 split at h
 ·split at h
  ·rename_i e he;simp only[he];exact h
  ·cases h
 ·exact h
 ·cases h
theorem wa{t:TI}{x i:AV}{k:AV→Option β}{l}(h:dU K t x i k l=some r):fO K t x i (λv=>k v=some r) ():=by
 unfold dU at h;unfold fO
 split at h
 ·obtain⟨hm,h⟩:=Js h
  obtain⟨h1,h2⟩:=VQ h;exact B5 hm ⟨B3.1 h1,h2⟩
 ·split at h
  ·rename_i e he
   obtain⟨hm,h⟩:=Js h;simp only[he];obtain⟨h1,h2⟩:=VQ h;exact B5 hm ⟨B3.1 h1,h2⟩
  ·cases h
 ·split at h
  ·rename_i e he
   simp only[he];obtain⟨h1,h2⟩:=VQ h;exact⟨by simpa[aS]using h1,h2⟩
  ·cases h
 ·cases h
theorem WJ{t:TK}{cs:List AV}{k:AV→Option β}{l}(h:KF t cs k l=some r):Iz t cs (λv=>k v=some r) ():=by
 unfold KF at h;unfold Iz
 split at h
 ·split at h
  ·exact h
  ·cases h
 ·obtain⟨hm,h⟩:=Js h
  exact B5 hm (h)
 ·cases h
theorem kU{cs:List AV}{o:Nat}{t:TK}{v:AV}{ok:AV→Bool}{k:List AV→Option β}{l}(h:MJ cs o t v ok k l=some r):bH cs o t v ok (λv=>k v=some r) ():=by
 unfold MJ at h;unfold bH
 split at h
 ·obtain⟨hm,h⟩:=Js h
  exact B5 hm (h)
 ·obtain⟨hm,h⟩:=Js h
  exact B5 hm (h)
 ·cases h
theorem RO{t:TK}{p v:AV}{k:KS→Option β}{l}(h:RV K t p v k l=some r):I2 K t p v (λK=>k K=some r) ():=by
 unfold RV at h;unfold I2
 split at h
 ·split at h
  ·rename_i cs hj
   simp only[hj];obtain⟨hm,h⟩:=Js h;exact B5 hm (kU h)
  ·rename_i n rows hj
   simp only[hj];obtain⟨hm,h⟩:=Js h;exact B5 hm (kU h)
  ·cases h
 ·cases h
theorem iJ{t:TK}{j i o n:Nat}{rows:List (List AV)}{v:AV}{k:KS→Option β}{l}{ns:List Nat}(h:OL ns K t j i o n rows v k l=some r):Hz ns K t j i o n rows v (λK=>k K=some r) ():=by
 unfold OL at h;unfold Hz;obtain⟨hm,h⟩:=Js h;rw[if_pos hm]
 split at h
 ·rename_i K1 ds hab
  obtain⟨hc,h⟩:=Js h;simp only[hab];exact B5 hc h
 ·cases h
theorem gN{fl:Bool}{t:TK}{p v:AV}{k:KS→Option β}{l}{ns:List Nat}(h:OV fl ns K t p v k l=some r):B7 fl ns K t p v (λK=>k K=some r) ():=by
 unfold OV at h;unfold B7
 split at h
 ·split at h
  ·rename_i n rows hj
   simp only[hj]
   split at h
   ·rename_i hc;rw[if_pos hc];exact RO h
   ·rename_i hc
    rw[if_neg hc];obtain⟨hf,h⟩:=Js h;exact B5 hf (iJ h)
  ·rename_i hj
   cases hk:kg K _ with
   |none=>simp only[hk];exact RO h
   |some e =>
    cases e with
    |box cs=>simp only[hk];exact RO h
    |lst n rows=>exact absurd hk (hj n rows)
 ·cases h
theorem xi{v:AV}{k:AV→KS→Option β}{l}(h:iL K v k l=some r):mU K v (λv K=>k v K=some r) ():=by
 unfold iL at h;unfold mU
 split at h
 ·obtain⟨hm,h⟩:=Js h
  exact B5 hm h
 ·rename_i hn
  obtain⟨hm,h⟩:=Js h;cases v with
  |agg cs=>exact absurd rfl (hn cs)
  |_=>exact B5 hm h
theorem nt{z:Option (List AV)}{k:AV→KS→Option β}{l}(h:U9 K z k l=some r):RZ K z (λv K=>k v K=some r) ():=by
 unfold U9 at h;unfold RZ
 split at h
 ·exact h
 ·cases h
theorem m9{t:TB}{parts:List (Nat×AV)}{k:AV→Option β}{l}(h:Sl K t parts k l=some r):L0 K t parts (λv=>k v=some r) ():=by
 unfold Sl at h;unfold L0
 split at h
 ·split at h
  ·rename_i cs hc;simp only[hc];exact h
  ·cases h
 ·split at h
  ·rename_i cs hc;simp only[hc];exact h
  ·cases h
 ·cases h
theorem iW{t:Option (TypeId×Nat×List AV)}{len:Nat}{parts:List (Nat×AV)}{k:AV→KS→Option β}{l}{fl:Bool}{ns:List Nat}(h:Mg fl ns K t len parts k l=some r):(fl=true→eN K t len parts=true)∧Fd ns K t len parts (λv K=>k v K=some r) ():=by
 unfold Mg at h;unfold Fd eN;cases t with
 |none=>cases h
 |some q =>
  obtain⟨e,m,z⟩:=q;simp only at h ⊢;by_cases h0:len=0
  ·rw[if_pos h0]at h ⊢
   subst h0;cases parts with
   |nil=>exact⟨λ_=>by simp[Df,GA,noS],h⟩
   |cons _ _=>cases h
  ·rw[if_neg h0]at h ⊢
   obtain⟨hm,h⟩:=Js h;rw[if_pos hm];cases hx:Df K (λi=>some (i*m,m)) (GA len z) parts with
   |none=>rw[hx]at h;cases h
   |some cs =>
    rw[hx]at h;simp only at h ⊢;cases hf:yB fl cs with
    |false=>rw[hf]at h;cases h
    |true =>
     rw[hf]at h;simp only[Qc]at h;refine⟨λhfl=>?_,?_⟩
     ·rw[hfl]at hf;exact hf
     ·cases ha:V6 K cs with
      |none=>rw[ha]at h;cases h
      |some q =>
       obtain⟨K1,ds⟩:=q;rw[ha]at h;exact h
theorem vV{v:AV}{i:Nat}{k:AV→Option β}{l}(h:qe v i k l=some r):fK v i (λv=>k v=some r) ():=by
 unfold qe at h;unfold fK
 split at h
 ·split at h
  ·rename_i c hc;simp only[hc];exact h
  ·cases h
 ·cases h
theorem xS{o:Option (Nat×TK)}{x:AV}{k:AV→Option β}{l}(h:qG o x k l=some r):eX o x (λv=>k v=some r) ():=by
 unfold qG at h;unfold eX dE
 split at h
 ·exact WJ h
 ·cases h
theorem iy{t:Option (TypeId×Nat×List AV)}{b:Option Nat}{s x:AV}{k:AV→KS→Option β}{l}(h:TF K t b s x k l=some r):GX K t b s x (λv K=>k v K=some r) ():=by
 unfold TF at h;unfold GX
 split at h
 ·simp only
  split at h
  ·rename_i rows K1 hs
   simp only[hs]
   split at h
   ·split at h
    ·rename_i n rows hj
     simp only[hj];obtain⟨hm,h⟩:=Js h;obtain⟨h1,h2⟩:=VQ h;exact B5 hm ⟨by simpa using h1,h2⟩
    ·cases h
   ·obtain⟨h1,h2⟩:=VQ h
    exact⟨by simpa using h1,h2⟩
   ·cases h
  ·cases h
 ·cases h
theorem yb{x y:AV}{k:AV→Option β}{l}(h:sy x y k l=some r):dt x y (λv=>k v=some r) ():=by
 unfold sy at h;unfold dt
 split at h
 ·exact h
 ·cases h
theorem wC{x y:AV}{k:AV→Option β}{l}(h:uc x y k l=some r):gh x y (λv=>k v=some r) ():=by
 unfold uc at h;unfold gh
 split at h
 ·exact h
 ·cases h
theorem si{t:TI}{x:AV}{k:AV→Option β}{l}(h:fG t x k l=some r):Sx t x (λv=>k v=some r) ():=by
 unfold fG at h;unfold Sx
 split at h
 ·exact h
 ·cases h
theorem tV{K:KS}{t:TI}{x:AV}{k:AV→Option β}{l}(h:eR K t x k l=some r):P2 K t x (λv=>k v=some r) ():=by
 unfold eR at h;unfold P2
 split at h
 ·split at h
  ·rename_i h1
   split at h
   ·rename_i h2;simp only[h1,h2];exact h
   ·cases h
  ·cases h
 ·cases h
theorem ob{op:BinOp}{x:AV}{k:AV→Option β}{l}(h:RG op x k l=some r):Lv op x (λv=>k v=some r) ():=by
 have key:∀{b:Bool} {x y:Option β},Tc b x y=some r→(b=true→x=some r)∧y=some r:=by
  intro b x y h;unfold Tc at h;cases b with
  |false=>exact⟨λh=>(by cases h),h⟩
  |true =>
   simp only[Qc,oeq]at h
   split at h
   ·rename_i he;exact⟨λ_=>h,by rw[←he];exact h⟩
   ·cases h
 unfold RG at h;unfold Lv
 split at h
 ·exact key h
 ·exact key h
 ·cases h
theorem px{t:Option (TypeId×Nat×List AV)}{b:Option Nat}{x c:AV}{k:AV→KS→Option β}{l}{ns:List Nat}(h:mc ns K t b x c k l=some r):aw ns K t b x c (λv K=>k v K=some r) ():=by
 unfold mc at h;unfold aw
 split at h
 ·simp only
  obtain⟨h1,h2⟩:=VQ h;obtain⟨h3,h4⟩:=VQ h2;rw[if_pos (by simpa using h1)]
  exact⟨by simpa[mkB]using h3,h4⟩
 ·cases h
def SortP[Wd](P:Program)(g:FuncId):Prop:=∀(K:KS) (j:Nat) (rows:List (List AV)) (xs:List Int),kg K j=some (.lst 1 rows)→F7 rows=some xs→xs.length<4611686018427387904 →
 AC P g K [.sl j] (λx K'=>x=.tup []∧K'=K.set j (some (.lst 1 ((Z2 xs).map cI))))
def CompP[Wd](P:Program)(g:FuncId):Prop:=∀(K:KS) (j:Nat) (rows:List (List AV)) (xs:List Int),kg K j=some (.lst 1 rows)→F7 rows=some xs→xs.length<4611686018427387904 →
 AC P g K [.sl j] (λx K'=>x=.sl K.length∧K'=K.set j none++[some (.lst 1 ((J8 xs).map cI))])
theorem Iv:∀{l:List Nat},ndB l=true→l.Nodup
 |[],_=>by simp
 |x::l,h=>by
  simp only[ndB,Bool.and_eq_true,Bool.not_eq_true']at h;rw[List.nodup_cons];exact⟨by simpa using h.1,Iv h.2⟩
def ArP[Wd](P:Program)(D:Orc):Prop:=∀g K args x,D.a g K args=some x→AC P g K args (λv K'=>(v=x.1∧K'.take x.2.length=x.2)∧rok x.2.length x.1=true∧(∀e∈x.2,clE e=true)∧K.length≤x.2.length)
def MrP[Wd](P:Program)(D:Orc):Prop:=∀g K args x,D.m g K args=some x→MC P g K args (·=x)
def LX[Wd](P:Program)(D:Orc):Prop:=(∀g args x,D.p g args=some x→PC P g args (·=x))∧(∀g,D.s g=true→SortP P g)∧(∀g,D.q g=true→CompP P g)∧ArP P D∧MrP P D
theorem jq:∀{K:KS},jh K=true→∀e∈K,Nb e=true
 |[],_,e,he=>by cases he
 |some (.lst n rows)::K,h,e,he=>by
  rcases List.mem_cons.1 he with rfl|he
  ·rfl
  ·exact jq (K:=K) h e he
 |none::K,h,e,he=>by cases h
 |some (.box cs)::K,h,e,he=>by cases h
theorem Ph:∀{K:KS},Nj K=true→∀e∈K,clE e=true
 |[],_,e,he=>by cases he
 |some (.lst n rows)::K,h,e,he=>by
  rcases List.mem_cons.1 he with rfl|he
  ·rfl
  ·exact Ph (K:=K) h e he
 |none::K,h,e,he=>by cases h
 |some (.box cs)::K,h,e,he=>by
  simp only[Nj,Bool.and_eq_true]at h
  rcases List.mem_cons.1 he with rfl|he
  ·exact h.1
  ·exact Ph (K:=K) h.2 e he
theorem wR{s:Operand}(hs:ES s=true)(f:Fr):II (ev f s)=false:=by
 cases s with
 |const v =>
  cases v<;>first|(cases hs;done)|skip
  rename_i a l c;cases a<;>cases l<;>cases c<;>first|rfl|cases hs
 |_=>cases hs
theorem Uv[Wd]{P:Program}{D:Orc}(hD:LX P D){o:Op}{f:Fr}{k:AV→KS→Option β}{l}(h:oop P D o f K k l=some r):Fp P o f K (λv K=>k v K=some r) ():=by
 unfold oop at h;unfold Fp
 split at h
 case h_21 x args _ =>
  simp only;unfold gC at h;unfold aV
  split at h
  ·rename_i g caps hg
   unfold Kt ZE at h;obtain⟨x,hx,h⟩:=Option.bind_eq_some_iff.1 h;simp only[hg];exact⟨_,(hD.1 _ _ _ hx).fix,λy hy=>by rw[hy];exact h⟩
  ·cases h
 all_goals (simp only;unfold xop;simp only)
 case h_1=>exact h
 case h_2=>exact h
 case h_3=>exact tX h
 case h_4=>exact nt h
 case h_5=>exact xi h
 case h_6=>exact m9 h
 case h_7=>exact iW h
 case h_8=>exact WJ h
 case h_9=>exact gN h
 case h_10 =>
  split at h
  ·rename_i hn
   obtain⟨hm,h⟩:=Js h;rw[if_pos hn];exact B5 hm (ob h)
  ·rename_i hn
   rw[if_neg hn];exact y0 h
 case h_11=>exact QbM h
 case h_12 =>
  split at h
  ·rename_i hb;rw[if_pos hb];exact tV h
  ·rename_i hb
   obtain⟨hm,h⟩:=Js h;rw[if_neg hb];exact B5 hm (si h)
 case h_13 =>
  obtain⟨hm,h⟩:=Js h;exact B5 hm (h)
 case h_14=>exact ve h
 case h_15=>exact wa h
 case h_16=>exact vV h
 case h_17 =>
  split at h
  ·rename_i h1 h2;simp only[h1,h2];exact u7 h
  ·cases h
 case h_18 =>
  split at h
  ·rename_i h1 h2
   obtain⟨⟨hm,hn⟩,h⟩:=Js h;simp only[h1,h2];refine⟨λhc=>?_,B5 hm (iy h)⟩
   rename_i s x _ _ _ _;have hs:ES s=true:=hc;rw[hs]at hn;have hs2:II (ev f s)=false:=wR hs f;have hx2:II (ev f x)=false:=hn;simp[hs2,hx2]
  ·cases h
 case h_19 =>
  split at h
  ·rename_i h1;simp only[h1];exact yb h
  ·cases h
 case h_20 =>
  split at h
  ·rename_i h1;simp only[h1];exact wC h
  ·cases h
 case h_22=>exact px h
 case h_23=>exact vG h
 case h_24=>exact ym h
 case h_25 =>
  unfold qC at h;unfold yc
  split at h
  ·rename_i hv
   simp only[hv];unfold lU at h
   split at h
   ·rename_i hj;simp only[hj];exact h
   ·cases h
  ·rename_i hv
   simp only[hv];exact h
  ·cases h
 case h_26=>exact xS h
 case h_27=>cases h
theorem jK[Wd]{P:Program}{D:Orc}(hD:LX P D){o:Op}{f:Fr}{K:KS}{k:AV→KS→Option β}{k':AV→KS→Prop}{l}(h:FQ P D o f K k l=some r)(hk:∀v K,k v K=some r→k' v K):xop P o f K k' ():=by
 unfold FQ at h
 split at h
 ·rename_i x args ts _
  show aV (ev f x) (λg caps=>SC P g K (args.toList.map (ev f)++caps) k' ()) ()
  unfold gC at h;unfold aV
  split at h
  ·rename_i g caps hg
   simp only[hg];simp only at h;cases hs:D.s g with
   |false =>
    rw[hs]at h;have h:cond (D.q g) (Ui K (args.toList.map (ev f)++caps) k ()) (cond (D.w g) (Sn D g K (args.toList.map (ev f)++caps) k ()) (cond (D.v g) (Ob D g K (args.toList.map (ev f)++caps) k ()) (Kt D g K (args.toList.map (ev f)++caps) k ())))=some r:=h;cases hq:D.q g with
    |false =>
     rw[hq]at h;have h:cond (D.w g) (Sn D g K (args.toList.map (ev f)++caps) k ()) (cond (D.v g) (Ob D g K (args.toList.map (ev f)++caps) k ()) (Kt D g K (args.toList.map (ev f)++caps) k ()))=some r:=h;cases hw:D.w g with
     |false =>
      rw[hw]at h;have h:cond (D.v g) (Ob D g K (args.toList.map (ev f)++caps) k ()) (Kt D g K (args.toList.map (ev f)++caps) k ())=some r:=h;cases hv:D.v g with
      |false =>
       rw[hv]at h;have h':Kt D g K (args.toList.map (ev f)++caps) k ()=some r:=h;unfold Kt ZE at h';obtain⟨x,hx,h'⟩:=Option.bind_eq_some_iff.1 h';exact .inl ⟨_,(hD.1 _ _ _ hx).fix,λy hy=>by rw[hy];exact hk _ _ h'⟩
      |true =>
       rw[hv]at h;have h':Ob D g K (args.toList.map (ev f)++caps) k ()=some r:=h;unfold Ob Ty at h';obtain⟨h1,h2⟩:=VQ h';unfold TM at h2
       split at h2
       ·rename_i cs hcs
        obtain⟨h3,h4⟩:=VQ h2;unfold ZE at h4;obtain⟨x,hx,h5⟩:=Option.bind_eq_some_iff.1 h4;have hls:∀j∈HN (args.toList.map (ev f)++caps),Nb (kg K j)=true:=λj hj=>jq h3 _ (by unfold Zs;exact List.mem_map_of_mem hj)
        exact .inr ⟨_,MC.sub (Iv h1) hls (hD.2.2.2.2 _ _ _ _ hx) hcs,λv K' ⟨hv,hK⟩=>by rw[hv,hK];exact hk _ _ h5⟩
       ·cases h2
     |true =>
      rw[hw]at h;have h':Sn D g K (args.toList.map (ev f)++caps) k ()=some r:=h;unfold Sn TS at h';obtain⟨h1,h2⟩:=VQ h';unfold TE at h2
      split at h2
      ·rename_i cs hcs
       obtain⟨h3,h4⟩:=VQ h2;unfold ZE at h4;obtain⟨x,hx,h5⟩:=Option.bind_eq_some_iff.1 h4;have x4:=hD.2.2.2.1 _ _ _ _ hx;have hlen:(Zs K (HN (args.toList.map (ev f)++caps))).length=(HN (args.toList.map (ev f)++caps)).length:=by simp[Zs]
       rw[hlen]at x4;have hls:∀j∈HN (args.toList.map (ev f)++caps),clE (kg K j)=true:=λj hj=>Ph h3 _ (by unfold Zs;exact List.mem_map_of_mem hj)
       exact .inr ⟨_,AC.subB (Iv h1) hls x4 hcs,λv K' ⟨hv,hK⟩=>by rw[hv,hK];exact hk _ _ h5⟩
      ·cases h2
    |true =>
     rw[hq]at h;have h':Ui K (args.toList.map (ev f)++caps) k ()=some r:=h;unfold Ui at h'
     split at h'
     ·rename_i j hv
      rw[hv]
      split at h'
      ·rename_i rows hj
       split at h'
       ·rename_i xs hxs
        obtain⟨h1,h2⟩:=VQ h';exact .inr ⟨_,hD.2.2.1 g hq K j rows xs hj hxs (by simpa using h1),λx K' ⟨hx,hK⟩=>by rw[hx,hK];exact hk _ _ h2⟩
       ·cases h'
      ·cases h'
     ·cases h'
   |true =>
    rw[hs]at h;have h':Y7 K (args.toList.map (ev f)++caps) k ()=some r:=h;unfold Y7 at h'
    split at h'
    ·rename_i j hv
     rw[hv]
     split at h'
     ·rename_i rows hj
      split at h'
      ·rename_i xs hxs
       obtain⟨h1,h2⟩:=VQ h';exact .inr ⟨_,hD.2.1 g hs K j rows xs hj hxs (by simpa using h1),λx K' ⟨hx,hK⟩=>by rw[hx,hK];exact hk _ _ h2⟩
      ·cases h'
     ·cases h'
    ·cases h'
  ·cases h
 ·exact Ix (Ci (Uv hD h) hk)
theorem LW[Wd]{P:Program}{D:Orc}(hD:LX P D){ops:Array Oper}:∀(l:List Oper) {f:Fr} {K:KS} {k:Fr→KS→Option β},Kv P D ops l f K k ()=some r→Mu P ops l f K (λf K=>k f K=some r) ()
 |[],f,K,k,h=>h
 |o::l,f,K,k,h=>by
  unfold Kv at h;unfold Mu
  split at h
  ·rename_i hg
   simp only[hg];refine jK hD h λv K' h=>?_
   unfold Ip at h;unfold Fu
   split at h
   ·rename_i d hd;simp only[hd];exact LW hD l h
   ·rename_i hd;simp only[hd];exact LW hD l h
  ·cases h
theorem jD{α:Type}:∀{l:List α} {o:Nat} {c:α} {cs:List α},l.drop o=c::cs→l[o]?=some c
 |[],o,c,cs,h=>by simp at h
 |x::l,0,c,cs,h=>by simp at h;simp[h.1]
 |x::l,o+1,c,cs,h=>by simp at h;simpa using jD h
theorem QbE[Wd]{P:Program}{D:Orc}(hD:LX P D){f:Fr}{K:KS}{p x:AV}{g:FuncId}{k:AV→KS→Option β}{l}(h:onp D f K p x g k l=some r) :
  ∃j i o q m m' rows rs rs' rv,p=.ptr j i o∧kg K j=some (.lst q rows)∧(Va rows i)[o]?=some (.own m rs)∧x.scal=true ∧
   AC P g [some (.lst m rs)] [.sl 0,x] (λv K'=>(v=rv∧K'.take 1=[some (.lst m' rs')])∧rv.flat=true)∧k rv (YL K j i o q m' rows rs')=some r:=by
 unfold onp at h
 split at h
 ·rename_i j i o
  unfold onj at h
  split at h
  ·rename_i q rows hj
   unfold onx at h
   split at h
   ·rename_i m rs cs hcs
    obtain⟨h1,h2⟩:=VQ h;unfold ZE at h2;obtain⟨y,hy,h3⟩:=Option.bind_eq_some_iff.1 h2;unfold onr at h3
    split at h3
    ·rename_i m' rs' hy2
     obtain⟨h4,h5⟩:=VQ h3;have y4:=hD.2.2.2.1 _ _ _ _ hy;rw[hy2]at y4;simp only[Bool.and_eq_true]at h4;exact⟨j,i,o,q,m,m',rows,rs,rs',y.1,rfl,hj,jD hcs,h1,y4.mono λv K' ⟨z1,z2,_⟩=>⟨z1,h4.1⟩,h5⟩
    ·cases h3
   ·cases h
  ·cases h
 ·cases h
theorem WE[Wd]{P:Program}{D:Orc}(hD:LX P D){ops:Array Oper}:∀(us:List Nat) (l:List Oper) {f:Fr} {K:KS} {k:Fr→KS→Option β},M9 P D ops us l f K k ()=some r→Na P ops us l f K (λf K=>k f K=some r)
 |_::us,o::l,f,K,k,h=>by
  unfold M9 at h;unfold Na
  split at h
  ·rename_i hg
   refine⟨hg,Ix (Ci (Uv hD h) λv K' h=>?_)⟩
   unfold Ip at h;unfold Fu
   split at h
   ·rename_i d hd;simp only[hd];exact WE hD us l h
   ·rename_i hd;simp only[hd];exact WE hD us l h
  ·cases h
 |_::_,[],f,K,k,h=>by unfold M9 at h;cases h
 |[],l,f,K,k,h=>by
  unfold M9 at h
  split at h
  ·rename_i he;cases he
  ·rename_i _ _ d t p _ _ _ e x _ _ _ dst g args ts _ _ _ l' _
   split at h
   ·rename_i d' e' hargs
    obtain⟨h1,h2⟩:=VQ h;simp only[Bool.and_eq_true,Bool.not_eq_true']at h1;obtain⟨ht,hd',he',hde⟩:=h1;obtain⟨j,i,o,q,m,m',rows,rs,rs',rv,q1,q2,q3,q4,q6,q7⟩:=QbE hD h2;have e1:d=d':=Nat.eq_of_beq_eq_true hd';have e2:e=e':=Nat.eq_of_beq_eq_true he';subst e1 e2;have ea:args=#[.tmp d,.tmp e]:=Array.toList_inj.1 hargs;subst ea;unfold Na;refine⟨d,e,t,p,x,g,ts,j,i,o,q,m,m',rows,rs,rs',rv,⟨rfl,rfl,rfl⟩,⟨rfl,rfl,rfl⟩,⟨rfl,rfl⟩,(λhh=>by subst hh;rw[Nat.beq_refl]at hde;cases hde),?_,q1,q2,q3,q4,q6,?_⟩
    ·revert ht
     cases tk P t<;>intro ht<;>first|rfl|cases ht
    ·unfold Ip at q7
     unfold Fu
     split at q7
     ·exact LW hD _ q7
     ·exact LW hD _ q7
   ·cases h
  ·cases h
theorem PE[Wd]{P:Program}{D:Orc}(hD:LX P D){ops:Array Oper}:∀(l:List Oper) {f:Fr} {K:KS} {k:Fr→KS→Option β},Gg P D ops l f K k ()=some r→Kb P ops l f K (λf K=>k f K=some r)
 |[],f,K,k,h=>h
 |o::l,f,K,k,h=>by
  unfold Gg at h;unfold Kb;refine C7.2 ?_;have yes:∀{f},oop P D o.op f K (λv K'=>Ip o.dst v f (λf=>Gg P D ops l f K' k ()) ()) ()=some r→Fp P o.op f K (λv K'=>Kb P ops l (Al f o.dst v) K' (λf K=>k f K=some r)) ():=λ{f} h =>
   Ci (Uv hD h) λv K' h=>PE hD l (by
    unfold Ip at h;unfold Al;cases hd:o.dst with
    |none=>simp only[hd]at h;exact h
    |some d=>simp only[hd]at h;exact h)
  have no:∀{f},Ip o.dst (.tup []) f (λf=>Gg P D ops l f K k ()) ()=some r→Kb P ops l (Al f o.dst (.tup [])) K (λf K=>k f K=some r):=λ{f} h=>PE hD l (by
    unfold Ip at h;unfold Al;cases hd:o.dst with
    |none=>simp only[hd]at h;exact h
    |some d=>simp only[hd]at h;exact h)
  unfold gd
  split at h
  ·rename_i hg;simp only[hg];exact yes h
  ·rename_i j want hg
   simp only[hg];unfold ogd at h
   split at h
   ·rename_i d hj
    simp only[hj]
    split at h
    ·rename_i b hb
     simp only[hb];have e1:up f d (.b b)=f:=aL f d _ hb;cases b<;>cases want<;>simp at h ⊢<;>rw[e1]at h
     ·exact yes h
     ·exact no h
     ·exact no h
     ·exact yes h
    ·rename_i hb
     simp only[hb];exact no h
    ·cases h
   ·cases h
theorem xx[Wd]{vs:List Nat}{P:Program}{D:Orc}(hD:LX P D){o:Op}{f:Fr}{K:KS}{k:AV→KS→Option β}{k':AV→KS→Prop}{l}(h:SV vs P D o f K k l=some r)(hk:∀v K,k v K=some r→k' v K):PX vs P o f K k':=by
 have key:(∃g args ts,o=.call ⟨.value (.func g),args,ts⟩)∨(vOp vs o=false∧SV vs P D o f K k l=oop P D o f K k ()):=by
  cases o with
  |call c =>
   obtain⟨cal,args,ts⟩:=c;cases cal with
   |value x =>
    cases x with
    |func g=>exact .inl ⟨g,args,ts,rfl⟩
    |_=>exact .inr ⟨rfl,rfl⟩
   |_=>exact .inr ⟨rfl,rfl⟩
  |_=>exact .inr ⟨rfl,rfl⟩
 unfold PX
 rcases key with⟨g,args,ts,rfl⟩|⟨hv,he⟩
 ·have h:cond (vs.contains g) (FQ P D (.call ⟨.value (.func g),args,ts⟩) f K k ()) (oop P D (.call ⟨.value (.func g),args,ts⟩) f K k ())=some r:=h
  have hv:vOp vs (.call ⟨.value (.func g),args,ts⟩)=vs.contains g:=rfl;rw[hv];cases hc:vs.contains g with
  |true =>
   rw[hc]at h;rw[if_pos rfl];exact jK (l:=()) hD h hk
  |false =>
   rw[hc]at h;rw[if_neg (by simp)]
   exact Ci (Uv (l:=()) hD h) hk
 ·rw[he]at h
  rw[hv,if_neg (by simp)]
  exact Ci (Uv (l:=()) hD h) hk
theorem LT[Wd]{vs:List Nat}{P:Program}{D:Orc}(hD:LX P D){ops:Array Oper}:∀(l:List Oper) {f:Fr} {K:KS} {k:Fr→KS→Option β},BX vs P D ops l f K k ()=some r→P9 vs P ops l f K (λf K=>k f K=some r)
 |[],f,K,k,h=>h
 |o::l,f,K,k,h=>by
  unfold BX at h;unfold P9 Gb;have yes:∀{f},SV vs P D o.op f K (λv K'=>Ip o.dst v f (λf=>BX vs P D ops l f K' k ()) ()) ()=some r→PX vs P o.op f K (λv K'=>P9 vs P ops l (Al f o.dst v) K' (λf K=>k f K=some r)):=λ{f} h =>
   xx hD h λv K' h=>LT hD l (by
    unfold Ip at h;unfold Al;cases hd:o.dst with
    |none=>simp only[hd]at h;exact h
    |some d=>simp only[hd]at h;exact h)
  have no:∀{f},Ip o.dst (.tup []) f (λf=>BX vs P D ops l f K k ()) ()=some r→P9 vs P ops l (Al f o.dst (.tup [])) K (λf K=>k f K=some r):=λ{f} h=>LT hD l (by
    unfold Ip at h;unfold Al;cases hd:o.dst with
    |none=>simp only[hd]at h;exact h
    |some d=>simp only[hd]at h;exact h)
  unfold gd
  split at h
  ·rename_i hg;simp only[hg];exact yes h
  ·rename_i j want hg
   simp only[hg];unfold ogd at h
   split at h
   ·rename_i d hj
    simp only[hj]
    split at h
    ·rename_i b hb
     simp only[hb];have e1:up f d (.b b)=f:=aL f d _ hb;cases b<;>cases want<;>simp at h ⊢<;>rw[e1]at h
     ·exact yes h
     ·exact no h
     ·exact no h
     ·exact yes h
    ·rename_i hb
     simp only[hb];exact no h
    ·cases h
   ·cases h
theorem fC[Wd]{P:Program}{ops:Array Oper}:∀(l:List Oper) {f:Fr} {K:KS} {k:Fr→KS→Prop},Kb P ops l f K k→Mu P ops l f K k ()
 |[],f,K,k,h=>h
 |o::l,f,K,k,h=>by
  unfold Kb Ga at h;unfold Mu;have st:∀{f:Fr} {K:KS} {d:Option Tmp} {v:AV},Fu d v f (λf=>Kb P ops l f K k) ()→Fu d v f (λf=>Mu P ops l f K k ()) ():=λ{f K d v} h=>by
   rw[OR]at h ⊢;exact fC l h
  have yes:∀{f},Fp P o.op f K (λv K'=>Fu o.dst v f (λf=>Kb P ops l f K' k) ()) ()→xop P o.op f K (λv K'=>Fu o.dst v f (λf=>Mu P ops l f K' k ()) ()) ():=λ{f} h =>
   Ix (Ci h λv K' h=>st h)
  split at h
  ·rename_i hg;try simp only[hg]
   exact yes h
  ·rename_i j want hg
   try simp only[hg]
   unfold xgd at h ⊢
   split at h
   ·rename_i d hj
    try simp only[hj]
    split at h
    ·rename_i b hb
     unfold XBr at h ⊢;refine⟨λhx=>?_,λhx=>?_⟩
     ·have:=h.1 hx
      cases want
      ·exact st this
      ·exact yes this
     ·have:=h.2 hx
      cases want
      ·exact yes this
      ·exact st this
    ·rename_i hb
     exact st h
    ·exact h.elim
   ·exact h.elim
end
end Go.Proofs.YtoilkmgiofimjaaGreatDoor.Am
