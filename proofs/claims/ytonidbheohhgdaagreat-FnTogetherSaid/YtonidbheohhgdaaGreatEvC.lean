import Derived.Test.YtonidbheohhgdaaGreatEvA
namespace Go.Proofs.YtonidbheohhgdaaGreat.Am
open Go
set_option linter.unusedVariables false
set_option linter.unusedSimpArgs false
section
variable{β:Type}{r:β}
theorem Q9{b:Bool}{q:Option β}{l}(h:Vf b q l=some r):b=true∧q=some r:=by
 cases b with
 |false=>cases h
 |true=>exact⟨rfl,h⟩
theorem Quc{b:Bool}{p q:Option β}(h:cond b p q=some r):(b=true→p=some r)∧(b=false→q=some r):=by
 cases b with
 |false=>exact⟨fun h'=>by (cases h'),fun _=>h⟩
 |true=>exact⟨fun _=>h,fun h'=>by cases h'⟩
theorem Xj{p:Prop}[Decidable p]{q:Option β}(h:(if p then q else none)=some r):p∧q=some r:=by
 by_cases hp:p
 ·rw[if_pos hp]at h;exact⟨hp,h⟩
 ·rw[if_neg hp]at h;cases h
theorem ZQ{p:Prop}[Decidable p]{q:Prop}(hp:p)(hq:q):(if p then q else False):=by rw[if_pos hp];exact hq
theorem QAU(a b:Int):(a==b)=decide (a=b):=by by_cases h:a=b<;>simp[h]
theorem Qzh(a b:Int):(a != b)=!decide (a=b):=by by_cases h:a=b<;>simp[h]
theorem QzD(a b:List UInt8):(a==b)=decide (a=b):=by by_cases h:a=b<;>simp[h]
theorem QBc(a b:List UInt8):(a != b)=!decide (a=b):=by by_cases h:a=b<;>simp[h]
theorem QsK{te:Option (List CK)}{xs ys:List AV}{k:Bool→Option β}{l}(h:Qzn te xs ys k l=some r):QnY te xs ys (fun v=>k v=some r) ():=by
 unfold Qzn at h;unfold QnY
 split at h
 ·split at h
  ·rename_i hb;simp only[hb];exact h
  ·cases h
 ·cases h
theorem Qza{t:TI}{x:AV}{lo hi:Option AV}{k:AV→Option β}{l}(h:Qg4 t x lo hi k l=some r):Qqr t x lo hi (fun v=>k v=some r) ():=by
 unfold Qg4 at h;unfold Qqr
 split at h
 ·obtain⟨hm,h⟩:=Xj h
  simp only;rw[if_pos hm]
  split at h
  ·rename_i h1 h2
   simp only[h1,h2];obtain⟨h3,h4⟩:=Q9 h;exact⟨by simpa[slB]using h3,h4⟩
  ·cases h
 ·simp only
  split at h
  ·rename_i h1 h2
   simp only[h1,h2];obtain⟨h3,h4⟩:=Q9 h;exact⟨by simpa[slB]using h3,h4⟩
  ·cases h
 ·cases h
theorem QyO{t:TI}{x i:AV}{k:AV→Option β}{l}(h:QxL t x i k l=some r):QqQ t x i (fun v=>k v=some r) ():=by
 unfold QxL at h;unfold QqQ
 split at h
 ·obtain⟨h3,h4⟩:=Q9 h
  exact⟨Qcc.1 h3,h4⟩
 ·cases h
theorem QBg{te:Option (List CK)}{op:BinOp}{x y:AV}{k:AV→Option β}{l}(h:JL te op x y k l=some r):QpI te op x y (fun v=>k v=some r) ():=by
 unfold JL at h;unfold QpI
 split at h
 ·simp only
  split at h
  ·exact QsK h
  ·exact QsK h
  ·cases h
 ·simp only
  split at h
  ·exact h
  ·exact h
  ·cases h
 ·simp only
  split at h
  ·rename_i hs
   rw[if_pos hs];obtain⟨h1,h2⟩:=Q9 h;exact⟨by simpa using h1,h2⟩
  rename_i hs;rw[if_neg hs];obtain⟨hc,h⟩:=Xj h;rw[if_pos hc]
  split at h<;>simp only<;>first
   |exact h
   |(rw[QAU];exact h)
   |(rw[Qzh];exact h)
   |(obtain⟨h1,h2⟩:=Q9 h;exact⟨by simpa using h1,h2⟩)
   |cases h
 ·simp only
  split at h<;>simp only<;>first
   |(rw[QzD];exact h)
   |(rw[QBc];exact h)
   |(obtain⟨h1,h2⟩:=Q9 h;exact⟨by simpa using h1,h2⟩)
   |cases h
 ·cases h
theorem QEd{op:UnOp}{x:AV}{k:AV→Option β}{l}(h:oun op x k l=some r):xun op x (fun v=>k v=some r) ():=by
 unfold oun at h;unfold xun
 split at h
 ·exact h
 ·exact h
 ·cases h
theorem Qxr{c x y:AV}{k:AV→Option β}{l}(h:Qlq c x y k l=some r):Qkl c x y (fun v=>k v=some r) ():=by
 unfold Qlq at h;unfold Qkl
 split at h
 ·rename_i b
  cases b with
  |true=>exact h
  |false=>exact h
 ·cases h
variable{K:KS}
theorem QzK{t:TI}{x:AV}{k:AV→Option β}{l}(h:Qp2 K t x k l=some r):Qqt K t x (fun v=>k v=some r) ():=by
 unfold Qp2 at h;unfold Qqt
 split at h
 ·exact h
 ·exact h
 ·split at h
  ·rename_i e he;simp only[he];exact h
  ·cases h
 ·exact h
 ·exact h
 ·cases h
theorem QAA{x:AV}{o:Option (Nat×TK)}{k:AV→Option β}{l}(h:Qvk K x o k l=some r):Qpi K x o (fun v=>k v=some r) ():=by
 unfold Qvk at h;unfold Qpi
 split at h
 ·split at h
  ·rename_i e he;simp only[he];exact h
  ·cases h
 ·exact h
 ·cases h
theorem QAp{t:TI}{x i:AV}{k:AV→Option β}{l}(h:Qo7 K t x i k l=some r):Qo0 K t x i (fun v=>k v=some r) ():=by
 unfold Qo7 at h;unfold Qo0
 split at h
 ·obtain⟨hm,h⟩:=Xj h
  obtain⟨h1,h2⟩:=Q9 h;exact ZQ hm ⟨Qcc.1 h1,h2⟩
 ·split at h
  ·rename_i e he
   obtain⟨hm,h⟩:=Xj h;simp only[he];obtain⟨h1,h2⟩:=Q9 h;exact ZQ hm ⟨Qcc.1 h1,h2⟩
  ·cases h
 ·split at h
  ·rename_i e he
   simp only[he];obtain⟨h1,h2⟩:=Q9 h;exact⟨by simpa[Qub]using h1,h2⟩
  ·cases h
 ·cases h
theorem Qmh{t:TK}{cs:List AV}{k:AV→Option β}{l}(h:QfH t cs k l=some r):QeN t cs (fun v=>k v=some r) ():=by
 unfold QfH at h;unfold QeN
 split at h
 ·split at h
  ·exact h
  ·cases h
 ·obtain⟨hm,h⟩:=Xj h
  exact ZQ hm (h)
 ·cases h
theorem QsG{cs:List AV}{o:Nat}{t:TK}{v:AV}{ok:AV→Bool}{k:List AV→Option β}{l}(h:Qg6 cs o t v ok k l=some r):QoT cs o t v ok (fun v=>k v=some r) ():=by
 unfold Qg6 at h;unfold QoT
 split at h
 ·obtain⟨hm,h⟩:=Xj h
  exact ZQ hm (h)
 ·obtain⟨hm,h⟩:=Xj h
  exact ZQ hm (h)
 ·cases h
theorem QjL{t:TK}{p v:AV}{k:KS→Option β}{l}(h:Qjv K t p v k l=some r):Qe7 K t p v (fun K=>k K=some r) ():=by
 unfold Qjv at h;unfold Qe7
 split at h
 ·split at h
  ·rename_i cs hj
   simp only[hj];obtain⟨hm,h⟩:=Xj h;exact ZQ hm (QsG h)
  ·rename_i n rows hj
   simp only[hj];obtain⟨hm,h⟩:=Xj h;exact ZQ hm (QsG h)
  ·cases h
 ·cases h
theorem Qrk{t:TK}{j i o n:Nat}{rows:List (List AV)}{v:AV}{k:KS→Option β}{l}{ns:List Nat}(h:Qh5 ns K t j i o n rows v k l=some r):Qd6 ns K t j i o n rows v (fun K=>k K=some r) ():=by
 unfold Qh5 at h;unfold Qd6;obtain⟨hm,h⟩:=Xj h;rw[if_pos hm]
 split at h
 ·rename_i K1 ds hab
  obtain⟨hc,h⟩:=Xj h;simp only[hab];exact ZQ hc h
 ·cases h
theorem QrE{fl:Bool}{t:TK}{p v:AV}{k:KS→Option β}{l}{ns:List Nat}(h:Qif fl ns K t p v k l=some r):ZO fl ns K t p v (fun K=>k K=some r) ():=by
 unfold Qif at h;unfold ZO
 split at h
 ·split at h
  ·rename_i n rows hj
   simp only[hj]
   split at h
   ·rename_i hc;rw[if_pos hc];exact QjL h
   ·rename_i hc
    rw[if_neg hc];obtain⟨hf,h⟩:=Xj h;exact ZQ hf (Qrk h)
  ·rename_i hj
   cases hk:kg K _ with
   |none=>simp only[hk];exact QjL h
   |some e =>
    cases e with
    |box cs=>simp only[hk];exact QjL h
    |lst n rows=>exact absurd hk (hj n rows)
 ·cases h
theorem QAX{v:AV}{k:AV→KS→Option β}{l}(h:Qro K v k l=some r):Qul K v (fun v K=>k v K=some r) ():=by
 unfold Qro at h;unfold Qul
 split at h
 ·obtain⟨hm,h⟩:=Xj h
  exact ZQ hm h
 ·rename_i hn
  obtain⟨hm,h⟩:=Xj h;cases v with
  |agg cs=>exact absurd rfl (hn cs)
  |_=>exact ZQ hm h
theorem QuF{z:Option (List AV)}{k:AV→KS→Option β}{l}(h:QlM K z k l=some r):QjU K z (fun v K=>k v K=some r) ():=by
 unfold QlM at h;unfold QjU
 split at h
 ·exact h
 ·cases h
theorem Qvp{t:TB}{parts:List (Nat×AV)}{k:AV→Option β}{l}(h:QjW K t parts k l=some r):Qf6 K t parts (fun v=>k v=some r) ():=by
 unfold QjW at h;unfold Qf6
 split at h
 ·split at h
  ·rename_i cs hc;simp only[hc];exact h
  ·cases h
 ·split at h
  ·rename_i cs hc;simp only[hc];exact h
  ·cases h
 ·cases h
theorem Qrw{t:Option (TypeId×Nat×List AV)}{len:Nat}{parts:List (Nat×AV)}{k:AV→KS→Option β}{l}{fl:Bool}{ns:List Nat}(h:QgA fl ns K t len parts k l=some r):(fl=true→QqM K t len parts=true)∧QbA ns K t len parts (fun v K=>k v K=some r) ():=by
 unfold QgA at h;unfold QbA QqM;cases t with
 |none=>cases h
 |some q =>
  obtain⟨e,m,z⟩:=q;simp only at h ⊢;by_cases h0:len=0
  ·rw[if_pos h0]at h ⊢
   subst h0;cases parts with
   |nil=>exact⟨fun _=>by simp[Qau,Qc0,noS],h⟩
   |cons _ _=>cases h
  ·rw[if_neg h0]at h ⊢
   obtain⟨hm,h⟩:=Xj h;rw[if_pos hm];cases hx:Qau K (fun i=>some (i*m,m)) (Qc0 len z) parts with
   |none=>rw[hx]at h;cases h
   |some cs =>
    rw[hx]at h;simp only at h ⊢;cases hf:yB fl cs with
    |false=>rw[hf]at h;cases h
    |true =>
     rw[hf]at h;simp only[cond_true]at h;refine⟨fun hfl=>?_,?_⟩
     ·rw[hfl]at hf;exact hf
     ·cases ha:Vj K cs with
      |none=>rw[ha]at h;cases h
      |some q =>
       obtain⟨K1,ds⟩:=q;rw[ha]at h;exact h
theorem Qy9{v:AV}{i:Nat}{k:AV→Option β}{l}(h:QwA v i k l=some r):QpK v i (fun v=>k v=some r) ():=by
 unfold QwA at h;unfold QpK
 split at h
 ·split at h
  ·rename_i c hc;simp only[hc];exact h
  ·cases h
 ·cases h
theorem QAK{o:Option (Nat×TK)}{x:AV}{k:AV→Option β}{l}(h:QxG o x k l=some r):QqS o x (fun v=>k v=some r) ():=by
 unfold QxG at h;unfold QqS QqB
 split at h
 ·exact Qmh h
 ·cases h
theorem Qq3{t:Option (TypeId×Nat×List AV)}{b:Option Nat}{s x:AV}{k:AV→KS→Option β}{l}(h:QkW K t b s x k l=some r):Qdu K t b s x (fun v K=>k v K=some r) ():=by
 unfold QkW at h;unfold Qdu
 split at h
 ·simp only
  split at h
  ·rename_i rows K1 hs
   simp only[hs]
   split at h
   ·split at h
    ·rename_i n rows hj
     simp only[hj];obtain⟨hm,h⟩:=Xj h;obtain⟨h1,h2⟩:=Q9 h;exact ZQ hm ⟨by simpa using h1,h2⟩
    ·cases h
   ·obtain⟨h1,h2⟩:=Q9 h
    exact⟨by simpa using h1,h2⟩
   ·cases h
  ·cases h
 ·cases h
theorem QBp{x y:AV}{k:AV→Option β}{l}(h:Qxj x y k l=some r):Qp8 x y (fun v=>k v=some r) ():=by
 unfold Qxj at h;unfold Qp8
 split at h
 ·exact h
 ·cases h
theorem Qzd{x y:AV}{k:AV→Option β}{l}(h:QwW x y k l=some r):QqA x y (fun v=>k v=some r) ():=by
 unfold QwW at h;unfold QqA
 split at h
 ·exact h
 ·cases h
theorem Qwq{t:TI}{x:AV}{k:AV→Option β}{l}(h:Qpp t x k l=some r):Qkb t x (fun v=>k v=some r) ():=by
 unfold Qpp at h;unfold Qkb
 split at h
 ·exact h
 ·cases h
theorem Qv8{K:KS}{t:TI}{x:AV}{k:AV→Option β}{l}(h:QqD K t x k l=some r):Qio K t x (fun v=>k v=some r) ():=by
 unfold QqD at h;unfold Qio
 split at h
 ·split at h
  ·rename_i h1
   split at h
   ·rename_i h2;simp only[h1,h2];exact h
   ·cases h
  ·cases h
 ·cases h
theorem QuW{op:BinOp}{x:AV}{k:AV→Option β}{l}(h:QjO op x k l=some r):Qgu op x (fun v=>k v=some r) ():=by
 have key:∀{b:Bool} {x y:Option β},Qky b x y=some r→(b=true→x=some r)∧y=some r:=by
  intro b x y h;unfold Qky at h;cases b with
  |false=>exact⟨fun h=>(by cases h),h⟩
  |true =>
   simp only[cond_true,oeq]at h
   split at h
   ·rename_i he;exact⟨fun _=>h,by rw[←he];exact h⟩
   ·cases h
 unfold QjO at h;unfold Qgu
 split at h
 ·exact key h
 ·exact key h
 ·cases h
theorem Qwj{t:Option (TypeId×Nat×List AV)}{b:Option Nat}{x c:AV}{k:AV→KS→Option β}{l}{ns:List Nat}(h:QtB ns K t b x c k l=some r):Qm6 ns K t b x c (fun v K=>k v K=some r) ():=by
 unfold QtB at h;unfold Qm6
 split at h
 ·simp only
  obtain⟨h1,h2⟩:=Q9 h;obtain⟨h3,h4⟩:=Q9 h2;rw[if_pos (by simpa using h1)]
  exact⟨by simpa[mkB]using h3,h4⟩
 ·cases h
def SortP[Wd](P:Program)(g:FuncId):Prop:=∀(K:KS) (j:Nat) (rows:List (List AV)) (xs:List Int),kg K j=some (.lst 1 rows)→Qcd rows=some xs→xs.length<4611686018427387904 →
 AC P g K [.sl j] (fun x K'=>x=.tup []∧K'=K.set j (some (.lst 1 ((VZ xs).map cI))))
def CompP[Wd](P:Program)(g:FuncId):Prop:=∀(K:KS) (j:Nat) (rows:List (List AV)) (xs:List Int),kg K j=some (.lst 1 rows)→Qcd rows=some xs→xs.length<4611686018427387904 →
 AC P g K [.sl j] (fun x K'=>x=.sl K.length∧K'=K.set j none++[some (.lst 1 ((Xd xs).map cI))])
theorem QeU:∀{l:List Nat},ndB l=true→l.Nodup
 |[],_=>by simp
 |x::l,h=>by
  simp only[ndB,Bool.and_eq_true,Bool.not_eq_true']at h;rw[List.nodup_cons];exact⟨by simpa using h.1,QeU h.2⟩
def ArP[Wd](P:Program)(D:Orc):Prop:=∀g K args x,D.a g K args=some x→AC P g K args (fun v K'=>(v=x.1∧K'.take x.2.length=x.2)∧rok x.2.length x.1=true∧(∀e∈x.2,clE e=true)∧K.length≤x.2.length)
def MrP[Wd](P:Program)(D:Orc):Prop:=∀g K args x,D.m g K args=some x→MC P g K args (·=x)
def Qf1[Wd](P:Program)(D:Orc):Prop:=(∀g args x,D.p g args=some x→PC P g args (·=x))∧(∀g,D.s g=true→SortP P g)∧(∀g,D.q g=true→CompP P g)∧ArP P D∧MrP P D
theorem Qt4:∀{K:KS},Qr1 K=true→∀e∈K,Qhd e=true
 |[],_,e,he=>by cases he
 |some (.lst n rows)::K,h,e,he=>by
  rcases List.mem_cons.1 he with rfl|he
  ·rfl
  ·exact Qt4 (K:=K) h e he
 |none::K,h,e,he=>by cases h
 |some (.box cs)::K,h,e,he=>by cases h
theorem Qja:∀{K:KS},QhS K=true→∀e∈K,clE e=true
 |[],_,e,he=>by cases he
 |some (.lst n rows)::K,h,e,he=>by
  rcases List.mem_cons.1 he with rfl|he
  ·rfl
  ·exact Qja (K:=K) h e he
 |none::K,h,e,he=>by cases h
 |some (.box cs)::K,h,e,he=>by
  simp only[QhS,Bool.and_eq_true]at h
  rcases List.mem_cons.1 he with rfl|he
  ·exact h.1
  ·exact Qja (K:=K) h.2 e he
theorem QAL{s:Operand}(hs:Qbh s=true)(f:Fr):Qe2 (ev f s)=false:=by
 cases s with
 |const v =>
  cases v<;>first|(cases hs;done)|skip
  rename_i a l c;cases a<;>cases l<;>cases c<;>first|rfl|cases hs
 |_=>cases hs
theorem QmE[Wd]{P:Program}{D:Orc}(hD:Qf1 P D){o:Op}{f:Fr}{k:AV→KS→Option β}{l}(h:oop P D o f K k l=some r):QbM P o f K (fun v K=>k v K=some r) ():=by
 unfold oop at h;unfold QbM
 split at h
 case h_21 x args _ =>
  simp only;unfold QrR at h;unfold Qoh
  split at h
  ·rename_i g caps hg
   unfold Qfw Jc at h;obtain⟨x,hx,h⟩:=Option.bind_eq_some_iff.1 h;simp only[hg];exact⟨_,(hD.1 _ _ _ hx).fix,fun y hy=>by rw[hy];exact h⟩
  ·cases h
 all_goals (simp only;unfold xop;simp only)
 case h_1=>exact h
 case h_2=>exact h
 case h_3=>exact Qxr h
 case h_4=>exact QuF h
 case h_5=>exact QAX h
 case h_6=>exact Qvp h
 case h_7=>exact Qrw h
 case h_8=>exact Qmh h
 case h_9=>exact QrE h
 case h_10 =>
  split at h
  ·rename_i hn
   obtain⟨hm,h⟩:=Xj h;rw[if_pos hn];exact ZQ hm (QuW h)
  ·rename_i hn
   rw[if_neg hn];exact QBg h
 case h_11=>exact QEd h
 case h_12 =>
  split at h
  ·rename_i hb;rw[if_pos hb];exact Qv8 h
  ·rename_i hb
   obtain⟨hm,h⟩:=Xj h;rw[if_neg hb];exact ZQ hm (Qwq h)
 case h_13 =>
  obtain⟨hm,h⟩:=Xj h;exact ZQ hm (h)
 case h_14=>exact QAA h
 case h_15=>exact QAp h
 case h_16=>exact Qy9 h
 case h_17 =>
  split at h
  ·rename_i h1 h2;simp only[h1,h2];exact QzK h
  ·cases h
 case h_18 =>
  split at h
  ·rename_i h1 h2
   obtain⟨⟨hm,hn⟩,h⟩:=Xj h;simp only[h1,h2];refine⟨fun hc=>?_,ZQ hm (Qq3 h)⟩
   rename_i s x _ _ _ _;have hs:Qbh s=true:=hc;rw[hs]at hn;have hs2:Qe2 (ev f s)=false:=QAL hs f;have hx2:Qe2 (ev f x)=false:=hn;simp[hs2,hx2]
  ·cases h
 case h_19 =>
  split at h
  ·rename_i h1;simp only[h1];exact QBp h
  ·cases h
 case h_20 =>
  split at h
  ·rename_i h1;simp only[h1];exact Qzd h
  ·cases h
 case h_22=>exact Qwj h
 case h_23=>exact Qza h
 case h_24=>exact QyO h
 case h_25 =>
  unfold QwH at h;unfold QA1
  split at h
  ·rename_i hv
   simp only[hv];unfold Qsl at h
   split at h
   ·rename_i hj;simp only[hj];exact h
   ·cases h
  ·rename_i hv
   simp only[hv];exact h
  ·cases h
 case h_26=>exact QAK h
 case h_27=>cases h
theorem QsE[Wd]{P:Program}{D:Orc}(hD:Qf1 P D){o:Op}{f:Fr}{K:KS}{k:AV→KS→Option β}{k':AV→KS→Prop}{l}(h:Qcu P D o f K k l=some r)(hk:∀v K,k v K=some r→k' v K):xop P o f K k' ():=by
 unfold Qcu at h
 split at h
 ·rename_i x args ts _
  show Qoh (ev f x) (fun g caps=>Qkj P g K (args.toList.map (ev f)++caps) k' ()) ()
  unfold QrR at h;unfold Qoh
  split at h
  ·rename_i g caps hg
   simp only[hg];simp only at h;cases hs:D.s g with
   |false =>
    rw[hs]at h;have h:cond (D.q g) (QlU K (args.toList.map (ev f)++caps) k ()) (cond (D.w g) (Qj1 D g K (args.toList.map (ev f)++caps) k ()) (cond (D.v g) (QhB D g K (args.toList.map (ev f)++caps) k ()) (Qfw D g K (args.toList.map (ev f)++caps) k ())))=some r:=h;cases hq:D.q g with
    |false =>
     rw[hq]at h;have h:cond (D.w g) (Qj1 D g K (args.toList.map (ev f)++caps) k ()) (cond (D.v g) (QhB D g K (args.toList.map (ev f)++caps) k ()) (Qfw D g K (args.toList.map (ev f)++caps) k ()))=some r:=h;cases hw:D.w g with
     |false =>
      rw[hw]at h;have h:cond (D.v g) (QhB D g K (args.toList.map (ev f)++caps) k ()) (Qfw D g K (args.toList.map (ev f)++caps) k ())=some r:=h;cases hv:D.v g with
      |false =>
       rw[hv]at h;have h':Qfw D g K (args.toList.map (ev f)++caps) k ()=some r:=h;unfold Qfw Jc at h';obtain⟨x,hx,h'⟩:=Option.bind_eq_some_iff.1 h';exact .inl ⟨_,(hD.1 _ _ _ hx).fix,fun y hy=>by rw[hy];exact hk _ _ h'⟩
      |true =>
       rw[hv]at h;have h':QhB D g K (args.toList.map (ev f)++caps) k ()=some r:=h;unfold QhB QkZ at h';obtain⟨h1,h2⟩:=Q9 h';unfold Qk0 at h2
       split at h2
       ·rename_i cs hcs
        obtain⟨h3,h4⟩:=Q9 h2;unfold Jc at h4;obtain⟨x,hx,h5⟩:=Option.bind_eq_some_iff.1 h4;have hls:∀j∈Qep (args.toList.map (ev f)++caps),Qhd (kg K j)=true:=fun j hj=>Qt4 h3 _ (by unfold X7;exact List.mem_map_of_mem hj)
        exact .inr ⟨_,MC.sub (QeU h1) hls (hD.2.2.2.2 _ _ _ _ hx) hcs,fun v K' ⟨hv,hK⟩=>by rw[hv,hK];exact hk _ _ h5⟩
       ·cases h2
     |true =>
      rw[hw]at h;have h':Qj1 D g K (args.toList.map (ev f)++caps) k ()=some r:=h;unfold Qj1 Qk1 at h';obtain⟨h1,h2⟩:=Q9 h';unfold Qk3 at h2
      split at h2
      ·rename_i cs hcs
       obtain⟨h3,h4⟩:=Q9 h2;unfold Jc at h4;obtain⟨x,hx,h5⟩:=Option.bind_eq_some_iff.1 h4;have x4:=hD.2.2.2.1 _ _ _ _ hx;have hlen:(X7 K (Qep (args.toList.map (ev f)++caps))).length=(Qep (args.toList.map (ev f)++caps)).length:=by simp[X7]
       rw[hlen]at x4;have hls:∀j∈Qep (args.toList.map (ev f)++caps),clE (kg K j)=true:=fun j hj=>Qja h3 _ (by unfold X7;exact List.mem_map_of_mem hj)
       exact .inr ⟨_,AC.subB (QeU h1) hls x4 hcs,fun v K' ⟨hv,hK⟩=>by rw[hv,hK];exact hk _ _ h5⟩
      ·cases h2
    |true =>
     rw[hq]at h;have h':QlU K (args.toList.map (ev f)++caps) k ()=some r:=h;unfold QlU at h'
     split at h'
     ·rename_i j hv
      rw[hv]
      split at h'
      ·rename_i rows hj
       split at h'
       ·rename_i xs hxs
        obtain⟨h1,h2⟩:=Q9 h';exact .inr ⟨_,hD.2.2.1 g hq K j rows xs hj hxs (by simpa using h1),fun x K' ⟨hx,hK⟩=>by rw[hx,hK];exact hk _ _ h2⟩
       ·cases h'
      ·cases h'
     ·cases h'
   |true =>
    rw[hs]at h;have h':Qnq K (args.toList.map (ev f)++caps) k ()=some r:=h;unfold Qnq at h'
    split at h'
    ·rename_i j hv
     rw[hv]
     split at h'
     ·rename_i rows hj
      split at h'
      ·rename_i xs hxs
       obtain⟨h1,h2⟩:=Q9 h';exact .inr ⟨_,hD.2.1 g hs K j rows xs hj hxs (by simpa using h1),fun x K' ⟨hx,hK⟩=>by rw[hx,hK];exact hk _ _ h2⟩
      ·cases h'
     ·cases h'
    ·cases h'
  ·cases h
 ·exact QeP (Z5 (QmE hD h) hk)
theorem Qgs[Wd]{P:Program}{D:Orc}(hD:Qf1 P D){ops:Array Oper}:∀(l:List Oper) {f:Fr} {K:KS} {k:Fr→KS→Option β},QfD P D ops l f K k ()=some r→Qg0 P ops l f K (fun f K=>k f K=some r) ()
 |[],f,K,k,h=>h
 |o::l,f,K,k,h=>by
  unfold QfD at h;unfold Qg0
  split at h
  ·rename_i hg
   simp only[hg];refine QsE hD h fun v K' h=>?_
   unfold QeG at h;unfold QbJ
   split at h
   ·rename_i d hd;simp only[hd];exact Qgs hD l h
   ·rename_i hd;simp only[hd];exact Qgs hD l h
  ·cases h
theorem QtV{α:Type}:∀{l:List α} {o:Nat} {c:α} {cs:List α},l.drop o=c::cs→l[o]?=some c
 |[],o,c,cs,h=>by simp at h
 |x::l,0,c,cs,h=>by simp at h;simp[h.1]
 |x::l,o+1,c,cs,h=>by simp at h;simpa using QtV h
theorem QEJ[Wd]{P:Program}{D:Orc}(hD:Qf1 P D){f:Fr}{K:KS}{p x:AV}{g:FuncId}{k:AV→KS→Option β}{l}(h:onp D f K p x g k l=some r) :
  ∃j i o q m m' rows rs rs' rv,p=.ptr j i o∧kg K j=some (.lst q rows)∧(QB rows i)[o]?=some (.own m rs)∧x.scal=true ∧
   AC P g [some (.lst m rs)] [.sl 0,x] (fun v K'=>(v=rv∧K'.take 1=[some (.lst m' rs')])∧rv.flat=true)∧k rv (Qny K j i o q m' rows rs')=some r:=by
 unfold onp at h
 split at h
 ·rename_i j i o
  unfold onj at h
  split at h
  ·rename_i q rows hj
   unfold onx at h
   split at h
   ·rename_i m rs cs hcs
    obtain⟨h1,h2⟩:=Q9 h;unfold Jc at h2;obtain⟨y,hy,h3⟩:=Option.bind_eq_some_iff.1 h2;unfold onr at h3
    split at h3
    ·rename_i m' rs' hy2
     obtain⟨h4,h5⟩:=Q9 h3;have y4:=hD.2.2.2.1 _ _ _ _ hy;rw[hy2]at y4;simp only[Bool.and_eq_true]at h4;exact⟨j,i,o,q,m,m',rows,rs,rs',y.1,rfl,hj,QtV hcs,h1,y4.mono fun v K' ⟨z1,z2,_⟩=>⟨z1,h4.1⟩,h5⟩
    ·cases h3
   ·cases h
  ·cases h
 ·cases h
theorem Qlf[Wd]{P:Program}{D:Orc}(hD:Qf1 P D){ops:Array Oper}:∀(us:List Nat) (l:List Oper) {f:Fr} {K:KS} {k:Fr→KS→Option β},Qho P D ops us l f K k ()=some r→Qhn P ops us l f K (fun f K=>k f K=some r)
 |_::us,o::l,f,K,k,h=>by
  unfold Qho at h;unfold Qhn
  split at h
  ·rename_i hg
   refine⟨hg,QeP (Z5 (QmE hD h) fun v K' h=>?_)⟩
   unfold QeG at h;unfold QbJ
   split at h
   ·rename_i d hd;simp only[hd];exact Qlf hD us l h
   ·rename_i hd;simp only[hd];exact Qlf hD us l h
  ·cases h
 |_::_,[],f,K,k,h=>by unfold Qho at h;cases h
 |[],l,f,K,k,h=>by
  unfold Qho at h
  split at h
  ·rename_i he;cases he
  ·rename_i _ _ d t p _ _ _ e x _ _ _ dst g args ts _ _ _ l' _
   split at h
   ·rename_i d' e' hargs
    obtain⟨h1,h2⟩:=Q9 h;simp only[Bool.and_eq_true,Bool.not_eq_true']at h1;obtain⟨ht,hd',he',hde⟩:=h1;obtain⟨j,i,o,q,m,m',rows,rs,rs',rv,q1,q2,q3,q4,q6,q7⟩:=QEJ hD h2;have e1:d=d':=Nat.eq_of_beq_eq_true hd';have e2:e=e':=Nat.eq_of_beq_eq_true he';subst e1 e2;have ea:args=#[.tmp d,.tmp e]:=Array.toList_inj.1 hargs;subst ea;unfold Qhn;refine⟨d,e,t,p,x,g,ts,j,i,o,q,m,m',rows,rs,rs',rv,⟨rfl,rfl,rfl⟩,⟨rfl,rfl,rfl⟩,⟨rfl,rfl⟩,(fun hh=>by subst hh;rw[Nat.beq_refl]at hde;cases hde),?_,q1,q2,q3,q4,q6,?_⟩
    ·revert ht
     cases tk P t<;>intro ht<;>first|rfl|cases ht
    ·unfold QeG at q7
     unfold QbJ
     split at q7
     ·exact Qgs hD _ q7
     ·exact Qgs hD _ q7
   ·cases h
  ·cases h
theorem Qh0[Wd]{P:Program}{D:Orc}(hD:Qf1 P D){ops:Array Oper}:∀(l:List Oper) {f:Fr} {K:KS} {k:Fr→KS→Option β},QcL P D ops l f K k ()=some r→Qfm P ops l f K (fun f K=>k f K=some r)
 |[],f,K,k,h=>h
 |o::l,f,K,k,h=>by
  unfold QcL at h;unfold Qfm;refine Qal.2 ?_;have yes:∀{f},oop P D o.op f K (fun v K'=>QeG o.dst v f (fun f=>QcL P D ops l f K' k ()) ()) ()=some r→QbM P o.op f K (fun v K'=>Qfm P ops l (JK f o.dst v) K' (fun f K=>k f K=some r)) ():=fun{f} h =>
   Z5 (QmE hD h) fun v K' h=>Qh0 hD l (by
    unfold QeG at h;unfold JK;cases hd:o.dst with
    |none=>simp only[hd]at h;exact h
    |some d=>simp only[hd]at h;exact h)
  have no:∀{f},QeG o.dst (.tup []) f (fun f=>QcL P D ops l f K k ()) ()=some r→Qfm P ops l (JK f o.dst (.tup [])) K (fun f K=>k f K=some r):=fun{f} h=>Qh0 hD l (by
    unfold QeG at h;unfold JK;cases hd:o.dst with
    |none=>simp only[hd]at h;exact h
    |some d=>simp only[hd]at h;exact h)
  unfold gd
  split at h
  ·rename_i hg;simp only[hg];exact yes h
  ·rename_i j want hg
   simp only[hg];unfold ogd at h
   split at h
   ·rename_i d hj
    simp only[hj]
    split at h
    ·rename_i b hb
     simp only[hb];have e1:up f d (.b b)=f:=Qoo f d _ hb;cases b<;>cases want<;>simp at h ⊢<;>rw[e1]at h
     ·exact yes h
     ·exact no h
     ·exact no h
     ·exact yes h
    ·rename_i hb
     simp only[hb];exact no h
    ·cases h
   ·cases h
theorem QBz[Wd]{vs:List Nat}{P:Program}{D:Orc}(hD:Qf1 P D){o:Op}{f:Fr}{K:KS}{k:AV→KS→Option β}{k':AV→KS→Prop}{l}(h:Qks vs P D o f K k l=some r)(hk:∀v K,k v K=some r→k' v K):Qi6 vs P o f K k':=by
 have key:(∃g args ts,o=.call ⟨.value (.func g),args,ts⟩)∨(vOp vs o=false∧Qks vs P D o f K k l=oop P D o f K k ()):=by
  cases o with
  |call c =>
   obtain⟨cal,args,ts⟩:=c;cases cal with
   |value x =>
    cases x with
    |func g=>exact .inl ⟨g,args,ts,rfl⟩
    |_=>exact .inr ⟨rfl,rfl⟩
   |_=>exact .inr ⟨rfl,rfl⟩
  |_=>exact .inr ⟨rfl,rfl⟩
 unfold Qi6
 rcases key with⟨g,args,ts,rfl⟩|⟨hv,he⟩
 ·have h:cond (vs.contains g) (Qcu P D (.call ⟨.value (.func g),args,ts⟩) f K k ()) (oop P D (.call ⟨.value (.func g),args,ts⟩) f K k ())=some r:=h
  have hv:vOp vs (.call ⟨.value (.func g),args,ts⟩)=vs.contains g:=rfl;rw[hv];cases hc:vs.contains g with
  |true =>
   rw[hc]at h;rw[if_pos rfl];exact QsE (l:=()) hD h hk
  |false =>
   rw[hc]at h;rw[if_neg (by simp)]
   exact Z5 (QmE (l:=()) hD h) hk
 ·rw[he]at h
  rw[hv,if_neg (by simp)]
  exact Z5 (QmE (l:=()) hD h) hk
theorem Qgh[Wd]{vs:List Nat}{P:Program}{D:Orc}(hD:Qf1 P D){ops:Array Oper}:∀(l:List Oper) {f:Fr} {K:KS} {k:Fr→KS→Option β},ZN vs P D ops l f K k ()=some r→Qiw vs P ops l f K (fun f K=>k f K=some r)
 |[],f,K,k,h=>h
 |o::l,f,K,k,h=>by
  unfold ZN at h;unfold Qiw QcA;have yes:∀{f},Qks vs P D o.op f K (fun v K'=>QeG o.dst v f (fun f=>ZN vs P D ops l f K' k ()) ()) ()=some r→Qi6 vs P o.op f K (fun v K'=>Qiw vs P ops l (JK f o.dst v) K' (fun f K=>k f K=some r)):=fun{f} h =>
   QBz hD h fun v K' h=>Qgh hD l (by
    unfold QeG at h;unfold JK;cases hd:o.dst with
    |none=>simp only[hd]at h;exact h
    |some d=>simp only[hd]at h;exact h)
  have no:∀{f},QeG o.dst (.tup []) f (fun f=>ZN vs P D ops l f K k ()) ()=some r→Qiw vs P ops l (JK f o.dst (.tup [])) K (fun f K=>k f K=some r):=fun{f} h=>Qgh hD l (by
    unfold QeG at h;unfold JK;cases hd:o.dst with
    |none=>simp only[hd]at h;exact h
    |some d=>simp only[hd]at h;exact h)
  unfold gd
  split at h
  ·rename_i hg;simp only[hg];exact yes h
  ·rename_i j want hg
   simp only[hg];unfold ogd at h
   split at h
   ·rename_i d hj
    simp only[hj]
    split at h
    ·rename_i b hb
     simp only[hb];have e1:up f d (.b b)=f:=Qoo f d _ hb;cases b<;>cases want<;>simp at h ⊢<;>rw[e1]at h
     ·exact yes h
     ·exact no h
     ·exact no h
     ·exact yes h
    ·rename_i hb
     simp only[hb];exact no h
    ·cases h
   ·cases h
theorem Qo5[Wd]{P:Program}{ops:Array Oper}:∀(l:List Oper) {f:Fr} {K:KS} {k:Fr→KS→Prop},Qfm P ops l f K k→Qg0 P ops l f K k ()
 |[],f,K,k,h=>h
 |o::l,f,K,k,h=>by
  unfold Qfm Qcx at h;unfold Qg0;have st:∀{f:Fr} {K:KS} {d:Option Tmp} {v:AV},QbJ d v f (fun f=>Qfm P ops l f K k) ()→QbJ d v f (fun f=>Qg0 P ops l f K k ()) ():=fun{f K d v} h=>by
   rw[QiD]at h ⊢;exact Qo5 l h
  have yes:∀{f},QbM P o.op f K (fun v K'=>QbJ o.dst v f (fun f=>Qfm P ops l f K' k) ()) ()→xop P o.op f K (fun v K'=>QbJ o.dst v f (fun f=>Qg0 P ops l f K' k ()) ()) ():=fun{f} h =>
   QeP (Z5 h fun v K' h=>st h)
  split at h
  ·rename_i hg;try simp only[hg]
   exact yes h
  ·rename_i j want hg
   try simp only[hg]
   unfold xgd at h ⊢
   split at h
   ·rename_i d hj
    try simp only[hj]
    split at h
    ·rename_i b hb
     unfold XBr at h ⊢;refine⟨fun hx=>?_,fun hx=>?_⟩
     ·have:=h.1 hx
      cases want
      ·exact st this
      ·exact yes this
     ·have:=h.2 hx
      cases want
      ·exact yes this
      ·exact st this
    ·rename_i hb
     exact st h
    ·exact h.elim
   ·exact h.elim
end
end Go.Proofs.YtonidbheohhgdaaGreat.Am
