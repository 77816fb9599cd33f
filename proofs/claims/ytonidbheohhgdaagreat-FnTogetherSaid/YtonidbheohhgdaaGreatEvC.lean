import Derived.Test.YtonidbheohhgdaaGreatEvA
namespace Go.Proofs.YtonidbheohhgdaaGreat.Am
open Go
set_option linter.unusedVariables false
set_option linter.unusedSimpArgs false
section
variable{β:Type}{r:β}
theorem Q9{b:Bool}{q:Option β}{l}(h:Vf b q l=some r):b=true∧q=some r:=by
 cases b with
 |false=>cases h
 |true=>exact⟨rfl,h⟩
theorem QuD{b:Bool}{p q:Option β}(h:cond b p q=some r):(b=true→p=some r)∧(b=false→q=some r):=by
 cases b with
 |false=>exact⟨fun h'=>by (cases h'),fun _=>h⟩
 |true=>exact⟨fun _=>h,fun h'=>by cases h'⟩
theorem Xm{p:Prop}[Decidable p]{q:Option β}(h:(if p then q else none)=some r):p∧q=some r:=by
 by_cases hp:p
 ·rw[if_pos hp]at h;exact⟨hp,h⟩
 ·rw[if_neg hp]at h;cases h
theorem ZQ{p:Prop}[Decidable p]{q:Prop}(hp:p)(hq:q):(if p then q else False):=by rw[if_pos hp];exact hq
theorem QAu(a b:Int):(a==b)=decide (a=b):=by by_cases h:a=b<;>simp[h]
theorem Qzz(a b:Int):(a != b)=!decide (a=b):=by by_cases h:a=b<;>simp[h]
theorem QAW(a b:List UInt8):(a==b)=decide (a=b):=by by_cases h:a=b<;>simp[h]
theorem Qz0(a b:List UInt8):(a != b)=!decide (a=b):=by by_cases h:a=b<;>simp[h]
theorem Qsq{te:Option (List CK)}{xs ys:List AV}{k:Bool→Option β}{l}(h:Qy2 te xs ys k l=some r):QnU te xs ys (fun v=>k v=some r) ():=by
 unfold Qy2 at h;unfold QnU
 split at h
 ·split at h
  ·rename_i hb;simp only[hb];exact h
  ·cases h
 ·cases h
theorem QAc{t:TI}{x:AV}{lo hi:Option AV}{k:AV→Option β}{l}(h:Qg8 t x lo hi k l=some r):Qpa t x lo hi (fun v=>k v=some r) ():=by
 unfold Qg8 at h;unfold Qpa
 split at h
 ·obtain⟨hm,h⟩:=Xm h
  simp only;rw[if_pos hm]
  split at h
  ·rename_i h1 h2
   simp only[h1,h2];obtain⟨h3,h4⟩:=Q9 h;exact⟨by simpa[slB]using h3,h4⟩
  ·cases h
 ·simp only
  split at h
  ·rename_i h1 h2
   simp only[h1,h2];obtain⟨h3,h4⟩:=Q9 h;exact⟨by simpa[slB]using h3,h4⟩
  ·cases h
 ·cases h
theorem QA2{t:TI}{x i:AV}{k:AV→Option β}{l}(h:Qwc t x i k l=some r):QpS t x i (fun v=>k v=some r) ():=by
 unfold Qwc at h;unfold QpS
 split at h
 ·obtain⟨h3,h4⟩:=Q9 h
  exact⟨Qb4.1 h3,h4⟩
 ·cases h
theorem QzE{te:Option (List CK)}{op:BinOp}{x y:AV}{k:AV→Option β}{l}(h:JJ te op x y k l=some r):QoX te op x y (fun v=>k v=some r) ():=by
 unfold JJ at h;unfold QoX
 split at h
 ·simp only
  split at h
  ·exact Qsq h
  ·exact Qsq h
  ·cases h
 ·simp only
  split at h
  ·exact h
  ·exact h
  ·cases h
 ·simp only
  split at h
  ·rename_i hs
   rw[if_pos hs];obtain⟨h1,h2⟩:=Q9 h;exact⟨by simpa using h1,h2⟩
  rename_i hs;rw[if_neg hs];obtain⟨hc,h⟩:=Xm h;rw[if_pos hc]
  split at h<;>simp only<;>first
   |exact h
   |(rw[QAu];exact h)
   |(rw[Qzz];exact h)
   |(obtain⟨h1,h2⟩:=Q9 h;exact⟨by simpa using h1,h2⟩)
   |cases h
 ·simp only
  split at h<;>simp only<;>first
   |(rw[QAW];exact h)
   |(rw[Qz0];exact h)
   |(obtain⟨h1,h2⟩:=Q9 h;exact⟨by simpa using h1,h2⟩)
   |cases h
 ·cases h
theorem QET{op:UnOp}{x:AV}{k:AV→Option β}{l}(h:oun op x k l=some r):xun op x (fun v=>k v=some r) ():=by
 unfold oun at h;unfold xun
 split at h
 ·exact h
 ·exact h
 ·cases h
theorem Qw1{c x y:AV}{k:AV→Option β}{l}(h:Qlo c x y k l=some r):Qkk c x y (fun v=>k v=some r) ():=by
 unfold Qlo at h;unfold Qkk
 split at h
 ·rename_i b
  cases b with
  |true=>exact h
  |false=>exact h
 ·cases h
variable{K:KS}
theorem QAQ{t:TI}{x:AV}{k:AV→Option β}{l}(h:Qqi K t x k l=some r):QpA K t x (fun v=>k v=some r) ():=by
 unfold Qqi at h;unfold QpA
 split at h
 ·exact h
 ·exact h
 ·split at h
  ·rename_i e he;simp only[he];exact h
  ·cases h
 ·exact h
 ·exact h
 ·cases h
theorem QBh{x:AV}{o:Option (Nat×TK)}{k:AV→Option β}{l}(h:QuO K x o k l=some r):QoW K x o (fun v=>k v=some r) ():=by
 unfold QuO at h;unfold QoW
 split at h
 ·split at h
  ·rename_i e he;simp only[he];exact h
  ·cases h
 ·exact h
 ·cases h
theorem QzQ{t:TI}{x i:AV}{k:AV→Option β}{l}(h:QqX K t x i k l=some r):Qqc K t x i (fun v=>k v=some r) ():=by
 unfold QqX at h;unfold Qqc
 split at h
 ·obtain⟨hm,h⟩:=Xm h
  obtain⟨h1,h2⟩:=Q9 h;exact ZQ hm ⟨Qb4.1 h1,h2⟩
 ·split at h
  ·rename_i e he
   obtain⟨hm,h⟩:=Xm h;simp only[he];obtain⟨h1,h2⟩:=Q9 h;exact ZQ hm ⟨Qb4.1 h1,h2⟩
  ·cases h
 ·split at h
  ·rename_i e he
   simp only[he];obtain⟨h1,h2⟩:=Q9 h;exact⟨by simpa[Qui]using h1,h2⟩
  ·cases h
 ·cases h
theorem QlA{t:TK}{cs:List AV}{k:AV→Option β}{l}(h:QfF t cs k l=some r):QeP t cs (fun v=>k v=some r) ():=by
 unfold QfF at h;unfold QeP
 split at h
 ·split at h
  ·exact h
  ·cases h
 ·obtain⟨hm,h⟩:=Xm h
  exact ZQ hm (h)
 ·cases h
theorem Qsj{cs:List AV}{o:Nat}{t:TK}{v:AV}{ok:AV→Bool}{k:List AV→Option β}{l}(h:QgY cs o t v ok k l=some r):Qn9 cs o t v ok (fun v=>k v=some r) ():=by
 unfold QgY at h;unfold Qn9
 split at h
 ·obtain⟨hm,h⟩:=Xm h
  exact ZQ hm (h)
 ·obtain⟨hm,h⟩:=Xm h
  exact ZQ hm (h)
 ·cases h
theorem QjZ{t:TK}{p v:AV}{k:KS→Option β}{l}(h:QjH K t p v k l=some r):Qft K t p v (fun K=>k K=some r) ():=by
 unfold QjH at h;unfold Qft
 split at h
 ·split at h
  ·rename_i cs hj
   simp only[hj];obtain⟨hm,h⟩:=Xm h;exact ZQ hm (Qsj h)
  ·rename_i n rows hj
   simp only[hj];obtain⟨hm,h⟩:=Xm h;exact ZQ hm (Qsj h)
  ·cases h
 ·cases h
theorem Qre{t:TK}{j i o n:Nat}{rows:List (List AV)}{v:AV}{k:KS→Option β}{l}{ns:List Nat}(h:QiX ns K t j i o n rows v k l=some r):Qd6 ns K t j i o n rows v (fun K=>k K=some r) ():=by
 unfold QiX at h;unfold Qd6;obtain⟨hm,h⟩:=Xm h;rw[if_pos hm]
 split at h
 ·rename_i K1 ds hab
  obtain⟨hc,h⟩:=Xm h;simp only[hab];exact ZQ hc h
 ·cases h
theorem Qra{fl:Bool}{t:TK}{p v:AV}{k:KS→Option β}{l}{ns:List Nat}(h:Qh5 fl ns K t p v k l=some r):ZO fl ns K t p v (fun K=>k K=some r) ():=by
 unfold Qh5 at h;unfold ZO
 split at h
 ·split at h
  ·rename_i n rows hj
   simp only[hj]
   split at h
   ·rename_i hc;rw[if_pos hc];exact QjZ h
   ·rename_i hc
    rw[if_neg hc];obtain⟨hf,h⟩:=Xm h;exact ZQ hf (Qre h)
  ·rename_i hj
   cases hk:kg K _ with
   |none=>simp only[hk];exact QjZ h
   |some e =>
    cases e with
    |box cs=>simp only[hk];exact QjZ h
    |lst n rows=>exact absurd hk (hj n rows)
 ·cases h
theorem QzO{v:AV}{k:AV→KS→Option β}{l}(h:Qru K v k l=some r):QuP K v (fun v K=>k v K=some r) ():=by
 unfold Qru at h;unfold QuP
 split at h
 ·obtain⟨hm,h⟩:=Xm h
  exact ZQ hm h
 ·rename_i hn
  obtain⟨hm,h⟩:=Xm h;cases v with
  |agg cs=>exact absurd rfl (hn cs)
  |_=>exact ZQ hm h
theorem QuR{z:Option (List AV)}{k:AV→KS→Option β}{l}(h:QlB K z k l=some r):QjR K z (fun v K=>k v K=some r) ():=by
 unfold QlB at h;unfold QjR
 split at h
 ·exact h
 ·cases h
theorem Quo{t:TB}{parts:List (Nat×AV)}{k:AV→Option β}{l}(h:Qjz K t parts k l=some r):Qf4 K t parts (fun v=>k v=some r) ():=by
 unfold Qjz at h;unfold Qf4
 split at h
 ·split at h
  ·rename_i cs hc;simp only[hc];exact h
  ·cases h
 ·split at h
  ·rename_i cs hc;simp only[hc];exact h
  ·cases h
 ·cases h
theorem Qr0{t:Option (TypeId×Nat×List AV)}{len:Nat}{parts:List (Nat×AV)}{k:AV→KS→Option β}{l}{fl:Bool}{ns:List Nat}(h:QgF fl ns K t len parts k l=some r):(fl=true→QqF K t len parts=true)∧QbA ns K t len parts (fun v K=>k v K=some r) ():=by
 unfold QgF at h;unfold QbA QqF;cases t with
 |none=>cases h
 |some q =>
  obtain⟨e,m,z⟩:=q;simp only at h ⊢;by_cases h0:len=0
  ·rw[if_pos h0]at h ⊢
   subst h0;cases parts with
   |nil=>exact⟨fun _=>by simp[Qau,QcT,noS],h⟩
   |cons _ _=>cases h
  ·rw[if_neg h0]at h ⊢
   obtain⟨hm,h⟩:=Xm h;rw[if_pos hm];cases hx:Qau K (fun i=>some (i*m,m)) (QcT len z) parts with
   |none=>rw[hx]at h;cases h
   |some cs =>
    rw[hx]at h;simp only at h ⊢;cases hf:yB fl cs with
    |false=>rw[hf]at h;cases h
    |true =>
     rw[hf]at h;simp only[cond_true]at h;refine⟨fun hfl=>?_,?_⟩
     ·rw[hfl]at hf;exact hf
     ·cases ha:Vk K cs with
      |none=>rw[ha]at h;cases h
      |some q =>
       obtain⟨K1,ds⟩:=q;rw[ha]at h;exact h
theorem Qzk{v:AV}{i:Nat}{k:AV→Option β}{l}(h:QwD v i k l=some r):Qqb v i (fun v=>k v=some r) ():=by
 unfold QwD at h;unfold Qqb
 split at h
 ·split at h
  ·rename_i c hc;simp only[hc];exact h
  ·cases h
 ·cases h
theorem QAk{o:Option (Nat×TK)}{x:AV}{k:AV→Option β}{l}(h:Qyk o x k l=some r):QqE o x (fun v=>k v=some r) ():=by
 unfold Qyk at h;unfold QqE Qqa
 split at h
 ·exact QlA h
 ·cases h
theorem QrZ{t:Option (TypeId×Nat×List AV)}{b:Option Nat}{s x:AV}{k:AV→KS→Option β}{l}(h:QkT K t b s x k l=some r):Qdl K t b s x (fun v K=>k v K=some r) ():=by
 unfold QkT at h;unfold Qdl
 split at h
 ·simp only
  split at h
  ·rename_i rows K1 hs
   simp only[hs]
   split at h
   ·split at h
    ·rename_i n rows hj
     simp only[hj];obtain⟨hm,h⟩:=Xm h;obtain⟨h1,h2⟩:=Q9 h;exact ZQ hm ⟨by simpa using h1,h2⟩
    ·cases h
   ·obtain⟨h1,h2⟩:=Q9 h
    exact⟨by simpa using h1,h2⟩
   ·cases h
  ·cases h
 ·cases h
theorem QBw{x y:AV}{k:AV→Option β}{l}(h:QwJ x y k l=some r):QpV x y (fun v=>k v=some r) ():=by
 unfold QwJ at h;unfold QpV
 split at h
 ·exact h
 ·cases h
theorem QAt{x y:AV}{k:AV→Option β}{l}(h:QwG x y k l=some r):Qpp x y (fun v=>k v=some r) ():=by
 unfold QwG at h;unfold Qpp
 split at h
 ·exact h
 ·cases h
theorem QvH{t:TI}{x:AV}{k:AV→Option β}{l}(h:Qo8 t x k l=some r):Qko t x (fun v=>k v=some r) ():=by
 unfold Qo8 at h;unfold Qko
 split at h
 ·exact h
 ·cases h
theorem Qym{K:KS}{t:TI}{x:AV}{k:AV→Option β}{l}(h:Qqo K t x k l=some r):Qi2 K t x (fun v=>k v=some r) ():=by
 unfold Qqo at h;unfold Qi2
 split at h
 ·split at h
  ·rename_i h1
   split at h
   ·rename_i h2;simp only[h1,h2];exact h
   ·cases h
  ·cases h
 ·cases h
theorem QuE{op:BinOp}{x:AV}{k:AV→Option β}{l}(h:Qjn op x k l=some r):Qge op x (fun v=>k v=some r) ():=by
 have key:∀{b:Bool} {x y:Option β},Qkq b x y=some r→(b=true→x=some r)∧y=some r:=by
  intro b x y h;unfold Qkq at h;cases b with
  |false=>exact⟨fun h=>(by cases h),h⟩
  |true =>
   simp only[cond_true,oeq]at h
   split at h
   ·rename_i he;exact⟨fun _=>h,by rw[←he];exact h⟩
   ·cases h
 unfold Qjn at h;unfold Qge
 split at h
 ·exact key h
 ·exact key h
 ·cases h
theorem QyI{t:Option (TypeId×Nat×List AV)}{b:Option Nat}{x c:AV}{k:AV→KS→Option β}{l}{ns:List Nat}(h:QtT ns K t b x c k l=some r):QnG ns K t b x c (fun v K=>k v K=some r) ():=by
 unfold QtT at h;unfold QnG
 split at h
 ·simp only
  obtain⟨h1,h2⟩:=Q9 h;obtain⟨h3,h4⟩:=Q9 h2;rw[if_pos (by simpa using h1)]
  exact⟨by simpa[mkB]using h3,h4⟩
 ·cases h
def SortP[Wd](P:Program)(g:FuncId):Prop:=∀(K:KS) (j:Nat) (rows:List (List AV)) (xs:List Int),kg K j=some (.lst 1 rows)→Qcw rows=some xs→xs.length<4611686018427387904 →
 AC P g K [.sl j] (fun x K'=>x=.tup []∧K'=K.set j (some (.lst 1 ((V3 xs).map cI))))
def CompP[Wd](P:Program)(g:FuncId):Prop:=∀(K:KS) (j:Nat) (rows:List (List AV)) (xs:List Int),kg K j=some (.lst 1 rows)→Qcw rows=some xs→xs.length<4611686018427387904 →
 AC P g K [.sl j] (fun x K'=>x=.sl K.length∧K'=K.set j none++[some (.lst 1 ((Xd xs).map cI))])
theorem QeO:∀{l:List Nat},ndB l=true→l.Nodup
 |[],_=>by simp
 |x::l,h=>by
  simp only[ndB,Bool.and_eq_true,Bool.not_eq_true']at h;rw[List.nodup_cons];exact⟨by simpa using h.1,QeO h.2⟩
def ArP[Wd](P:Program)(D:Orc):Prop:=∀g K args x,D.a g K args=some x→AC P g K args (fun v K'=>(v=x.1∧K'.take x.2.length=x.2)∧rok x.2.length x.1=true∧(∀e∈x.2,clE e=true)∧K.length≤x.2.length)
def MrP[Wd](P:Program)(D:Orc):Prop:=∀g K args x,D.m g K args=some x→MC P g K args (·=x)
def Qf3[Wd](P:Program)(D:Orc):Prop:=(∀g args x,D.p g args=some x→PC P g args (·=x))∧(∀g,D.s g=true→SortP P g)∧(∀g,D.q g=true→CompP P g)∧ArP P D∧MrP P D
theorem QtO:∀{K:KS},Qq4 K=true→∀e∈K,Qhn e=true
 |[],_,e,he=>by cases he
 |some (.lst n rows)::K,h,e,he=>by
  rcases List.mem_cons.1 he with rfl|he
  ·rfl
  ·exact QtO (K:=K) h e he
 |none::K,h,e,he=>by cases h
 |some (.box cs)::K,h,e,he=>by cases h
theorem Qib:∀{K:KS},QhZ K=true→∀e∈K,clE e=true
 |[],_,e,he=>by cases he
 |some (.lst n rows)::K,h,e,he=>by
  rcases List.mem_cons.1 he with rfl|he
  ·rfl
  ·exact Qib (K:=K) h e he
 |none::K,h,e,he=>by cases h
 |some (.box cs)::K,h,e,he=>by
  simp only[QhZ,Bool.and_eq_true]at h
  rcases List.mem_cons.1 he with rfl|he
  ·exact h.1
  ·exact Qib (K:=K) h.2 e he
theorem QzK{s:Operand}(hs:Qbg s=true)(f:Fr):QeW (ev f s)=false:=by
 cases s with
 |const v =>
  cases v<;>first|(cases hs;done)|skip
  rename_i a l c;cases a<;>cases l<;>cases c<;>first|rfl|cases hs
 |_=>cases hs
theorem QlN[Wd]{P:Program}{D:Orc}(hD:Qf3 P D){o:Op}{f:Fr}{k:AV→KS→Option β}{l}(h:oop P D o f K k l=some r):QbH P o f K (fun v K=>k v K=some r) ():=by
 unfold oop at h;unfold QbH
 split at h
 case h_21 x args _ =>
  simp only;unfold Qri at h;unfold QoC
  split at h
  ·rename_i g caps hg
   unfold QfD Jc at h;obtain⟨x,hx,h⟩:=Option.bind_eq_some_iff.1 h;simp only[hg];exact⟨_,(hD.1 _ _ _ hx).fix,fun y hy=>by rw[hy];exact h⟩
  ·cases h
 all_goals (simp only;unfold xop;simp only)
 case h_1=>exact h
 case h_2=>exact h
 case h_3=>exact Qw1 h
 case h_4=>exact QuR h
 case h_5=>exact QzO h
 case h_6=>exact Quo h
 case h_7=>exact Qr0 h
 case h_8=>exact QlA h
 case h_9=>exact Qra h
 case h_10 =>
  split at h
  ·rename_i hn
   obtain⟨hm,h⟩:=Xm h;rw[if_pos hn];exact ZQ hm (QuE h)
  ·rename_i hn
   rw[if_neg hn];exact QzE h
 case h_11=>exact QET h
 case h_12 =>
  split at h
  ·rename_i hb;rw[if_pos hb];exact Qym h
  ·rename_i hb
   obtain⟨hm,h⟩:=Xm h;rw[if_neg hb];exact ZQ hm (QvH h)
 case h_13 =>
  obtain⟨hm,h⟩:=Xm h;exact ZQ hm (h)
 case h_14=>exact QBh h
 case h_15=>exact QzQ h
 case h_16=>exact Qzk h
 case h_17 =>
  split at h
  ·rename_i h1 h2;simp only[h1,h2];exact QAQ h
  ·cases h
 case h_18 =>
  split at h
  ·rename_i h1 h2
   obtain⟨⟨hm,hn⟩,h⟩:=Xm h;simp only[h1,h2];refine⟨fun hc=>?_,ZQ hm (QrZ h)⟩
   rename_i s x _ _ _ _;have hs:Qbg s=true:=hc;rw[hs]at hn;have hs2:QeW (ev f s)=false:=QzK hs f;have hx2:QeW (ev f x)=false:=hn;simp[hs2,hx2]
  ·cases h
 case h_19 =>
  split at h
  ·rename_i h1;simp only[h1];exact QBw h
  ·cases h
 case h_20 =>
  split at h
  ·rename_i h1;simp only[h1];exact QAt h
  ·cases h
 case h_22=>exact QyI h
 case h_23=>exact QAc h
 case h_24=>exact QA2 h
 case h_25 =>
  unfold Qxe at h;unfold QBB
  split at h
  ·rename_i hv
   simp only[hv];unfold Qtl at h
   split at h
   ·rename_i hj;simp only[hj];exact h
   ·cases h
  ·rename_i hv
   simp only[hv];exact h
  ·cases h
 case h_26=>exact QAk h
 case h_27=>cases h
theorem QtS[Wd]{P:Program}{D:Orc}(hD:Qf3 P D){o:Op}{f:Fr}{K:KS}{k:AV→KS→Option β}{k':AV→KS→Prop}{l}(h:Qct P D o f K k l=some r)(hk:∀v K,k v K=some r→k' v K):xop P o f K k' ():=by
 unfold Qct at h
 split at h
 ·rename_i x args ts _
  show QoC (ev f x) (fun g caps=>Qka P g K (args.toList.map (ev f)++caps) k' ()) ()
  unfold Qri at h;unfold QoC
  split at h
  ·rename_i g caps hg
   simp only[hg];simp only at h;cases hs:D.s g with
   |false =>
    rw[hs]at h;have h:cond (D.q g) (Qmm K (args.toList.map (ev f)++caps) k ()) (cond (D.w g) (Qjw D g K (args.toList.map (ev f)++caps) k ()) (cond (D.v g) (Qhq D g K (args.toList.map (ev f)++caps) k ()) (QfD D g K (args.toList.map (ev f)++caps) k ())))=some r:=h;cases hq:D.q g with
    |false =>
     rw[hq]at h;have h:cond (D.w g) (Qjw D g K (args.toList.map (ev f)++caps) k ()) (cond (D.v g) (Qhq D g K (args.toList.map (ev f)++caps) k ()) (QfD D g K (args.toList.map (ev f)++caps) k ()))=some r:=h;cases hw:D.w g with
     |false =>
      rw[hw]at h;have h:cond (D.v g) (Qhq D g K (args.toList.map (ev f)++caps) k ()) (QfD D g K (args.toList.map (ev f)++caps) k ())=some r:=h;cases hv:D.v g with
      |false =>
       rw[hv]at h;have h':QfD D g K (args.toList.map (ev f)++caps) k ()=some r:=h;unfold QfD Jc at h';obtain⟨x,hx,h'⟩:=Option.bind_eq_some_iff.1 h';exact .inl ⟨_,(hD.1 _ _ _ hx).fix,fun y hy=>by rw[hy];exact hk _ _ h'⟩
      |true =>
       rw[hv]at h;have h':Qhq D g K (args.toList.map (ev f)++caps) k ()=some r:=h;unfold Qhq QkX at h';obtain⟨h1,h2⟩:=Q9 h';unfold QkS at h2
       split at h2
       ·rename_i cs hcs
        obtain⟨h3,h4⟩:=Q9 h2;unfold Jc at h4;obtain⟨x,hx,h5⟩:=Option.bind_eq_some_iff.1 h4;have hls:∀j∈Qep (args.toList.map (ev f)++caps),Qhn (kg K j)=true:=fun j hj=>QtO h3 _ (by unfold Jb;exact List.mem_map_of_mem hj)
        exact .inr ⟨_,MC.sub (QeO h1) hls (hD.2.2.2.2 _ _ _ _ hx) hcs,fun v K' ⟨hv,hK⟩=>by rw[hv,hK];exact hk _ _ h5⟩
       ·cases h2
     |true =>
      rw[hw]at h;have h':Qjw D g K (args.toList.map (ev f)++caps) k ()=some r:=h;unfold Qjw QkZ at h';obtain⟨h1,h2⟩:=Q9 h';unfold Qk2 at h2
      split at h2
      ·rename_i cs hcs
       obtain⟨h3,h4⟩:=Q9 h2;unfold Jc at h4;obtain⟨x,hx,h5⟩:=Option.bind_eq_some_iff.1 h4;have x4:=hD.2.2.2.1 _ _ _ _ hx;have hlen:(Jb K (Qep (args.toList.map (ev f)++caps))).length=(Qep (args.toList.map (ev f)++caps)).length:=by simp[Jb]
       rw[hlen]at x4;have hls:∀j∈Qep (args.toList.map (ev f)++caps),clE (kg K j)=true:=fun j hj=>Qib h3 _ (by unfold Jb;exact List.mem_map_of_mem hj)
       exact .inr ⟨_,AC.subB (QeO h1) hls x4 hcs,fun v K' ⟨hv,hK⟩=>by rw[hv,hK];exact hk _ _ h5⟩
      ·cases h2
    |true =>
     rw[hq]at h;have h':Qmm K (args.toList.map (ev f)++caps) k ()=some r:=h;unfold Qmm at h'
     split at h'
     ·rename_i j hv
      rw[hv]
      split at h'
      ·rename_i rows hj
       split at h'
       ·rename_i xs hxs
        obtain⟨h1,h2⟩:=Q9 h';exact .inr ⟨_,hD.2.2.1 g hq K j rows xs hj hxs (by simpa using h1),fun x K' ⟨hx,hK⟩=>by rw[hx,hK];exact hk _ _ h2⟩
       ·cases h'
      ·cases h'
     ·cases h'
   |true =>
    rw[hs]at h;have h':Qnq K (args.toList.map (ev f)++caps) k ()=some r:=h;unfold Qnq at h'
    split at h'
    ·rename_i j hv
     rw[hv]
     split at h'
     ·rename_i rows hj
      split at h'
      ·rename_i xs hxs
       obtain⟨h1,h2⟩:=Q9 h';exact .inr ⟨_,hD.2.1 g hs K j rows xs hj hxs (by simpa using h1),fun x K' ⟨hx,hK⟩=>by rw[hx,hK];exact hk _ _ h2⟩
      ·cases h'
     ·cases h'
    ·cases h'
  ·cases h
 ·exact QeM (ZU (QlN hD h) hk)
theorem QfX[Wd]{P:Program}{D:Orc}(hD:Qf3 P D){ops:Array Oper}:∀(l:List Oper) {f:Fr} {K:KS} {k:Fr→KS→Option β},Qfx P D ops l f K k ()=some r→QgU P ops l f K (fun f K=>k f K=some r) ()
 |[],f,K,k,h=>h
 |o::l,f,K,k,h=>by
  unfold Qfx at h;unfold QgU
  split at h
  ·rename_i hg
   simp only[hg];refine QtS hD h fun v K' h=>?_
   unfold QeN at h;unfold QbG
   split at h
   ·rename_i d hd;simp only[hd];exact QfX hD l h
   ·rename_i hd;simp only[hd];exact QfX hD l h
  ·cases h
theorem QtE{α:Type}:∀{l:List α} {o:Nat} {c:α} {cs:List α},l.drop o=c::cs→l[o]?=some c
 |[],o,c,cs,h=>by simp at h
 |x::l,0,c,cs,h=>by simp at h;simp[h.1]
 |x::l,o+1,c,cs,h=>by simp at h;simpa using QtE h
theorem QFd[Wd]{P:Program}{D:Orc}(hD:Qf3 P D){f:Fr}{K:KS}{p x:AV}{g:FuncId}{k:AV→KS→Option β}{l}(h:onp D f K p x g k l=some r) :
  ∃j i o q m m' rows rs rs' rv,p=.ptr j i o∧kg K j=some (.lst q rows)∧(QB rows i)[o]?=some (.own m rs)∧x.scal=true ∧
   AC P g [some (.lst m rs)] [.sl 0,x] (fun v K'=>(v=rv∧K'.take 1=[some (.lst m' rs')])∧rv.flat=true)∧k rv (QnC K j i o q m' rows rs')=some r:=by
 unfold onp at h
 split at h
 ·rename_i j i o
  unfold onj at h
  split at h
  ·rename_i q rows hj
   unfold onx at h
   split at h
   ·rename_i m rs cs hcs
    obtain⟨h1,h2⟩:=Q9 h;unfold Jc at h2;obtain⟨y,hy,h3⟩:=Option.bind_eq_some_iff.1 h2;unfold onr at h3
    split at h3
    ·rename_i m' rs' hy2
     obtain⟨h4,h5⟩:=Q9 h3;have y4:=hD.2.2.2.1 _ _ _ _ hy;rw[hy2]at y4;simp only[Bool.and_eq_true]at h4;exact⟨j,i,o,q,m,m',rows,rs,rs',y.1,rfl,hj,QtE hcs,h1,y4.mono fun v K' ⟨z1,z2,_⟩=>⟨z1,h4.1⟩,h5⟩
    ·cases h3
   ·cases h
  ·cases h
 ·cases h
theorem Qmx[Wd]{P:Program}{D:Orc}(hD:Qf3 P D){ops:Array Oper}:∀(us:List Nat) (l:List Oper) {f:Fr} {K:KS} {k:Fr→KS→Option β},Qho P D ops us l f K k ()=some r→Qhj P ops us l f K (fun f K=>k f K=some r)
 |_::us,o::l,f,K,k,h=>by
  unfold Qho at h;unfold Qhj
  split at h
  ·rename_i hg
   refine⟨hg,QeM (ZU (QlN hD h) fun v K' h=>?_)⟩
   unfold QeN at h;unfold QbG
   split at h
   ·rename_i d hd;simp only[hd];exact Qmx hD us l h
   ·rename_i hd;simp only[hd];exact Qmx hD us l h
  ·cases h
 |_::_,[],f,K,k,h=>by unfold Qho at h;cases h
 |[],l,f,K,k,h=>by
  unfold Qho at h
  split at h
  ·rename_i he;cases he
  ·rename_i _ _ d t p _ _ _ e x _ _ _ dst g args ts _ _ _ l' _
   split at h
   ·rename_i d' e' hargs
    obtain⟨h1,h2⟩:=Q9 h;simp only[Bool.and_eq_true,Bool.not_eq_true']at h1;obtain⟨ht,hd',he',hde⟩:=h1;obtain⟨j,i,o,q,m,m',rows,rs,rs',rv,q1,q2,q3,q4,q6,q7⟩:=QFd hD h2;have e1:d=d':=Nat.eq_of_beq_eq_true hd';have e2:e=e':=Nat.eq_of_beq_eq_true he';subst e1 e2;have ea:args=#[.tmp d,.tmp e]:=Array.toList_inj.1 hargs;subst ea;unfold Qhj;refine⟨d,e,t,p,x,g,ts,j,i,o,q,m,m',rows,rs,rs',rv,⟨rfl,rfl,rfl⟩,⟨rfl,rfl,rfl⟩,⟨rfl,rfl⟩,(fun hh=>by subst hh;rw[Nat.beq_refl]at hde;cases hde),?_,q1,q2,q3,q4,q6,?_⟩
    ·revert ht
     cases tk P t<;>intro ht<;>first|rfl|cases ht
    ·unfold QeN at q7
     unfold QbG
     split at q7
     ·exact QfX hD _ q7
     ·exact QfX hD _ q7
   ·cases h
  ·cases h
theorem QiZ[Wd]{P:Program}{D:Orc}(hD:Qf3 P D){ops:Array Oper}:∀(l:List Oper) {f:Fr} {K:KS} {k:Fr→KS→Option β},QcH P D ops l f K k ()=some r→Qfs P ops l f K (fun f K=>k f K=some r)
 |[],f,K,k,h=>h
 |o::l,f,K,k,h=>by
  unfold QcH at h;unfold Qfs;refine Qac.2 ?_;have yes:∀{f},oop P D o.op f K (fun v K'=>QeN o.dst v f (fun f=>QcH P D ops l f K' k ()) ()) ()=some r→QbH P o.op f K (fun v K'=>Qfs P ops l (JL f o.dst v) K' (fun f K=>k f K=some r)) ():=fun{f} h =>
   ZU (QlN hD h) fun v K' h=>QiZ hD l (by
    unfold QeN at h;unfold JL;cases hd:o.dst with
    |none=>simp only[hd]at h;exact h
    |some d=>simp only[hd]at h;exact h)
  have no:∀{f},QeN o.dst (.tup []) f (fun f=>QcH P D ops l f K k ()) ()=some r→Qfs P ops l (JL f o.dst (.tup [])) K (fun f K=>k f K=some r):=fun{f} h=>QiZ hD l (by
    unfold QeN at h;unfold JL;cases hd:o.dst with
    |none=>simp only[hd]at h;exact h
    |some d=>simp only[hd]at h;exact h)
  unfold gd
  split at h
  ·rename_i hg;simp only[hg];exact yes h
  ·rename_i j want hg
   simp only[hg];unfold ogd at h
   split at h
   ·rename_i d hj
    simp only[hj]
    split at h
    ·rename_i b hb
     simp only[hb];have e1:up f d (.b b)=f:=QoJ f d _ hb;cases b<;>cases want<;>simp at h ⊢<;>rw[e1]at h
     ·exact yes h
     ·exact no h
     ·exact no h
     ·exact yes h
    ·rename_i hb
     simp only[hb];exact no h
    ·cases h
   ·cases h
theorem Qz9[Wd]{vs:List Nat}{P:Program}{D:Orc}(hD:Qf3 P D){o:Op}{f:Fr}{K:KS}{k:AV→KS→Option β}{k':AV→KS→Prop}{l}(h:QkC vs P D o f K k l=some r)(hk:∀v K,k v K=some r→k' v K):Qiu vs P o f K k':=by
 have key:(∃g args ts,o=.call ⟨.value (.func g),args,ts⟩)∨(vOp vs o=false∧QkC vs P D o f K k l=oop P D o f K k ()):=by
  cases o with
  |call c =>
   obtain⟨cal,args,ts⟩:=c;cases cal with
   |value x =>
    cases x with
    |func g=>exact .inl ⟨g,args,ts,rfl⟩
    |_=>exact .inr ⟨rfl,rfl⟩
   |_=>exact .inr ⟨rfl,rfl⟩
  |_=>exact .inr ⟨rfl,rfl⟩
 unfold Qiu
 rcases key with⟨g,args,ts,rfl⟩|⟨hv,he⟩
 ·have h:cond (vs.contains g) (Qct P D (.call ⟨.value (.func g),args,ts⟩) f K k ()) (oop P D (.call ⟨.value (.func g),args,ts⟩) f K k ())=some r:=h
  have hv:vOp vs (.call ⟨.value (.func g),args,ts⟩)=vs.contains g:=rfl;rw[hv];cases hc:vs.contains g with
  |true =>
   rw[hc]at h;rw[if_pos rfl];exact QtS (l:=()) hD h hk
  |false =>
   rw[hc]at h;rw[if_neg (by simp)]
   exact ZU (QlN (l:=()) hD h) hk
 ·rw[he]at h
  rw[hv,if_neg (by simp)]
  exact ZU (QlN (l:=()) hD h) hk
theorem Qf9[Wd]{vs:List Nat}{P:Program}{D:Orc}(hD:Qf3 P D){ops:Array Oper}:∀(l:List Oper) {f:Fr} {K:KS} {k:Fr→KS→Option β},ZN vs P D ops l f K k ()=some r→Qin vs P ops l f K (fun f K=>k f K=some r)
 |[],f,K,k,h=>h
 |o::l,f,K,k,h=>by
  unfold ZN at h;unfold Qin Qcz;have yes:∀{f},QkC vs P D o.op f K (fun v K'=>QeN o.dst v f (fun f=>ZN vs P D ops l f K' k ()) ()) ()=some r→Qiu vs P o.op f K (fun v K'=>Qin vs P ops l (JL f o.dst v) K' (fun f K=>k f K=some r)):=fun{f} h =>
   Qz9 hD h fun v K' h=>Qf9 hD l (by
    unfold QeN at h;unfold JL;cases hd:o.dst with
    |none=>simp only[hd]at h;exact h
    |some d=>simp only[hd]at h;exact h)
  have no:∀{f},QeN o.dst (.tup []) f (fun f=>ZN vs P D ops l f K k ()) ()=some r→Qin vs P ops l (JL f o.dst (.tup [])) K (fun f K=>k f K=some r):=fun{f} h=>Qf9 hD l (by
    unfold QeN at h;unfold JL;cases hd:o.dst with
    |none=>simp only[hd]at h;exact h
    |some d=>simp only[hd]at h;exact h)
  unfold gd
  split at h
  ·rename_i hg;simp only[hg];exact yes h
  ·rename_i j want hg
   simp only[hg];unfold ogd at h
   split at h
   ·rename_i d hj
    simp only[hj]
    split at h
    ·rename_i b hb
     simp only[hb];have e1:up f d (.b b)=f:=QoJ f d _ hb;cases b<;>cases want<;>simp at h ⊢<;>rw[e1]at h
     ·exact yes h
     ·exact no h
     ·exact no h
     ·exact yes h
    ·rename_i hb
     simp only[hb];exact no h
    ·cases h
   ·cases h
theorem Qo2[Wd]{P:Program}{ops:Array Oper}:∀(l:List Oper) {f:Fr} {K:KS} {k:Fr→KS→Prop},Qfs P ops l f K k→QgU P ops l f K k ()
 |[],f,K,k,h=>h
 |o::l,f,K,k,h=>by
  unfold Qfs Qcx at h;unfold QgU;have st:∀{f:Fr} {K:KS} {d:Option Tmp} {v:AV},QbG d v f (fun f=>Qfs P ops l f K k) ()→QbG d v f (fun f=>QgU P ops l f K k ()) ():=fun{f K d v} h=>by
   rw[Qip]at h ⊢;exact Qo2 l h
  have yes:∀{f},QbH P o.op f K (fun v K'=>QbG o.dst v f (fun f=>Qfs P ops l f K' k) ()) ()→xop P o.op f K (fun v K'=>QbG o.dst v f (fun f=>QgU P ops l f K' k ()) ()) ():=fun{f} h =>
   QeM (ZU h fun v K' h=>st h)
  split at h
  ·rename_i hg;try simp only[hg]
   exact yes h
  ·rename_i j want hg
   try simp only[hg]
   unfold xgd at h ⊢
   split at h
   ·rename_i d hj
    try simp only[hj]
    split at h
    ·rename_i b hb
     unfold XBr at h ⊢;refine⟨fun hx=>?_,fun hx=>?_⟩
     ·have:=h.1 hx
      cases want
      ·exact st this
      ·exact yes this
     ·have:=h.2 hx
      cases want
      ·exact yes this
      ·exact st this
    ·rename_i hb
     exact st h
    ·exact h.elim
   ·exact h.elim
end
end Go.Proofs.YtonidbheohhgdaaGreat.Am
