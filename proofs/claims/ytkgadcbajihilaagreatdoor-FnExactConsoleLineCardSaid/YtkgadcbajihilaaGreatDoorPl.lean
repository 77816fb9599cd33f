import Derived.Test.YtkgadcbajihilaaGreatDoorPw
set_option linter.unusedVariables false
set_option linter.unusedSimpArgs false
set_option linter.defProp false
namespace Go.Proofs.YtkgadcbajihilaaGreatDoor
open Go
section
variable{α β γ σ ρ S:Type}
def Q0{l:List α}{i:Nat}(h:i<l.length):decide ((i:Int)<ln l)=true:=by unfold ln;simp;omega
def Q6{l:List α}{i:Nat}(h:l.length≤i):decide ((i:Int)<ln l)=false:=by unfold ln;simp;omega
def QP{l:List α}{i:Nat}(h:i<l.length):Q1 l (i:Int)=true:=by rw[C8];omega
def Q3[Inhabited α]{l:List α}{i:Nat}(h:i<l.length):gt l (i:Int)=l[i]:=by
 unfold gt;simp[List.getD_eq_getElem?_getD,h]
def Vg{i:Nat}(h:(i:Int)<9223372036854775807):QU ((i:Int)+1)=((i+1:Nat):Int):=by rw[VD]<;>omega
theorem Vp(l:List α):ln l=(l.length:Int):=rfl
def QgT(a b:Bool):(bif a then some b else some false)=some (a&&b):=by cases a<;>rfl
def cw(body:Nat→σ→α→Option (σ⊕ρ))(fin:σ→Option ρ):Nat→List α→σ→Option ρ
 |_,[],s=>fin s
 |i,x::xs,s=>(body i s x).bind λo=>match o with|.inl s'=>cw body fin (i+1) xs s'|.inr r=>some r
def xY(l:List α){step:S→Option (S⊕ρ)}{enc:Nat→σ→S}{body:Nat→σ→α→Option (σ⊕ρ)}{fin:σ→Option ρ}
  (h1:∀(i:Nat) (s:σ) (h:i<l.length),step (enc i s)=(body i s l[i]).map (Sum.map (enc (i+1)) id)) (h2:∀s,step (enc l.length s)=(fin s).map .inr) :
  ∀(m i:Nat) (s:σ),i+m=l.length→run step (enc i s)=cw body fin i (l.drop i) s:=by
 intro m
 induction m with
 |zero =>
  intro i s hi;have:i=l.length:=by omega
  subst this;rw[Vk,h2,List.drop_length,cw];cases fin s<;>rfl
 |succ m ih =>
  intro i s hi;have hlt:i<l.length:=by omega
  rw[Vk,h1 i s hlt,List.drop_eq_getElem_cons hlt,cw];cases body i s l[i]with
  |none=>rfl
  |some o =>
   cases o with
   |inl s'=>exact ih (i+1) s' (by omega)
   |inr r=>rfl
def IF(l:List α){step:S→Option (S⊕ρ)}(enc:Nat→σ→S)(body:Nat→σ→α→Option (σ⊕ρ))(fin:σ→Option ρ)(s:σ)
  (h1:∀(i:Nat) (s:σ) (h:i<l.length),step (enc i s)=(body i s l[i]).map (Sum.map (enc (i+1)) id)) (h2:∀s,step (enc l.length s)=(fin s).map .inr) :
  run step (enc 0 s)=cw body fin 0 l s:=by
 have:=xY l h1 h2 l.length 0 s (by omega)
 simpa using this
def DZ{body:Nat→σ→α→Option (σ⊕ρ)}{fin:σ→Option ρ}{g:σ→α→σ}:∀(l:List α) (i:Nat) (s:σ),(∀i s x,x∈l→body i s x=some (.inl (g s x)))→cw body fin i l s=fin (l.foldl g s)
 |[],i,s,h=>rfl
 |x::l,i,s,h=>by
  rw[cw,h i s x (by simp)]
  exact DZ l (i+1) (g s x) λi s y hy=>h i s y (by simp[hy])
def tg(f:α→β)(l:List α)(d:β)(i:Nat)(h:i<l.length):((l.take i).map f++List.replicate (l.length-i) d).set i (f l[i])=(l.take (i+1)).map f++List.replicate (l.length-(i+1)) d:=by
 have hl:((l.take i).map f).length=i:=by simp;omega
 rw[List.set_append_right _ _ (by omega),hl,Nat.sub_self]
 obtain⟨m,hm⟩:∃m,l.length-i=m+1:=⟨l.length-i-1,by omega⟩
 rw[hm,List.replicate_succ,List.set_cons_zero,List.take_succ_eq_append_getElem h,List.map_append];simp;omega
def II(l:List α)(f:α→β)(d:β){step:List β×Int→Option ((List β×Int)⊕List β)}(hmax:(l.length:Int)≤9223372036854775807)
  (h1:∀(i:Nat) (out:List β) (h:i<l.length),out.length=l.length→step (out,(i:Int))=some (.inl (out.set i (f l[i]),((i+1:Nat):Int)))) (h2:∀out,step (out,(l.length:Int))=some (.inr out)) :
  run step (List.replicate l.length d,0)=some (l.map f):=by
 have key:∀(m i:Nat),i+m=l.length→run step ((l.take i).map f++List.replicate (l.length-i) d,(i:Int))=some (l.map f):=by
  intro m
  induction m with
  |zero =>
   intro i hi;have:i=l.length:=by omega
   subst this;rw[Vk,h2];simp
  |succ m ih =>
   intro i hi;rw[Vk,h1 i _ (by omega) (by simp;omega),tg f l d i (by omega)]
   exact ih (i+1) (by omega)
 have:=key l.length 0 (by omega)
 simpa using this
def J2{step:S→Option (S⊕ρ)}(st:Nat→S){r:ρ}:∀(n:Nat),(∀i,i<n→step (st i)=some (.inl (st (i+1))))→step (st n)=some (.inr r)→run step (st 0)=some r:=by
 have key:∀(n:Nat) (st:Nat→S),(∀i,i<n→step (st i)=some (.inl (st (i+1))))→step (st n)=some (.inr r)→run step (st 0)=some r:=by
  intro n
  induction n with
  |zero=>intro st _ h2;rw[Vk,h2];rfl
  |succ n ih =>
   intro st h1 h2;rw[Vk,h1 0 (by omega)]
   exact ih (λi=>st (i+1)) (λi hi=>h1 (i+1) (by omega)) h2
 intro n;exact key n st
def Fj(l:List α)(p:α→Bool)(f:α→β){step:List β×Int→Option ((List β×Int)⊕List β)}
  (h1:∀(i:Nat) (out:List β) (h:i<l.length),out.length≤i→step (out,(i:Int))=some (.inl (bif p l[i]then out++[f l[i]]else out,((i+1:Nat):Int)))) (h2:∀out,step (out,(l.length:Int))=some (.inr out)) :
  run step ([],0)=some ((l.filter p).map f):=by
 have:=J2 (step:=step) (λi=>(((l.take i).filter p).map f,(i:Int))) (r:=(l.filter p).map f) l.length (λi hi=>by
  rw[h1 i _ hi (by have:=List.length_filter_le p (l.take i);simp only[List.length_map];have h3:=List.length_take_le i l;omega)]
  congr 2;rw[List.take_succ_eq_append_getElem hi,List.filter_append,List.map_append];cases hp:p l[i]<;>simp[hp]) (by rw[h2];simp)
 simpa using this
def Jo(l:List α)(p:α→Bool)(g:Nat→ρ){step:Int→Option (Int⊕(Fl ρ Unit))}
  (h1:∀(i:Nat) (h:i<l.length),step (i:Int)=some (bif p l[i]then .inr (.ret (g i))else .inl ((i+1:Nat):Int))) (h2:step (l.length:Int)=some (.inr (.brk ()))) :
  run step 0=some (match l.findIdx? p with|some i=>.ret (g i)|none=>.brk ()):=by
 have key:∀(m i:Nat),i+m=l.length→run step (i:Int)=some (match(l.drop i).findIdx? p with|some k=>.ret (g (i+k))|none=>.brk ()):=by
  intro m
  induction m with
  |zero =>
   intro i hi;have:i=l.length:=by omega
   subst this;rw[Vk,h2,List.drop_length];rfl
  |succ m ih =>
   intro i hi;have hlt:i<l.length:=by omega
   rw[Vk,h1 i hlt,List.drop_eq_getElem_cons hlt,List.findIdx?_cons];cases hp:p l[i]with
   |true=>simp
   |false =>
    have:=ih (i+1) (by omega)
    simp only[Qb,Qa];rw[this];cases (l.drop (i+1)).findIdx? p with
    |none=>simp
    |some k =>
     have e:i+1+k=i+(k+1):=by omega
     simp[e]
 have:=key l.length 0 (by omega)
 simpa using this
def C6{l:List α}{p:α→Bool}{i:Nat}(h:l.findIdx? p=some i):∃hi:i<l.length,p l[i]=true:=by
 obtain⟨hi,hp,_⟩:=List.findIdx?_eq_some_iff_getElem.1 h;exact⟨hi,hp⟩
def Ir(l:List α)(p:α→Bool){r:ρ}{step:Int→Option (Int⊕(Fl ρ Unit))}
  (h1:∀(i:Nat) (h:i<l.length),step (i:Int)=some (bif p l[i]then .inl ((i+1:Nat):Int)else .inr (.ret r))) (h2:step (l.length:Int)=some (.inr (.brk ()))) :
  run step 0=some (bif l.all p then .brk ()else .ret r):=by
 have hr:=Jo l (λx=>!p x) (λ_=>r) (step:=step) (λi h=>by rw[h1 i h];cases p l[i]<;>rfl) h2
 rw[hr];cases hf:l.findIdx? (λx=>!p x)with
 |none =>
  have:l.all p=true:=by
   rw[List.all_eq_true];intro x hx;have:=List.findIdx?_eq_none_iff.1 hf x hx;simpa using this
  rw[this];rfl
 |some i =>
  obtain⟨hi,hp⟩:=C6 hf;have:l.all p=false:=by
   rw[List.all_eq_false];exact⟨_,List.getElem_mem hi,by simpa using hp⟩
  rw[this];rfl
def qs(p:α→Bool):∀(l:List α),l.all (λx=>!p x)=!l.any p
 |[]=>rfl
 |x::l=>by rw[List.all_cons,List.any_cons,qs p l,Bool.not_or]
def MB(l:List α)(p:α→Bool){r:ρ}{step:Int→Option (Int⊕(Fl ρ Unit))}
  (h1:∀(i:Nat) (h:i<l.length),step (i:Int)=some (bif p l[i]then .inr (.ret r)else .inl ((i+1:Nat):Int))) (h2:step (l.length:Int)=some (.inr (.brk ()))) :
  run step 0=some (bif l.any p then .ret r else .brk ()):=by
 have hr:=Ir l (λx=>!p x) (r:=r) (step:=step) (λi h=>by rw[h1 i h];cases p l[i]<;>rfl) h2
 rw[hr];rw[qs];cases l.any p<;>rfl
def U3{f g:S→Option (S⊕ρ)}(I:S→Prop)(h:∀s,I s→f s=g s)(hI:∀s s',I s→g s=some (.inl s')→I s'):∀(n:Nat) (s:S),I s→iy f n s=iy g n s
 |0,s,hs=>rfl
 |n+1,s,hs=>by
  simp only[iy,h s hs];cases hg:g s with
  |none=>rfl
  |some o =>
   cases o with
   |inl s'=>exact U3 I h hI n s' (hI s s' hs hg)
   |inr r=>rfl
def sB{f g:S→Option (S⊕ρ)}(I:S→Prop)(h:∀s,I s→f s=g s)(hI:∀s s',I s→g s=some (.inl s')→I s'){s:S}(hs:I s):run f s=run g s:=by
 apply Option.ext;intro r;rw[Gu,Gu];constructor
 ·rintro⟨n,hn⟩;exact⟨n,by rw[←U3 I h hI n s hs];exact hn⟩
 ·rintro⟨n,hn⟩;exact⟨n,by rw[U3 I h hI n s hs];exact hn⟩
def k0{step:S→Option (S⊕ρ)}(st:Nat→S→Prop)(n:Nat)(h1:∀i s,i<n→st i s→(∃r,step s=some (.inr r))∨∃s',step s=some (.inl s')∧st (i+1) s')(h2:∀s,st n s→∃r,step s=some (.inr r)) :
  ∀(m i:Nat) (s:S),i+m=n→st i s→∃r,run step s=some r
 |0,i,s,hi,hs=>by
  obtain⟨r,hr⟩:=h2 s (by rw[←hi];exact hs)
  exact⟨r,by rw[Vk,hr];rfl⟩
 |m+1,i,s,hi,hs=>by
  rcases h1 i s (by omega) hs with⟨r,hr⟩|⟨s',hs',h3⟩
  ·exact⟨r,by rw[Vk,hr];rfl⟩
  ·obtain⟨r,hr⟩:=k0 st n h1 h2 m (i+1) s' (by omega) h3
   exact⟨r,by rw[Vk,hs'];exact hr⟩
def WP{α β:Type}{step:S→Option (S⊕(Fl α β))}(st:Nat→S→Prop)(n:Nat)(b:β)(h1:∀i s,i<n→st i s→(∃r,step s=some (.inr (.ret r)))∨∃s',step s=some (.inl s')∧st (i+1) s') :
  ∀(m i:Nat) (s:S),i+m=n→st i s→run step s=some (.brk b)→∀j,i≤j→j<n→∃s s',st j s∧step s=some (.inl s')
 |0,i,s,hi,hs,hr,j,hij,hj=>by omega
 |m+1,i,s,hi,hs,hr,j,hij,hj=>by
  rw[Vk]at hr
  rcases h1 i s (by omega) hs with⟨r,hr'⟩|⟨s',hs',h3⟩
  ·rw[hr']at hr;simp at hr
  ·by_cases hji:i=j
   ·subst hji;exact⟨s,s',hs,hs'⟩
   ·rw[hs']at hr
    exact WP st n b h1 m (i+1) s' (by omega) h3 hr j (by omega) hj
end
end Go.Proofs.YtkgadcbajihilaaGreatDoor
