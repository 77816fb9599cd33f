import Derived.Test.YtfhnbabcbhgffaaGreatDoorPw
set_option linter.unusedVariables false
set_option linter.unusedSimpArgs false
set_option linter.defProp false
namespace Go.Proofs.YtfhnbabcbhgffaaGreatDoor
open Go
section
variable{α β γ σ ρ S:Type}
def QY{l:List α}{i:Nat}(h:i<l.length):decide ((i:Int)<ln l)=true:=by unfold ln;simp;omega
def Q6{l:List α}{i:Nat}(h:l.length≤i):decide ((i:Int)<ln l)=false:=by unfold ln;simp;omega
def QR{l:List α}{i:Nat}(h:i<l.length):Q0 l (i:Int)=true:=by rw[AA];omega
def Q2[Inhabited α]{l:List α}{i:Nat}(h:i<l.length):gt l (i:Int)=l[i]:=by
 unfold gt;simp[List.getD_eq_getElem?_getD,h]
def Q3{i:Nat}(h:(i:Int)<9223372036854775807):QV ((i:Int)+1)=((i+1:Nat):Int):=by rw[Vt]<;>omega
theorem Vq(l:List α):ln l=(l.length:Int):=rfl
def Qbe(a b:Bool):(bif a then some b else some false)=some (a&&b):=by cases a<;>rfl
def Xe{step:S→Option (S⊕ρ)}(st:Nat→S){r:ρ}:∀(n:Nat),(∀i,i<n→step (st i)=some (.inl (st (i+1))))→step (st n)=some (.inr r)→run step (st 0)=some r:=by
 have key:∀(n:Nat) (st:Nat→S),(∀i,i<n→step (st i)=some (.inl (st (i+1))))→step (st n)=some (.inr r)→run step (st 0)=some r:=by
  intro n
  induction n with
  |zero=>intro st _ h2;rw[QZ,h2];rfl
  |succ n ih =>
   intro st h1 h2;rw[QZ,h1 0 (by omega)]
   exact ih (λi=>st (i+1)) (λi hi=>h1 (i+1) (by omega)) h2
 intro n;exact key n st
def ES(l:List α)(p:α→Bool)(f:α→β){step:List β×Int→Option ((List β×Int)⊕List β)}
  (h1:∀(i:Nat) (out:List β) (h:i<l.length),out.length≤i→step (out,(i:Int))=some (.inl (bif p l[i]then out++[f l[i]]else out,((i+1:Nat):Int)))) (h2:∀out,step (out,(l.length:Int))=some (.inr out)) :
  run step ([],0)=some ((l.filter p).map f):=by
 have:=Xe (step:=step) (λi=>(((l.take i).filter p).map f,(i:Int))) (r:=(l.filter p).map f) l.length (λi hi=>by
  rw[h1 i _ hi (by have:=List.length_filter_le p (l.take i);simp only[List.length_map];have h3:=List.length_take_le i l;omega)]
  congr 2;rw[List.take_succ_eq_append_getElem hi,List.filter_append,List.map_append];cases hp:p l[i]<;>simp[hp]) (by rw[h2];simp)
 simpa using this
def JG(l:List α)(p:α→Bool)(g:Nat→ρ){step:Int→Option (Int⊕(Fl ρ Unit))}
  (h1:∀(i:Nat) (h:i<l.length),step (i:Int)=some (bif p l[i]then .inr (.ret (g i))else .inl ((i+1:Nat):Int))) (h2:step (l.length:Int)=some (.inr (.brk ()))) :
  run step 0=some (match l.findIdx? p with|some i=>.ret (g i)|none=>.brk ()):=by
 have key:∀(m i:Nat),i+m=l.length→run step (i:Int)=some (match(l.drop i).findIdx? p with|some k=>.ret (g (i+k))|none=>.brk ()):=by
  intro m
  induction m with
  |zero =>
   intro i hi;have:i=l.length:=by omega
   subst this;rw[QZ,h2,List.drop_length];rfl
  |succ m ih =>
   intro i hi;have hlt:i<l.length:=by omega
   rw[QZ,h1 i hlt,List.drop_eq_getElem_cons hlt,List.findIdx?_cons];cases hp:p l[i]with
   |true=>simp
   |false =>
    have:=ih (i+1) (by omega)
    simp only[Qb,Qa];rw[this];cases (l.drop (i+1)).findIdx? p with
    |none=>simp
    |some k =>
     have e:i+1+k=i+(k+1):=by omega
     simp[e]
 have:=key l.length 0 (by omega)
 simpa using this
def CG{l:List α}{p:α→Bool}{i:Nat}(h:l.findIdx? p=some i):∃hi:i<l.length,p l[i]=true:=by
 obtain⟨hi,hp,_⟩:=List.findIdx?_eq_some_iff_getElem.1 h;exact⟨hi,hp⟩
def Hw(l:List α)(p:α→Bool){r:ρ}{step:Int→Option (Int⊕(Fl ρ Unit))}
  (h1:∀(i:Nat) (h:i<l.length),step (i:Int)=some (bif p l[i]then .inl ((i+1:Nat):Int)else .inr (.ret r))) (h2:step (l.length:Int)=some (.inr (.brk ()))) :
  run step 0=some (bif l.all p then .brk ()else .ret r):=by
 have hr:=JG l (λx=>!p x) (λ_=>r) (step:=step) (λi h=>by rw[h1 i h];cases p l[i]<;>rfl) h2
 rw[hr];cases hf:l.findIdx? (λx=>!p x)with
 |none =>
  have:l.all p=true:=by
   rw[List.all_eq_true];intro x hx;have:=List.findIdx?_eq_none_iff.1 hf x hx;simpa using this
  rw[this];rfl
 |some i =>
  obtain⟨hi,hp⟩:=CG hf;have:l.all p=false:=by
   rw[List.all_eq_false];exact⟨_,List.getElem_mem hi,by simpa using hp⟩
  rw[this];rfl
def kG(p:α→Bool):∀(l:List α),l.all (λx=>!p x)=!l.any p
 |[]=>rfl
 |x::l=>by rw[List.all_cons,List.any_cons,kG p l,Bool.not_or]
def LH(l:List α)(p:α→Bool){r:ρ}{step:Int→Option (Int⊕(Fl ρ Unit))}
  (h1:∀(i:Nat) (h:i<l.length),step (i:Int)=some (bif p l[i]then .inr (.ret r)else .inl ((i+1:Nat):Int))) (h2:step (l.length:Int)=some (.inr (.brk ()))) :
  run step 0=some (bif l.any p then .ret r else .brk ()):=by
 have hr:=Hw l (λx=>!p x) (r:=r) (step:=step) (λi h=>by rw[h1 i h];cases p l[i]<;>rfl) h2
 rw[hr];rw[kG];cases l.any p<;>rfl
def S2{f g:S→Option (S⊕ρ)}(I:S→Prop)(h:∀s,I s→f s=g s)(hI:∀s s',I s→g s=some (.inl s')→I s'):∀(n:Nat) (s:S),I s→aM f n s=aM g n s
 |0,s,hs=>rfl
 |n+1,s,hs=>by
  simp only[aM,h s hs];cases hg:g s with
  |none=>rfl
  |some o =>
   cases o with
   |inl s'=>exact S2 I h hI n s' (hI s s' hs hg)
   |inr r=>rfl
def py{f g:S→Option (S⊕ρ)}(I:S→Prop)(h:∀s,I s→f s=g s)(hI:∀s s',I s→g s=some (.inl s')→I s'){s:S}(hs:I s):run f s=run g s:=by
 apply Option.ext;intro r;rw[E2,E2];constructor
 ·rintro⟨n,hn⟩;exact⟨n,by rw[←S2 I h hI n s hs];exact hn⟩
 ·rintro⟨n,hn⟩;exact⟨n,by rw[S2 I h hI n s hs];exact hn⟩
def ff{step:S→Option (S⊕ρ)}(st:Nat→S→Prop)(n:Nat)(h1:∀i s,i<n→st i s→(∃r,step s=some (.inr r))∨∃s',step s=some (.inl s')∧st (i+1) s')(h2:∀s,st n s→∃r,step s=some (.inr r)) :
  ∀(m i:Nat) (s:S),i+m=n→st i s→∃r,run step s=some r
 |0,i,s,hi,hs=>by
  obtain⟨r,hr⟩:=h2 s (by rw[←hi];exact hs)
  exact⟨r,by rw[QZ,hr];rfl⟩
 |m+1,i,s,hi,hs=>by
  rcases h1 i s (by omega) hs with⟨r,hr⟩|⟨s',hs',h3⟩
  ·exact⟨r,by rw[QZ,hr];rfl⟩
  ·obtain⟨r,hr⟩:=ff st n h1 h2 m (i+1) s' (by omega) h3
   exact⟨r,by rw[QZ,hs'];exact hr⟩
def TL{α β:Type}{step:S→Option (S⊕(Fl α β))}(st:Nat→S→Prop)(n:Nat)(b:β)(h1:∀i s,i<n→st i s→(∃r,step s=some (.inr (.ret r)))∨∃s',step s=some (.inl s')∧st (i+1) s') :
  ∀(m i:Nat) (s:S),i+m=n→st i s→run step s=some (.brk b)→∀j,i≤j→j<n→∃s s',st j s∧step s=some (.inl s')
 |0,i,s,hi,hs,hr,j,hij,hj=>by omega
 |m+1,i,s,hi,hs,hr,j,hij,hj=>by
  rw[QZ]at hr
  rcases h1 i s (by omega) hs with⟨r,hr'⟩|⟨s',hs',h3⟩
  ·rw[hr']at hr;simp at hr
  ·by_cases hji:i=j
   ·subst hji;exact⟨s,s',hs,hs'⟩
   ·rw[hs']at hr
    exact TL st n b h1 m (i+1) s' (by omega) h3 hr j (by omega) hj
end
end Go.Proofs.YtfhnbabcbhgffaaGreatDoor
