import GoSem.Core.View
import Derived.Lib.SlicesCompact
set_option linter.unusedVariables false
set_option linter.defProp false
namespace Go.Proofs.YtfhnbabcbhgffaaGreatDoor
open Go
theorem Qa{α β}(a:α)(f:α→Option β):(some a).bind f=f a:=rfl
theorem Qb{α}(a b:α):cond false a b=b:=rfl
theorem Qc{α}(a b:α):cond true a b=a:=rfl
theorem Qe{p:Prop}[Decidable p]:¬p→decide p=false:=_root_.decide_eq_false
theorem Qf{p:Prop}[Decidable p]:p→decide p=true:=_root_.decide_eq_true
theorem Qg(n:Nat):n≤n:=Nat.le.refl
theorem Qh:(!true)=false:=rfl
theorem Qi:(!false)=true:=rfl
theorem Qj{α}{a:α}:a=a:=_root_.id rfl
theorem Qk{a b c d e f g:Prop}(x:a)(y:b)(z:c)(u:d)(v:e)(w:f)(r:g):a∧b∧c∧d∧e∧f∧g:=⟨x,y,z,u,v,w,r⟩
abbrev Hk{α:Sort _}(_:α):Type:=Unit
section
variable{α β γ σ ρ:Type}
def Xi(b:Bool)(q:Option β)(_:Hk q):Option β:=cond b q none
abbrev nd(b:Bool)(q:Option β):Option β:=Xi b q ()
def Q0(l:List α)(i:Int):Bool:=decide (0≤i)&&decide (i<l.length)
def gt[Inhabited α](l:List α)(i:Int):α:=l.getD i.toNat default
def ln(r:List α):Int:=r.length
def QV(n:Int):Int:=(n+9223372036854775808)%18446744073709551616-9223372036854775808
def dJ(n:Nat)(i:Int):Bool:=decide (0≤i)&&decide (i<n)
def Cy(l h n:Int):Bool:=decide (0≤l)&&(decide (l≤h)&&decide (h≤n))
def cut(xs:List α)(l h:Int):List α:=(xs.take h.toNat).drop l.toNat
def QP(x y:List UInt8):List UInt8:=x++y
def VK(x y:List UInt8):Bool:=decide (x.length+y.length≤9223372036854775807)
def Aw(l:List Int):List Int:=l.mergeSort λx y=>decide (x≤y)
def ZR(l:List Int):List Int:=Go.Lib.compact l
def mkB(l:Int)(b:Nat):Bool:=decide (0≤l)&&decide (l*b≤140737488355328)
def V5(l:List α)(i:Int)(v:List α):List α:=l.take i.toNat++(v++l.drop i.toNat)
def HL(l:List α)(i:Int)(v:List α)(b:Nat):Bool:=decide (0≤i)&&(decide (i≤l.length)&&(decide (0<v.length)&&decide ((l.length+v.length)*b≤140737488355328)))
def i64(n:Int):Prop:=-9223372036854775808≤n∧n≤9223372036854775807
def xJ(k:IntKind)(n:Int):Prop:=k.min≤n∧n≤k.max
def sU(x:List UInt8):Prop:=x.length≤9223372036854775807
def okL(ok:α→Prop)(xs:List α):Prop:=xs.length≤9223372036854775807∧∀x∈xs,ok x
def rm(n b:Nat):Bool:=decide (n*b≤140737488355328)
@[congr] theorem Qdb {b b':Bool} {q q':Option β} {l:Hk q} (hb:b=b') (hq:b'=true→q=q'):Xi b q l=Xi b' q' ():=by
 subst hb;cases b with
 |false=>rfl
 |true=>exact hq rfl
def QL(q:Option β)(l):Xi true q l=q:=Qj
def AA{xs:List α}{i:Int}:Q0 xs i=true↔0≤i∧i<xs.length:=by simp[Q0]
def Vt{n:Int}(h0:-9223372036854775808≤n)(h1:n≤9223372036854775807):QV n=n:=by unfold QV;omega
def vm(n:Int):IntKind.i64.wrap n=QV n:=by
 unfold IntKind.wrap QV;simp only[show IntKind.i64.bits=64 from rfl,show IntKind.i64.signed=true from rfl];simp
 split<;>omega
inductive Fl (ρ β:Type) where
 |ret (r:ρ)
 |brk (b:β)
def Zy(p:ρ→γ)(q:β→γ):Fl ρ β→γ
 |.ret r=>p r
 |.brk b=>q b
def gz(p:ρ→γ)(q:β→γ)(r):Zy p q (.ret r)=p r:=Qj
def Qma(p:ρ→γ)(q:β→γ)(r):Zy p q (.brk r)=q r:=Qj
end
section
variable{σ ρ:Type}
def aM(step:σ→Option (σ⊕ρ)):Nat→σ→Option ρ
 |0,_=>none
 |n+1,s=>(step s).bind λo=>match o with|.inl s=>aM step n s|.inr r=>some r
open Classical in
noncomputable def run(step:σ→Option (σ⊕ρ))(s:σ):Option ρ :=
 if h:∃r,∃n,aM step n s=some r then some h.choose else none
def Yv(step:σ→Option (σ⊕ρ)):∀{n m:Nat} {s:σ} {r:ρ},aM step n s=some r→n≤m→aM step m s=some r
 |0,_,_,_,h,_=>by cases h
 |n+1,0,_,_,_,h=>by omega
 |n+1,m+1,s,r,h,hm=>by
  simp only[aM]at h ⊢;obtain⟨o,h1,h2⟩:=Option.bind_eq_some_iff.1 h;rw[h1];simp only[Qa];cases o with
  |inl s'=>exact Yv step h2 (by omega)
  |inr r'=>exact h2
def E2{step:σ→Option (σ⊕ρ)}{s:σ}{r:ρ}:run step s=some r↔∃n,aM step n s=some r:=by
 unfold run;constructor
 ·intro h
  split at h
  ·rename_i hx
   injection h with h
   subst h;exact hx.choose_spec
  ·cases h
 ·rintro⟨n,hn⟩
  have hx:∃r,∃n,aM step n s=some r:=⟨r,n,hn⟩;rw[dif_pos hx];obtain⟨m,hm⟩:=hx.choose_spec;have h1:=Yv step hm (Nat.le_max_left m n);have h2:=Yv step hn (Nat.le_max_right m n);rw[h1]at h2;injection h2 with h2;rw[h2]
def QZ(step:σ→Option (σ⊕ρ))(s:σ):run step s=(step s).bind λo=>match o with|.inl s=>run step s|.inr r=>some r:=by
 apply Option.ext;intro r;rw[E2];constructor
 ·rintro⟨n,hn⟩
  cases n with
  |zero=>cases hn
  |succ n =>
   simp only[aM]at hn;obtain⟨o,h1,h2⟩:=Option.bind_eq_some_iff.1 hn;refine Option.bind_eq_some_iff.2 ⟨o,h1,?_⟩;cases o with
   |inl s'=>exact E2.2 ⟨n,h2⟩
   |inr r'=>exact h2
 ·intro h
  obtain⟨o,h1,h2⟩:=Option.bind_eq_some_iff.1 h;cases o with
  |inl s' =>
   obtain⟨n,hn⟩:=E2.1 h2;exact⟨n+1,by simp only[aM,h1,Qa];exact hn⟩
  |inr r'=>exact⟨1,by simp only[aM,h1,Qa];exact h2⟩
def dg{σ' ρ':Type}{step:σ→Option (σ⊕ρ)}{step':σ'→Option (σ'⊕ρ')}{E:σ'→σ}{O:ρ'→ρ}(h:∀s,step (E s)=(step' s).map (Sum.map E O)):∀(n:Nat) (s:σ'),aM step n (E s)=(aM step' n s).map O
 |0,_=>rfl
 |n+1,s=>by
  simp only[aM,h];cases h1:step' s with
  |none=>rfl
  |some o =>
   cases o with
   |inl s'=>simp only[Option.map_some,Qa,Sum.map_inl];exact dg h n s'
   |inr r=>rfl
def run_map{σ' ρ':Type}{step:σ→Option (σ⊕ρ)}{step':σ'→Option (σ'⊕ρ')}(E:σ'→σ)(O:ρ'→ρ)(h:∀s,step (E s)=(step' s).map (Sum.map E O))(s:σ'):run step (E s)=(run step' s).map O:=by
 apply Option.ext;intro r;rw[E2];constructor
 ·rintro⟨n,hn⟩
  rw[dg h]at hn;obtain⟨r',h1,h2⟩:=Option.map_eq_some_iff.1 hn;exact Option.map_eq_some_iff.2 ⟨r',E2.2 ⟨n,h1⟩,h2⟩
 ·intro hr
  obtain⟨r',h1,h2⟩:=Option.map_eq_some_iff.1 hr;obtain⟨n,hn⟩:=E2.1 h1;exact⟨n,by rw[dg h,hn];exact congrArg some h2⟩
def aI{a b:Prop}(x:a)(y:b):a∧b:=⟨x,y⟩
def qS{σ ρ ρ':Type}{step:σ→Option (σ⊕ρ)}{step':Unit→Option (Unit⊕ρ')}{U:σ}{O:ρ'→ρ}(h:step U=(step' ()).map (Sum.map (λ_=>U) O)):run step U=(run step' ()).map O:=run_map (λ_=>U) O (λ_=>h) ()
def Q9{A σ ρ ρ':Type}{step:σ→Option (σ⊕ρ)}{step':A→Option ((A)⊕ρ')}{U:A→σ}{O:ρ'→ρ}(a:A)(hh:∀a,step (U a)=(step' a).map (Sum.map (λz=>U z) O)):run step (U a)=(run step' a).map O:=run_map (λz=>U z) O (λa=>hh a) a
def VF{A B σ ρ ρ':Type}{step:σ→Option (σ⊕ρ)}{step':A×B→Option ((A×B)⊕ρ')}{U:A→B→σ}{O:ρ'→ρ}(a:A)(b:B)(hh:∀a b,step (U a b)=(step' (a,b)).map (Sum.map (λz=>U z.1 z.2) O)):run step (U a b)=(run step' (a,b)).map O:=run_map (λz=>U z.1 z.2) O (λ⟨a,b⟩=>hh a b) (a,b)
def HC{A B C σ ρ ρ':Type}{step:σ→Option (σ⊕ρ)}{step':A×B×C→Option ((A×B×C)⊕ρ')}{U:A→B→C→σ}{O:ρ'→ρ}(a:A)(b:B)(c:C)(hh:∀a b c,step (U a b c)=(step' (a,b,c)).map (Sum.map (λz=>U z.1 z.2.1 z.2.2) O)):run step (U a b c)=(run step' (a,b,c)).map O:=run_map (λz=>U z.1 z.2.1 z.2.2) O (λ⟨a,b,c⟩=>hh a b c) (a,b,c)
end
def zJ(op:BinOp)(c:IntKind)(a b:Int):Int:=match op with
 |.shl=>c.wrap (a*2^(min b.toNat c.bits))
 |_=>a.fdiv (2^(min b.toNat c.bits))
def KC(op:BinOp)(c:IntKind)(a b:Int):Int:=match op with
 |.and=>c.wrap (((a%2^c.bits).toNat &&& (b%2^c.bits).toNat:Nat):Int)
 |.or=>c.wrap (((a%2^c.bits).toNat ||| (b%2^c.bits).toNat:Nat):Int)
 |_=>c.wrap (((a%2^c.bits).toNat ^^^ (b%2^c.bits).toNat:Nat):Int)
end Go.Proofs.YtfhnbabcbhgffaaGreatDoor
