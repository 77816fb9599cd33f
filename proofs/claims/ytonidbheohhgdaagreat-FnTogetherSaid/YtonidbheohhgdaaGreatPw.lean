import GoSem.Core.View
import Derived.Lib.SlicesCompact
namespace Go.Proofs.YtonidbheohhgdaaGreat
open Go
set_option linter.unusedVariables false
abbrev Hk{α:Sort _}(_:α):Type:=Unit
section
variable{α β γ σ ρ:Type}
def Vf(b:Bool)(q:Option β)(_:Hk q):Option β:=cond b q none
abbrev nd(b:Bool)(q:Option β):Option β:=Vf b q ()
def inb(l:List α)(i:Int):Bool:=decide (0≤i)&&decide (i<l.length)
def gt[Inhabited α](l:List α)(i:Int):α:=l.getD i.toNat default
def ln(r:List α):Int:=r.length
def w64(n:Int):Int:=(n+9223372036854775808)%18446744073709551616-9223372036854775808
def Qui(n:Nat)(i:Int):Bool:=decide (0≤i)&&decide (i<n)
def slB(l h n:Int):Bool:=decide (0≤l)&&(decide (l≤h)&&decide (h≤n))
def cut(xs:List α)(l h:Int):List α:=(xs.take h.toNat).drop l.toNat
def QMn(x y:List UInt8):List UInt8:=x++y
def QGH(x y:List UInt8):Bool:=decide (x.length+y.length≤9223372036854775807)
def V3(l:List Int):List Int:=l.mergeSort fun x y=>decide (x≤y)
def Xd(l:List Int):List Int:=Go.Lib.compact l
def mkB(l:Int)(b:Nat):Bool:=decide (0≤l)&&decide (l*b≤140737488355328)
def Vx(l:List α)(i:Int)(v:List α):List α:=l.take i.toNat++(v++l.drop i.toNat)
def Qup(l:List α)(i:Int)(v:List α)(b:Nat):Bool:=decide (0≤i)&&(decide (i≤l.length)&&(decide (0<v.length)&&decide ((l.length+v.length)*b≤140737488355328)))
def i64(n:Int):Prop:=-9223372036854775808≤n∧n≤9223372036854775807
def QzS(k:IntKind)(n:Int):Prop:=k.min≤n∧n≤k.max
def Qw6(x:List UInt8):Prop:=x.length≤9223372036854775807
def okL(ok:α→Prop)(xs:List α):Prop:=xs.length≤9223372036854775807∧∀x∈xs,ok x
def rm(n b:Nat):Bool:=decide (n*b≤140737488355328)
@[congr] theorem QFO {b b':Bool} {q q':Option β} {l:Hk q} (hb:b=b') (hq:b'=true→q=q'):Vf b q l=Vf b' q' ():=by
 subst hb;cases b with
 |false=>rfl
 |true=>exact hq rfl
theorem Qa(q:Option β)(l):Vf true q l=q:=_root_.id rfl
theorem Qb4{xs:List α}{i:Int}:inb xs i=true↔0≤i∧i<xs.length:=by simp[inb]
theorem QS{n:Int}(h0:-9223372036854775808≤n)(h1:n≤9223372036854775807):w64 n=n:=by unfold w64;omega
theorem Qw4(n:Int):IntKind.i64.wrap n=w64 n:=by
 unfold IntKind.wrap w64;simp only[show IntKind.i64.bits=64 from rfl,show IntKind.i64.signed=true from rfl];simp
 split<;>omega
inductive Fl (ρ β:Type) where
 |ret (r:ρ)
 |brk (b:β)
def evO(p:ρ→γ)(q:β→γ):Fl ρ β→γ
 |.ret r=>p r
 |.brk b=>q b
theorem Qv2(p:ρ→γ)(q:β→γ)(r):evO p q (.ret r)=p r:=_root_.id rfl
theorem QGw(p:ρ→γ)(q:β→γ)(r):evO p q (.brk r)=q r:=_root_.id rfl
end
section
variable{σ ρ:Type}
def itr(step:σ→Option (σ⊕ρ)):Nat→σ→Option ρ
 |0,_=>none
 |n+1,s=>(step s).bind fun o=>match o with|.inl s=>itr step n s|.inr r=>some r
open Classical in
noncomputable def run(step:σ→Option (σ⊕ρ))(s:σ):Option ρ :=
 if h:∃r,∃n,itr step n s=some r then some h.choose else none
theorem Qk9(step:σ→Option (σ⊕ρ)):∀{n m:Nat} {s:σ} {r:ρ},itr step n s=some r→n≤m→itr step m s=some r
 |0,_,_,_,h,_=>by cases h
 |n+1,0,_,_,_,h=>by omega
 |n+1,m+1,s,r,h,hm=>by
  simp only[itr]at h ⊢;obtain⟨o,h1,h2⟩:=Option.bind_eq_some_iff.1 h;rw[h1];simp only[Option.bind_some];cases o with
  |inl s'=>exact Qk9 step h2 (by omega)
  |inr r'=>exact h2
theorem Qcv{step:σ→Option (σ⊕ρ)}{s:σ}{r:ρ}:run step s=some r↔∃n,itr step n s=some r:=by
 unfold run;constructor
 ·intro h
  split at h
  ·rename_i hx
   injection h with h
   subst h;exact hx.choose_spec
  ·cases h
 ·rintro⟨n,hn⟩
  have hx:∃r,∃n,itr step n s=some r:=⟨r,n,hn⟩;rw[dif_pos hx];obtain⟨m,hm⟩:=hx.choose_spec;have h1:=Qk9 step hm (Nat.le_max_left m n);have h2:=Qk9 step hn (Nat.le_max_right m n);rw[h1]at h2;injection h2 with h2;rw[h2]
theorem Qg(step:σ→Option (σ⊕ρ))(s:σ):run step s=(step s).bind fun o=>match o with|.inl s=>run step s|.inr r=>some r:=by
 apply Option.ext;intro r;rw[Qcv];constructor
 ·rintro⟨n,hn⟩
  cases n with
  |zero=>cases hn
  |succ n =>
   simp only[itr]at hn;obtain⟨o,h1,h2⟩:=Option.bind_eq_some_iff.1 hn;refine Option.bind_eq_some_iff.2 ⟨o,h1,?_⟩;cases o with
   |inl s'=>exact Qcv.2 ⟨n,h2⟩
   |inr r'=>exact h2
 ·intro h
  obtain⟨o,h1,h2⟩:=Option.bind_eq_some_iff.1 h;cases o with
  |inl s' =>
   obtain⟨n,hn⟩:=Qcv.1 h2;exact⟨n+1,by simp only[itr,h1,Option.bind_some];exact hn⟩
  |inr r'=>exact⟨1,by simp only[itr,h1,Option.bind_some];exact h2⟩
theorem QoK{σ' ρ':Type}{step:σ→Option (σ⊕ρ)}{step':σ'→Option (σ'⊕ρ')}{E:σ'→σ}{O:ρ'→ρ}(h:∀s,step (E s)=(step' s).map (Sum.map E O)):∀(n:Nat) (s:σ'),itr step n (E s)=(itr step' n s).map O
 |0,_=>rfl
 |n+1,s=>by
  simp only[itr,h];cases h1:step' s with
  |none=>rfl
  |some o =>
   cases o with
   |inl s'=>simp only[Option.map_some,Option.bind_some,Sum.map_inl];exact QoK h n s'
   |inr r=>rfl
theorem run_map{σ' ρ':Type}{step:σ→Option (σ⊕ρ)}{step':σ'→Option (σ'⊕ρ')}(E:σ'→σ)(O:ρ'→ρ)(h:∀s,step (E s)=(step' s).map (Sum.map E O))(s:σ'):run step (E s)=(run step' s).map O:=by
 apply Option.ext;intro r;rw[Qcv];constructor
 ·rintro⟨n,hn⟩
  rw[QoK h]at hn;obtain⟨r',h1,h2⟩:=Option.map_eq_some_iff.1 hn;exact Option.map_eq_some_iff.2 ⟨r',Qcv.2 ⟨n,h1⟩,h2⟩
 ·intro hr
  obtain⟨r',h1,h2⟩:=Option.map_eq_some_iff.1 hr;obtain⟨n,hn⟩:=Qcv.1 h1;exact⟨n,by rw[QoK h,hn];exact congrArg some h2⟩
theorem aI{a b:Prop}(x:a)(y:b):a∧b:=⟨x,y⟩
theorem QP{A σ ρ ρ':Type}{step:σ→Option (σ⊕ρ)}{step':A→Option ((A)⊕ρ')}{U:A→σ}{O:ρ'→ρ}(a:A)(hh:∀a,step (U a)=(step' a).map (Sum.map (fun z=>U z) O)):run step (U a)=(run step' a).map O:=run_map (fun z=>U z) O (fun a=>hh a) a
theorem Ve{A B σ ρ ρ':Type}{step:σ→Option (σ⊕ρ)}{step':A×B→Option ((A×B)⊕ρ')}{U:A→B→σ}{O:ρ'→ρ}(a:A)(b:B)(hh:∀a b,step (U a b)=(step' (a,b)).map (Sum.map (fun z=>U z.1 z.2) O)):run step (U a b)=(run step' (a,b)).map O:=run_map (fun z=>U z.1 z.2) O (fun⟨a,b⟩=>hh a b) (a,b)
theorem QdQ{A B C σ ρ ρ':Type}{step:σ→Option (σ⊕ρ)}{step':A×B×C→Option ((A×B×C)⊕ρ')}{U:A→B→C→σ}{O:ρ'→ρ}(a:A)(b:B)(c:C)(hh:∀a b c,step (U a b c)=(step' (a,b,c)).map (Sum.map (fun z=>U z.1 z.2.1 z.2.2) O)):run step (U a b c)=(run step' (a,b,c)).map O:=run_map (fun z=>U z.1 z.2.1 z.2.2) O (fun⟨a,b,c⟩=>hh a b c) (a,b,c)
end
def shI(op:BinOp)(c:IntKind)(a b:Int):Int:=match op with
 |.shl=>c.wrap (a*2^(min b.toNat c.bits))
 |_=>a.fdiv (2^(min b.toNat c.bits))
def QeC(op:BinOp)(c:IntKind)(a b:Int):Int:=match op with
 |.and=>c.wrap (((a%2^c.bits).toNat &&& (b%2^c.bits).toNat:Nat):Int)
 |.or=>c.wrap (((a%2^c.bits).toNat ||| (b%2^c.bits).toNat:Nat):Int)
 |_=>c.wrap (((a%2^c.bits).toNat ^^^ (b%2^c.bits).toNat:Nat):Int)
end Go.Proofs.YtonidbheohhgdaaGreat
