import Derived.Test.YtfhnbabcbhgffaaGreatDoorZs
import Derived.Test.YtfhnbabcbhgffaaGreatDoorSt
import Derived.Test.YtfhnbabcbhgffaaGreatDoorSg
import Derived.Test.YtfhnbabcbhgffaaGreatDoorSpc
import Derived.Test.YtfhnbabcbhgffaaGreatDoorEc
import Derived.MakeChecks
import Derived.Shelf.Unicode.PredsPay
import Derived.Stop.LaidErr
set_option linter.unusedVariables false
set_option linter.unusedSimpArgs false
set_option maxRecDepth 100000
set_option linter.defProp false
namespace Go.Proofs.YtfhnbabcbhgffaaGreatDoor
open Go Go.Proofs Go.Proofs.YtfhnbabcbhgffaaGreatDoor.Am
def QbU:Tryz.prog.globalNamed "internal/strconv.uint64pow10" = some 3:=by kernel_rfl
def oy{w w':World}{a:Addr}{v:Value}(h:Go.RowKit.Below w.heap.size w w')(hc:w.cell? a=some v):w'.cell? a=some v:=by
 have hb:=World.block_lt_of_cell? _ _ hc;rw[←hc];unfold World.cell?;rw[h.block _ hb]
instance wd0:Wd:=⟨λw=>Lib.TabIs Tryz.prog w "internal/strconv.uint64pow10" .u64 Lib.pow10Tab∧∃m,w.cell? ⟨0,0,none⟩=some (.int .i64 m),λhe h=>⟨TabIs_below QbU h.1 (he.below (λ_ h=>h)),let⟨m,hm⟩:=h.2;⟨m,oy (he.below (λ_ h=>h)) hm⟩⟩⟩
def QbY{w:World}(h:wd0.I w):∃m,w.cell? ⟨0,0,none⟩=some (.int .i64 m):=h.2
def pn:SortP Tryz.prog 273 :=
 SortP.of (EnterOK.of (fn:=Tryz.f273) Tryz.func273 rfl (by decide)) (λblk off cap zs w h1 h2 h3=>Tryz.slices_Sort_int blk off cap zs w h1 h2 h3) (λp cap w=>Tryz.slices_Sort_int_none p cap w)
def QpT:∀g,T.st g=true→SortP T.P g:=by
 intro g h;have h':Nat.beq g 273=true:=h;have hg:g=273:=Nat.eq_of_beq_eq_true h';subst hg;exact pn
def pd:CompP Tryz.prog 295 :=
 CompP.of (EnterOK.of (fn:=Tryz.f295) Tryz.func295 rfl (by decide)) (λblk off cap zs w h1 h2 h3=>Tryz.slices_Compact_int blk off cap zs w h1 h2 h3) (λp cap w=>Tryz.slices_Compact_int_empty p cap w)
def Qou:∀g,T.qt g=true→CompP T.P g:=by
 intro g h;have h':Nat.beq g 295=true:=h;have hg:g=295:=Nat.eq_of_beq_eq_true h';subst hg;exact pd
def oS(x:Int)(h0:0≤x)(h1:x≤17592186044416):PC Tryz.prog 316 [.nil,.i .i64 x] (·=.own 1 []) :=
 wz (EnterOK.of (fn:=Tryz.f316) Tryz.func316 rfl (by decide)) (λbase l c n w h1 h2 h3 h4=>Any8.slices_Grow_room Tryz.growI base l c n w h1 h2 h3 h4)
  (λbase l c n cs w h1 h2 h3 h4 h5 h6 h7=>Calls.mono (Any8.slices_Grow_grow Tryz.growI _ (.int .i64 0) rfl rfl (by decide) base l c n cs w h1 h2 h3 h4 h5 h6 h7) λe w' h=>⟨_,h⟩) x h0 h1
def uE(w:World)(k:Nat)(os:Array Obj):Ext FF w (Sort.grow (w.drewN k) os):=by
 have hb:Go.RowKit.Below w.heap.size w (Sort.grow (w.drewN k) os):=by
  refine⟨rfl,rfl,rfl,?_,λb hb=>?_⟩
  ·show w.heap.size≤(w.heap++os).size
   simp
  ·show(w.heap++os)[b]?=w.heap[b]?
   rw[Array.getElem?_append_left hb]
 exact Ext.of_below hb _
def wq(x:Int)(h0:-9223372036854775808≤x)(h1:x≤9223372036854775807):PC Tryz.prog 129 [.i .i64 x] (·=.s (Lib.itoa x)):=by
 refine⟨EnterOK.of (fn:=Tryz.f129) Tryz.func129 rfl (by decide),λw vs hI hX=>?_⟩
 simp only[XRs,XR]at hX;obtain⟨v,vs',n1,n2,rfl,hn,⟨rfl,_⟩,rfl,_⟩:=hX;refine Calls.mono (Tryz.strconv_Itoa x h0 h1 w hI.1) ?_;rintro e w' ⟨rfl,k,os,rfl⟩;exact⟨_,_,[],rfl,rfl,by simp[XR],List.nodup_nil,by simp,uE w k os⟩
def Yh{w:World}{O:Nat→Prop}{E:EI}:∀{l:List (List UInt8)} {bl off:Nat} {nb:List Nat},RR w O E 1 bl off (l.map IW) nb →
  ∀(j:Nat) x,(l.map λx=>(⟨x.toArray⟩:ByteArray))[j]?=some x→w.cell? ⟨bl,off+j,none⟩=some (.string x)
 |[],bl,off,nb,_,j,x,hj=>by simp at hj
 |y::l,bl,off,nb,h,j,x,hj=>by
  simp only[List.map_cons,fi,RR,CR,XR]at h;obtain⟨n1,n2,_,_,⟨v,m1,m2,⟨hv,_⟩,_,⟨rfl,_⟩,_⟩,hrr⟩:=h;cases j with
  |zero =>
   simp only[List.map_cons,List.getElem?_cons_zero,Option.some.injEq]at hj;subst hj;simpa using hv
  |succ j =>
   have:=Yh hrr j x (by simpa using hj)
   rw[show off+(j+1)=off+1+j by omega]
   exact this
def zb(l:List (List UInt8))(s:List UInt8)(h0:l.length≤140737488355328)(h1:(Lib.join l s).length≤140737488355328):PC Tryz.prog 20 [.imm 1 (l.map IW),.s s] (·=.s (Lib.join l s)):=by
 refine⟨EnterOK.of (fn:=Tryz.f20) Tryz.func20 rfl (by decide),λw vs hI hX=>?_⟩
 obtain⟨v,vs',n1,n2,rfl,hn,⟨_,a,cap,rfl,hcap,hr⟩,hX2⟩:=hX;simp only[XRs,XR]at hX2;obtain⟨v',vs'',n1',n2',rfl,hn',⟨rfl,_⟩,rfl,_⟩:=hX2;rw[List.length_map]at hcap ⊢
 rcases hr with hr|⟨bl,off,rfl,_,hbl,hrr⟩
 ·have hl:l=[]:=by simpa using hr
  subst hl;refine Calls.mono (Tryz.strings_Join_none a cap ⟨s.toArray⟩ w) ?_;rintro e w' ⟨rfl,rfl⟩;exact⟨_,_,[],rfl,rfl,by simp[XR,Lib.join_nil],List.nodup_nil,by simp,Ext.refl _ _⟩
 ·have hm:(l.map λx=>(⟨x.toArray⟩:ByteArray)).map (·.data.toList)=l:=by
   rw[List.map_map];exact(congrArg (λf=>l.map f) (show((λb:ByteArray=>b.data.toList) ∘ λx:List UInt8=>(⟨x.toArray⟩:ByteArray))=id from rfl)).trans (List.map_id l)
  have hlen:(l.map λx=>(⟨x.toArray⟩:ByteArray)).length=l.length:=by simp
  have hc:=Tryz.strings_Join bl off cap (l.map λx=>⟨x.toArray⟩) ⟨s.toArray⟩ w (Yh hrr) hbl (by rw[hlen];exact h0) (by rw[hlen];exact hcap) (by rw[hm];exact h1)
  rw[hm,hlen]at hc;refine Calls.mono hc ?_;rintro e w' ⟨rfl,hb⟩;exact⟨_,_,[],rfl,rfl,by simp[XR],List.nodup_nil,by simp,Ext.of_below hb _⟩
def bO:∀{R:List (List AV)} {l:List (List UInt8)},Pj R=some l→R=l.map IW
 |[],l,h=>by injection h with h;subst h;rfl
 |r::R,l,h=>by
  unfold Pj at h
  split at h
  ·rename_i he;cases he
  ·rename_i x r' he
   injection he with e1 e2
   subst e1 e2;obtain⟨l',h1,h2⟩:=Option.map_eq_some_iff.1 h;subst h2;rw[bO h1];rfl
  ·cases h
def IC{β:Type}{b:Bool}{q:Option β}{l}{r:β}(h:Xi b q l=some r):b=true∧q=some r:=by
 cases b with
 |false=>cases h
 |true=>exact⟨rfl,h⟩
def jV(x y:List UInt8)(h0:x.length<4294967281)(h1:1≤y.length):PC Tryz.prog 16 [.s x,.s y] (·=.own 1 ((Lib.split x y).map IW)) :=
 vr (t:=9) (EnterOK.of (fn:=Tryz.f16) Tryz.func16 rfl (by decide)) (λs sep w hI h0 h1=>let⟨m,hm⟩:=QbY hI;Any.strings_Split { Tryz.laysM146 with } Tryz.laysM146.i9 s sep m w h0 hm h1) x y h0 h1
def q9(x y:List UInt8)(h0:x.length<4294967281):PC Tryz.prog 122 [.s x,.s y] (·=.tup [.s (Lib.cut x y).1,.s (Lib.cut x y).2.1,.b (Lib.cut x y).2.2]) :=
 Qfd (EnterOK.of (fn:=Tryz.f122) Tryz.func122 rfl (by decide)) (λs sep w hI h0=>let⟨m,hm⟩:=QbY hI;Any.strings_Cut { Tryz.laysM145 with } s sep m w h0 hm) x y h0
def QpN:∀g args x,T.xt g args=some x→PC T.P g args (·=x):=by
 intro g args x h;have h':xt g args=some x:=h;show PC Tryz.prog g args (·=x)
 unfold xt at h'
 split at h'
 ·rename_i y
  split at h'
  ·rename_i hg
   subst hg;obtain⟨r,h3,h4⟩:=Option.map_eq_some_iff.1 h';unfold BN at h3;obtain⟨h5,h6⟩:=IC h3;injection h6 with h6
   simp only[Bool.and_eq_true,decide_eq_true_eq]at h5;exact(oS y h5.1 h5.2).mono λq hq=>by rw[hq,←h4,←h6];rfl
  ·cases h'
 ·rename_i R s
  split at h'
  ·rename_i hg
   subst hg;obtain⟨l,h1,h2⟩:=Option.bind_eq_some_iff.1 h';obtain⟨r,h3,h4⟩:=Option.map_eq_some_iff.1 h2;unfold strings_Join at h3;obtain⟨h5,h6⟩:=IC h3;injection h6 with h6
   simp only[Bool.and_eq_true,decide_eq_true_eq]at h5;rw[bO h1];exact(zb l s h5.1 h5.2).mono λy hy=>by rw[hy,←h4,←h6]
  ·cases h'
 ·rename_i s t
  split at h'
  ·rename_i hg
   subst hg;obtain⟨r,h3,h4⟩:=Option.map_eq_some_iff.1 h';unfold strings_Split at h3;obtain⟨h5,h6⟩:=IC h3;injection h6 with h6
   simp only[Bool.and_eq_true,decide_eq_true_eq]at h5;exact(jV s t h5.1 h5.2).mono λq hq=>by rw[hq,←h4,←h6]
  ·split at h'
   ·rename_i hg
    subst hg;obtain⟨r,h3,h4⟩:=Option.map_eq_some_iff.1 h';unfold strings_Cut at h3;obtain⟨h5,h6⟩:=IC h3;injection h6 with h6
    simp only[decide_eq_true_eq]at h5;exact(q9 s t h5).mono λq hq=>by rw[hq,←h4,←h6]
   ·cases h'
 ·rename_i x'
  split at h'
  ·rename_i hg
   subst hg;obtain⟨r,h3,h4⟩:=Option.map_eq_some_iff.1 h';unfold strconv_Itoa at h3;obtain⟨h5,h6⟩:=IC h3;injection h6 with h6
   simp only[Bool.and_eq_true,decide_eq_true_eq]at h5;exact(wq x' h5.1 h5.2).mono λy hy=>by rw[hy,←h4,←h6]
  ·cases h'
 ·cases h'
end Go.Proofs.YtfhnbabcbhgffaaGreatDoor
