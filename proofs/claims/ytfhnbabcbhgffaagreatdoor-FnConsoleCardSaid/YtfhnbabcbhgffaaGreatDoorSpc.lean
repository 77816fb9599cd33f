import Derived.Test.YtfhnbabcbhgffaaGreatDoorEvD
import Derived.Shelf.Strings.SplitShaped
set_option linter.unusedVariables false
set_option linter.unusedSimpArgs false
set_option linter.defProp false
namespace Go.Proofs.YtfhnbabcbhgffaaGreatDoor.Am
open Go Go.Proofs
def mS{w:World}{O:Nat→Prop}{E:EI}:∀{zs:List (List UInt8)} {bl off:Nat},(∀i (h:i<zs.length),w.cell? ⟨bl,off+i,none⟩=some (.string ⟨zs[i].toArray⟩))→RR w O E 1 bl off (zs.map λx=>[AV.s x]) []
 |[],bl,off,h=>by simp[RR]
 |z::zs,bl,off,h=>by
  have h0:=h 0 (by simp)
  simp only[Nat.add_zero,List.getElem_cons_zero]at h0;have ht:=mS (w:=w) (O:=O) (E:=E) (zs:=zs) (bl:=bl) (off:=off+1) λi hi=>by
   have:=h (i+1) (by simpa using hi)
   rw[show off+1+i=off+(i+1)by omega]
   simpa using this
  rw[List.map_cons];unfold RR;refine⟨[],[],rfl,rfl,?_,ht⟩;unfold CR;exact⟨.string ⟨z.toArray⟩,[],[],⟨h0,rfl⟩,rfl,by simp[XR],by simp[CR]⟩
def nt(w:World)(o:Obj):Ext FF w (w.alloc o):=by
 have hb:Go.RowKit.Below w.heap.size w (w.alloc o):=by
  refine⟨rfl,rfl,rfl,?_,λb hb=>?_⟩
  ·show w.heap.size≤(w.heap.push _).size
   simp
  ·show(w.heap.push _)[b]?=w.heap[b]?
   rw[Array.getElem?_push_lt hb,Array.getElem?_eq_getElem hb]
 exact Ext.of_below hb _
def vr[Wd]{P:Program}{g:FuncId}{t:TypeId}(hE:EnterOK P g)
  (hr:∀(s sep:ByteArray) (w:World),Wd.I w→s.size<4294967281→1≤sep.size→Calls P g #[.string s,.string sep] w λe w' =>
   e=.returned (.slice (some ⟨w.heap.size,0,none⟩) (Lib.countB s sep+1) (Lib.countB s sep+1))∧w'=w.alloc (.cells ((Lib.splitB sep 0 (Lib.countB s sep) s).map Value.string).toArray t))
  (x y:List UInt8) (h0:x.length<4294967281) (h1:1≤y.length):PC P g [.s x,.s y] (·=.own 1 ((Lib.split x y).map λx=>[AV.s x])):=by
 refine⟨hE,λw vs hI hX=>?_⟩
 simp only[XRs,XR]at hX;obtain⟨v,vs',n1,n2,rfl,hn,⟨rfl,_⟩,v',vs'',m1,m2,rfl,hm,⟨rfl,_⟩,rfl,_⟩:=hX;have hx:(⟨x.toArray⟩:ByteArray).size=x.length:=by show x.toArray.size=_;simp
 have hy:(⟨y.toArray⟩:ByteArray).size=y.length:=by show y.toArray.size=_;simp
 refine Calls.mono (hr ⟨x.toArray⟩ ⟨y.toArray⟩ w hI (by rw[hx];exact h0) (by rw[hy];exact h1)) ?_
 rintro e w' ⟨rfl,rfl⟩;have hdat:=Lib.splitB_data ⟨y.toArray⟩ 0 (Lib.countB ⟨x.toArray⟩ ⟨y.toArray⟩) ⟨x.toArray⟩;have hsp:(Lib.splitB ⟨y.toArray⟩ 0 (Lib.countB ⟨x.toArray⟩ ⟨y.toArray⟩) ⟨x.toArray⟩).map (·.data.toList)=Lib.split x y:=hdat
 have hlen:=Lib.splitB_all ⟨y.toArray⟩ (by rw[hy];exact h1) 0 (Lib.countB ⟨x.toArray⟩ ⟨y.toArray⟩) ⟨x.toArray⟩ rfl
 generalize Lib.splitB ⟨y.toArray⟩ 0 (Lib.countB ⟨x.toArray⟩ ⟨y.toArray⟩) ⟨x.toArray⟩=L at hsp hlen;have hl2:(Lib.split x y).length=L.length:=by rw[←hsp];simp
 rw[←hlen,←hl2];have hget:((w.alloc (.cells (L.map Value.string).toArray t)).heap)[w.heap.size]?=some (.cells (L.map Value.string).toArray t):=by
  show(w.heap.push _)[w.heap.size]?=_;rw[Array.getElem?_push_size]
 refine⟨_,_,[w.heap.size],rfl,rfl,?_,by simp,?_,nt w _⟩
 ·simp only[XR]
  refine .inr ⟨w.heap.size,[],(Lib.split x y).length,rfl,by simp,by simp,?_,?_⟩
  ·refine⟨(L.map Value.string).toArray,t,hget,?_⟩
   simp[hl2]
  ·refine mS λi hi=>?_
   have hi':i<L.length:=by omega
   have he:(⟨((Lib.split x y)[i]).toArray⟩:ByteArray)=L[i]:=by
    have:(Lib.split x y)[i]=L[i].data.toList:=by simp[←hsp]
    rw[this]
   rw[he];rw[Nat.zero_add,World.cell?_alloc_at _ _ _ _ rfl,List.getElem?_toArray,List.getElem?_map,List.getElem?_eq_getElem hi'];rfl
 ·intro b hb
  simp only[List.mem_singleton]at hb;subst hb;refine⟨Qg _,?_⟩;show w.heap.size<(w.heap.push _).size;simp
def qe(w:World)(n:Nat):Ext FF w (w.drewN n):=by
 have hb:Go.RowKit.Below w.heap.size w (w.drewN n):=⟨rfl,rfl,rfl,Qg _,λb hb=>rfl⟩
 exact Ext.of_below hb _
def Qfd[Wd]{P:Program}{g:FuncId}(hE:EnterOK P g)
  (hr:∀(s sep:ByteArray) (w:World),Wd.I w→s.size<4294967281→Calls P g #[.string s,.string sep] w λe w' =>
   e=.returned (.tuple #[.string ⟨(Lib.cut s.data.toList sep.data.toList).1.toArray⟩,.string ⟨(Lib.cut s.data.toList sep.data.toList).2.1.toArray⟩,.bool (Lib.cut s.data.toList sep.data.toList).2.2])∧∃n,w'=w.drewN n)
  (x y:List UInt8) (h0:x.length<4294967281):PC P g [.s x,.s y] (·=.tup [.s (Lib.cut x y).1,.s (Lib.cut x y).2.1,.b (Lib.cut x y).2.2]):=by
 refine⟨hE,λw vs hI hX=>?_⟩
 simp only[XRs,XR]at hX;obtain⟨v,vs',n1,n2,rfl,hn,⟨rfl,_⟩,v',vs'',m1,m2,rfl,hm,⟨rfl,_⟩,rfl,_⟩:=hX;have hx:(⟨x.toArray⟩:ByteArray).size=x.length:=by show x.toArray.size=_;simp
 refine Calls.mono (hr ⟨x.toArray⟩ ⟨y.toArray⟩ w hI (by rw[hx];exact h0)) ?_
 rintro e w' ⟨rfl,n,rfl⟩;refine⟨_,_,[],rfl,rfl,?_,List.nodup_nil,by simp,qe w n⟩
 simp only[XR,XRs];exact⟨#[Value.string ⟨(Lib.cut x y).1.toArray⟩,Value.string ⟨(Lib.cut x y).2.1.toArray⟩,Value.bool (Lib.cut x y).2.2],rfl,_,_,[],[],rfl,rfl,⟨rfl,rfl⟩,_,_,[],[],rfl,rfl,⟨rfl,rfl⟩,_,_,[],[],rfl,rfl,⟨rfl,rfl⟩,rfl,rfl⟩
end Go.Proofs.YtfhnbabcbhgffaaGreatDoor.Am
