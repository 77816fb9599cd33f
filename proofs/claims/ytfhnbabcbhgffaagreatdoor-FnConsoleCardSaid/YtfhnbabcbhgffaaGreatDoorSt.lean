import Derived.Test.YtfhnbabcbhgffaaGreatDoorEvD
import Derived.Sort.Row
import Derived.Sort.Grow
set_option linter.unusedVariables false
set_option linter.unusedSimpArgs false
set_option linter.defProp false
namespace Go.Proofs.YtfhnbabcbhgffaaGreatDoor.Am
open Go Go.Sort
def di{w:World}{O:Nat→Prop}{E:EI}:∀{zs:List Int} {bl off:Nat},(∀i (h:i<zs.length),w.cell? ⟨bl,off+i,none⟩=some (.int .i64 zs[i]))→RR w O E 1 bl off (zs.map cI) []
 |[],bl,off,h=>by simp[RR]
 |z::zs,bl,off,h=>by
  have h0:=h 0 (by simp)
  simp only[Nat.add_zero,List.getElem_cons_zero]at h0;have ht:=di (w:=w) (O:=O) (E:=E) (zs:=zs) (bl:=bl) (off:=off+1) λi hi=>by
   have:=h (i+1) (by simpa using hi)
   rw[show off+1+i=off+(i+1)by omega]
   simpa using this
  rw[List.map_cons];unfold RR;refine⟨[],[],rfl,rfl,?_,ht⟩;unfold cI CR;exact⟨.int .i64 z,[],[],⟨h0,rfl⟩,rfl,by simp[XR],by simp[CR]⟩
def cG{w:World}{O:Nat→Prop}{E:EI}:∀{rows:List (List AV)} {xs:List Int} {bl off:Nat} {nb:List Nat},RR w O E 1 bl off rows nb→GI rows=some xs →
  rows.length=xs.length∧∀i (h:i<xs.length),w.cell? ⟨bl,off+i,none⟩=some (.int .i64 xs[i])
 |[],xs,bl,off,nb,_,hs=>by
  injection hs with hs
  subst hs;exact⟨rfl,λi hi=>by simp at hi⟩
 |r::rs,xs,bl,off,nb,h,hs=>by
  unfold RR at h;obtain⟨n1,n2,_,_,hc,hrr⟩:=h;unfold GI at hs
  split at hs
  ·rename_i he;cases he
  ·rename_i x r' he
   injection he with e1 e2
   subst e1 e2;obtain⟨xs',h1,h2⟩:=Option.map_eq_some_iff.1 hs;subst h2;obtain⟨q1,q2⟩:=cG hrr h1;simp only[CR,XR]at hc;obtain⟨v,m1,m2,⟨hv,_⟩,_,⟨rfl,_⟩,_⟩:=hc;refine⟨by simp[q1],λi hi=>?_⟩
   cases i with
   |zero=>simpa using hv
   |succ i =>
    have:=q2 i (by simpa using hi)
    rw[show off+(i+1)=off+1+i by omega]
    simpa using this
  ·cases hs
def Yi(zs:List Int)(j:Nat)(h:j<zs.length):zs.toArray[j]! = zs[j]:=by
 rw[getElem!_pos _ j (by simpa using h)]
 simp
def PZ{w:World}{b m o:Nat}(h:Whole w b m):w.frozen? ⟨b,o,none⟩=false:=by
 obtain⟨c,el,hc,_⟩:=h;simp[World.frozen?,hc]
def mB{w:World}{b m n:Nat}(hW:Whole w b m){zs:List Int}(hz:zs.length≤m):Put w (putRow (Value.int .i64) (Sort.ahead w n) b 0 zs.toArray) b 0 (zs.map (Value.int .i64)):=by
 obtain⟨c,el,hc,hm⟩:=hW;refine⟨rfl,rfl,rfl,by simp[putRow,mapBlock,Sort.ahead],λk hk=>?_,c,el,Sort.putCells (Value.int .i64) 0 zs.toArray c,hc,?_,by simp[Sort.putCells],λk hk=>?_,λi hi=>?_⟩
 ·simp[putRow,mapBlock,Sort.ahead,Array.getElem?_modify,Ne.symm hk]
 ·simp[putRow,mapBlock,Sort.ahead,Array.getElem?_modify,hc,onCells]
 ·simp only[List.length_map]at hk
  unfold Sort.putCells;rw[Array.getElem?_mapIdx];cases c[k]? with
  |none=>rfl
  |some y=>simp only[Option.map_some];rw[if_neg (by simp;omega)]
 ·simp only[List.length_map]at hi
  unfold Sort.putCells;rw[Array.getElem?_mapIdx,Array.getElem?_eq_getElem (show 0+i<c.size by omega),Option.map_some,if_pos (by simp;omega),Yi zs (0+i-0) (by omega)]
  simp[hi]
def fB(K:KS)(j:Nat)(e:QE)(h:kg K j=some e):K.set j (some e)=K:=by
 unfold kg at h;apply List.ext_getElem?;intro i;rw[List.getElem?_set];by_cases hi:j=i
 ·subst hi
  rw[if_pos rfl];rw[List.getD_eq_getElem?_getD]at h;by_cases hl:j<K.length
  ·rw[if_pos hl]
   rw[List.getElem?_eq_getElem hl]at h ⊢;simp only[Option.getD_some]at h;rw[h]
  ·rw[List.getElem?_eq_none (by omega)]at h
   simp at h
 ·rw[if_neg hi]
def SortP.of[Wd]{P:Program}{g:FuncId}(hE:EnterOK P g)
  (hc:∀(blk off cap:Nat) (zs:List Int) (w:World),Holds (Value.int .i64) w blk off zs.toArray→blk<w.heap.size→zs.length<4611686018427387904 →
   Calls P g #[.slice (some ⟨blk,off,none⟩) zs.length cap] w λe w'=>e=.returned (.tuple #[])∧∃n os,w'=grow (putRow (Value.int .i64) (Sort.ahead w n) blk off (zs.mergeSort λx y=>decide (x≤y)).toArray) os)
  (hn:∀(p:Option Addr) (cap:Nat) (w:World),Calls P g #[.slice p 0 cap] w λe w'=>e=.returned (.tuple #[])∧w'=w):SortP P g:=by
 intro K j rows xs hj hxs hlen;refine⟨hE,λw ρ Y vs hI hY hSe hX=>?_⟩
 let F0:Nat→Prop:=λb=>∃j e,kg K j=some e∧b∈fp ρ j
 have hS:Sim ⟨1,EK K ρ⟩ Y w F0 ρ (Jy [.sl j]) K { tmps:=vs.toArray++Array.replicate (1-vs.toArray.size) undef,defers:=[] } w :=
  Sim.init (Qg _) hX ⟨Qg _,λ_ _ _ h=>h⟩ hSe (λj e b hj hb=>.inl ⟨j,e,hj,hb⟩) ⟨λb hb=>⟨(hY b hb).1,λ⟨j,e,hj,hb'⟩=>(hY b hb).2 j e hj hb'⟩,hI⟩
 have fin:∀{ρ':Dl} {K':KS} {w':World},K'=K.set j (some (.lst 1 ((Aw xs).map cI)))→Sim ⟨1,EK K ρ⟩ Y w F0 ρ' (Jy [.sl j]) K' { tmps:=vs.toArray++Array.replicate (1-vs.toArray.size) undef,defers:=[] } w' →
   ∃v r K' ρ',Ending.returned (.tuple #[])=.returned v∧(r=.tup []∧K'=K.set j (some (.lst 1 ((Aw xs).map cI))))∧K.length≤K'.length∧XR w' (OO K' ρ' Y) (EK K' ρ') r v []∧Sees w' (OO K' ρ' Y) K' ρ' ∧
    Ext (λb=>∃j e,kg K j=some e∧b∈fp ρ j) w w'∧(∀j e b,kg K' j=some e→b∈fp ρ' j→(∃i e',kg K i=some e'∧b∈fp ρ i)∨w.heap.size≤b) ∧
    ∀j e',j<K.length→kg K' j=some e'→∃e,kg K j=some e∧(ρ' j).1=(ρ j).1∧e'.n=e.n∧e'.rows.length=e.rows.length:=by
  intro ρ' K' w' hK hS';refine⟨.tuple #[],.tup [],K',ρ',rfl,⟨rfl,hK⟩,by rw[hK];simp,by simp[XR,XRs],hS'.sees,hS'.ext,hS'.new,λi e' hi hi'=>?_⟩
  have h3:=hS'.keep.2 i ((ρ' i).1,e'.n,e'.rows.length) hi (by simp[EK,hi'])
  simp only[EK]at h3;obtain⟨e,h4,h5⟩:=Option.map_eq_some_iff.1 h3;injection h5 with h5 h6;injection h6 with h6 h7
  exact⟨e,h4,h5.symm,h6.symm,h7.symm⟩
 simp only[XRs]at hX;obtain⟨v,vs',n1,n2,rfl,_,hv,rfl,_⟩:=hX;obtain⟨_,hlt,hnone,hsome⟩:=hv;have hr:=hSe.reg j _ hj;cases hb:(ρ j).1 with
 |none =>
  rw[hb]at hr;obtain⟨hr0,_⟩:=hr;have hr0':rows=[]:=hr0;subst hr0';injection hxs with hxs
  subst hxs;obtain⟨q,rfl⟩:=hnone 1 0 (by simp[EK,hj,hb,QE.n,QE.rows])
  refine Calls.mono (hn q 0 w) ?_;rintro e w' ⟨rfl,rfl⟩;exact fin (by simp[Aw,fB K j _ hj]) hS
 |some bl =>
  rw[hb]at hr;obtain⟨hW,hrr,_⟩:=hr;obtain⟨cap,rfl,_,_⟩:=hsome bl 1 rows.length (by simp[EK,hj,hb,QE.n,QE.rows])
  obtain⟨q1,q2⟩:=cG (rows:=rows) hrr hxs;have hW':Whole w bl (rows.length*1):=hW;have hH:Holds (Value.int .i64) w bl 0 xs.toArray:=λi hi=>by
   have hi':i<xs.length:=by simpa using hi
   rw[Yi xs i hi'];exact⟨q2 i hi',PZ hW'⟩
  have hcall:=hc bl 0 cap xs w hH hW'.lt hlen;rw[←q1]at hcall;refine Calls.mono hcall ?_;rintro e w' ⟨rfl,n,os,rfl⟩;have hsl:(Aw xs).length=xs.length:=by unfold Aw;simp
  have hP:Put w (putRow (Value.int .i64) (Sort.ahead w n) bl 0 (Aw xs).toArray) bl 0 ((Aw xs).map (Value.int .i64)):=mB hW' (by omega)
  obtain⟨c,el,c',g1,g2,g3,g4,g5⟩:=hP.here;have hR:RR (putRow (Value.int .i64) (Sort.ahead w n) bl 0 (Aw xs).toArray) (OO K ρ Y) EN 1 bl 0 ((Aw xs).map cI) []:=di λi hi=>by
   have:=g5 i (by simpa using hi)
   simp only[World.cell?,g2];rw[this];simp[hi]
  obtain⟨ρ1,hS1⟩:=hS.wrote (e':=.lst 1 ((Aw xs).map cI)) hj hb hP rfl (by simp[QE.rows,hsl,q1]) rfl hR (List.nil_sublist _)
  have hg:Ext FF (putRow (Value.int .i64) (Sort.ahead w n) bl 0 (Aw xs).toArray) (grow (putRow (Value.int .i64) (Sort.ahead w n) bl 0 (Aw xs).toArray) os):=by
   have hb:Go.RowKit.Below (putRow (Value.int .i64) (Sort.ahead w n) bl 0 (Aw xs).toArray).heap.size (putRow (Value.int .i64) (Sort.ahead w n) bl 0 (Aw xs).toArray) (grow (putRow (Value.int .i64) (Sort.ahead w n) bl 0 (Aw xs).toArray) os):=by
    refine⟨rfl,rfl,rfl,by simp[grow],λb hb=>?_⟩
    simp only[grow];rw[Array.getElem?_append_left hb]
   exact Ext.of_below hb _
  obtain⟨ρ2,hS2,_⟩:=hS1.import hg (x:=.tup []) (v:=.tuple #[]) (nb:=[]) (by simp[XR,XRs]) List.nodup_nil (by simp)
  exact fin (by simp[X2,FG]) hS2
def CompP.of[Wd]{P:Program}{g:FuncId}(hE:EnterOK P g)
  (hc:∀(blk off cap:Nat) (zs:List Int) (w:World),Holds (Value.int .i64) w blk off zs.toArray→zs.length≤9223372036854775807→zs.length≤cap →
   Calls P g #[.slice (some ⟨blk,off,none⟩) zs.length cap] w λe w'=>e=.returned (.slice (some ⟨blk,off,none⟩) (ZR zs).length cap) ∧
    ∃q,w'=putRow (Value.int .i64) (Sort.ahead w q) blk off (ZR zs++List.replicate (zs.length-(ZR zs).length) 0).toArray)
  (hn:∀(p:Option Addr) (cap:Nat) (w:World),Calls P g #[.slice p 0 cap] w λe w'=>e=.returned (.slice p 0 cap)∧w'=w):CompP P g:=by
 intro K j rows xs hj hxs hlen;refine⟨hE,λw ρ Y vs hI hY hSe hX=>?_⟩
 let F0:Nat→Prop:=λb=>∃j e,kg K j=some e∧b∈fp ρ j
 have hS:Sim ⟨1,EK K ρ⟩ Y w F0 ρ (Jy [.sl j]) K { tmps:=vs.toArray++Array.replicate (1-vs.toArray.size) undef,defers:=[] } w :=
  Sim.init (Qg _) hX ⟨Qg _,λ_ _ _ h=>h⟩ hSe (λj e b hj hb=>.inl ⟨j,e,hj,hb⟩) ⟨λb hb=>⟨(hY b hb).1,λ⟨j,e,hj,hb'⟩=>(hY b hb).2 j e hj hb'⟩,hI⟩
 have hjl:=Gr hj;have hK1:∀i e,kg (K.set j none) i=some e→kg K i=some e:=λi e h=>by
  rw[Zu _ _ _ _ hjl]at h;by_cases hi:i=j
  ·rw[if_pos hi]at h;cases h
  ·rw[if_neg hi]at h;exact h
 have hKj:kg (K.set j none) j=none:=by rw[Zu _ _ _ _ hjl,if_pos rfl]
 have fin:∀{ρ':Dl} {w':World} {v:Value},Sim ⟨1,EK K ρ⟩ Y w F0 ρ' (Jy [.sl j]) (K.set j none++[some (.lst 1 ((ZR xs).map cI))]) { tmps:=vs.toArray++Array.replicate (1-vs.toArray.size) undef,defers:=[] } w' →
   XR w' (OO (K.set j none++[some (.lst 1 ((ZR xs).map cI))]) ρ' Y) (EK (K.set j none++[some (.lst 1 ((ZR xs).map cI))]) ρ') (.sl K.length) v [] →
   ∃v' r K' ρ',Ending.returned v=.returned v'∧(r=.sl K.length∧K'=K.set j none++[some (.lst 1 ((ZR xs).map cI))])∧K.length≤K'.length∧XR w' (OO K' ρ' Y) (EK K' ρ') r v' []∧Sees w' (OO K' ρ' Y) K' ρ' ∧
    Ext (λb=>∃j e,kg K j=some e∧b∈fp ρ j) w w'∧(∀j e b,kg K' j=some e→b∈fp ρ' j→(∃i e',kg K i=some e'∧b∈fp ρ i)∨w.heap.size≤b) ∧
    ∀j e',j<K.length→kg K' j=some e'→∃e,kg K j=some e∧(ρ' j).1=(ρ j).1∧e'.n=e.n∧e'.rows.length=e.rows.length:=by
  intro ρ' w' v hS' hv;refine⟨v,.sl K.length,_,ρ',rfl,⟨rfl,rfl⟩,by simp,hv,hS'.sees,hS'.ext,hS'.new,λi e' hi hi'=>?_⟩
  have h3:=hS'.keep.2 i ((ρ' i).1,e'.n,e'.rows.length) hi (by simp[EK,hi'])
  simp only[EK]at h3;obtain⟨e,h4,h5⟩:=Option.map_eq_some_iff.1 h3;injection h5 with h5 h6;injection h6 with h6 h7
  exact⟨e,h4,h5.symm,h6.symm,h7.symm⟩
 simp only[XRs]at hX;obtain⟨v,vs',n1,n2,rfl,_,hv,rfl,_⟩:=hX;obtain⟨_,hlt,hnone,hsome⟩:=hv;have hr:=hSe.reg j _ hj;cases hb:(ρ j).1 with
 |none =>
  rw[hb]at hr;obtain⟨hr0,_⟩:=hr;have hr0':rows=[]:=hr0;subst hr0';injection hxs with hxs
  subst hxs;obtain⟨q,rfl⟩:=hnone 1 0 (by simp[EK,hj,hb,QE.n,QE.rows])
  refine Calls.mono (hn q 0 w) ?_;rintro e w' ⟨rfl,rfl⟩;obtain⟨ρ',h1,h2⟩:=hS.addNil (K1:=K.set j none) (by simp) hK1 1
  have e0:(ZR []).map cI=[]:=by simp[ZR,Lib.compact,Lib.compactUpTo]
  rw[←e0]at h1 h2;exact fin h1 (h2 _ _)
 |some bl =>
  rw[hb]at hr;obtain⟨hW,hrr,_⟩:=hr;obtain⟨cap,rfl,hcap,hWc⟩:=hsome bl 1 rows.length (by simp[EK,hj,hb,QE.n,QE.rows])
  obtain⟨q1,q2⟩:=cG (rows:=rows) hrr hxs;have hW':Whole w bl (rows.length*1):=hW;have hH:Holds (Value.int .i64) w bl 0 xs.toArray:=λi hi=>by
   have hi':i<xs.length:=by simpa using hi
   rw[Yi xs i hi'];exact⟨q2 i hi',PZ hW'⟩
  have hcl:(ZR xs).length≤xs.length:=by
   unfold ZR Lib.compact Lib.compactUpTo;rw[List.length_map];exact Nat.le_trans (List.length_filter_le _ _) (by simp)
  have hcall:=hc bl 0 cap xs w hH (by omega) (by omega)
  rw[←q1]at hcall;refine Calls.mono hcall ?_;rintro e w' ⟨rfl,n,rfl⟩;have hzl:(ZR xs++List.replicate (xs.length-(ZR xs).length) 0).length=xs.length:=by simp;omega
  have hP:Put w (putRow (Value.int .i64) (Sort.ahead w n) bl 0 (ZR xs++List.replicate (xs.length-(ZR xs).length) 0).toArray) bl 0 ((ZR xs++List.replicate (xs.length-(ZR xs).length) 0).map (Value.int .i64)):=mB hW' (by omega)
  obtain⟨c,el,c',g1,g2,g3,g4,g5⟩:=hP.here;rw[q1];have hR:RR (putRow (Value.int .i64) (Sort.ahead w n) bl 0 (ZR xs++List.replicate (xs.length-(ZR xs).length) 0).toArray) (λx=>OO K ρ Y x∨x=bl) EN 1 bl 0 ((ZR xs).map cI) []:=di λi hi=>by
   have:=g5 i (by simp;omega)
   simp only[World.cell?,g2];rw[this,List.getElem?_map,List.getElem?_append_left hi,List.getElem?_eq_getElem hi];rfl
  have hWe:Whole (putRow (Value.int .i64) (Sort.ahead w n) bl 0 (ZR xs++List.replicate (xs.length-(ZR xs).length) 0).toArray) bl (((ZR xs).map cI).length*1):=by
   have h0:Whole w bl (((ZR xs).map cI).length*1):=by
    obtain⟨c0,el0,z1,z2⟩:=hW';exact⟨c0,el0,z1,by rw[List.length_map];omega⟩
   exact hP.whole h0
  have hbb:bl=w.heap.size∨∃i e,kg K i=some e∧kg (K.set j none) i=none∧bl∈fp ρ i:=.inr ⟨j,_,hj,hKj,ED hb⟩;generalize putRow (Value.int .i64) (Sort.ahead w n) bl 0 (ZR xs++List.replicate (xs.length-(ZR xs).length) 0).toArray=w' at hP g2 hR hWe ⊢;obtain⟨ρ',h1,h2,h3⟩:=hS.add (K1:=K.set j none) (e:=.lst 1 ((ZR xs).map cI)) (b:=bl) (nb:=[]) (w':=w')
   (by simp) hK1 (Nat.le_of_eq hP.size.symm) (λx hx _=>hP.block x hx) (λx m h=>hP.whole h) hbb (λx hx=>by cases hx) (by simp) hWe hR (λh=>rfl) hP.os hP.tape hP.output
  refine fin h1 ?_;simp only[XR];refine⟨trivial,by rw[h3];omega,λn' len h=>?_,λb' n' len h=>?_⟩
  ·rw[h2]at h;injection h with h;injection h with h;cases h
  ·rw[h2]at h
   injection h with h;injection h with h4 h5;injection h4 with h4;injection h5 with h5 h6
   subst h4 h5 h6;exact⟨cap,by simp[QE.rows,ZR],by simp[QE.rows];omega,hP.whole hWc⟩
end Go.Proofs.YtfhnbabcbhgffaaGreatDoor.Am
