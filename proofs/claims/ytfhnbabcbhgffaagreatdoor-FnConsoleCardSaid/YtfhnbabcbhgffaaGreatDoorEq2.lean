import Derived.Test.YtfhnbabcbhgffaaGreatDoorEq1
set_option maxHeartbeats 4000000
set_option linter.unusedVariables false
set_option linter.unusedSimpArgs false
set_option linter.defProp false
set_option maxRecDepth 100000
namespace Go.Proofs.YtfhnbabcbhgffaaGreatDoor
open Go Go.Proofs Go.Proofs.YtfhnbabcbhgffaaGreatDoor.Am Tryz
variable(n:Nat)
def Sg(k){C l D f}[A:QC Vx C l][B:QD Vx D f]:LP T (n+1) 181 2 (Vm [(0,.imm 8 C),(3,.ptr 0 0 0),(6,.i .i64 k)]) [some (.box D)]=(run (B3 l f) k).map (λzr=>(XE.exit 0,Vm [(0,.imm 8 (l.map Vx)),(3,.ptr 0 0 0),(6,.i .i64 zr)],[some (.box (Vx f))])):=by
 rcases A,B with⟨⟨rfl⟩,⟨rfl⟩⟩
 rw[Vh];simp-dsimp only[↓QW,Zt,QX,func181,f181,Qbg,mw,TP,TZ,seval];apply Q9 k;intro k;simp-dsimp+contextual only[↓QW,eZ,seval]
 try simp only[B3,eY]
 try simp only[List.contains_nil,Qi,Bool.and_true,Xy,List.length_append,List.length_cons,List.length_nil,Nat.zero_add,Xt,X3]
 repeat rfl
def YY{C l D f}[A:QC Vx C l][B:QD Vx D f]:CP T (n+6) 181 [.imm 8 C,.agg D]=(FB l f).map λr=>.tup [.own 8 (r.1.map Vx),.b r.2]:=by
 rcases A,B with⟨⟨rfl⟩,⟨rfl⟩⟩
 rw[QU];simp-dsimp+contextual only[↓QW,eZ,seval,func181,f181,Qbg,mw,Mr,Sg]
 try simp only[FB,eY]
 try simp only[List.contains_nil,Qi,Bool.and_true,Xy,List.length_append,List.length_cons,List.length_nil,Nat.zero_add,Xt,X3]
 all_goals first|rfl|(simp +contextual only[I1]<;>rfl)
def Oy(k){C l D a}[A:QC V2 C l][B:QD V2 D a]:LP T (n+1) 182 2 (Vm [(0,.imm 3 C),(3,.ptr 0 0 0),(6,.i .i64 k)]) [some (.box D)]=(run (Au l a) k).map (λzr=>(XE.exit 0,Vm [(0,.imm 3 (l.map V2)),(3,.ptr 0 0 0),(6,.i .i64 zr)],[some (.box (V2 a))])):=by
 rcases A,B with⟨⟨rfl⟩,⟨rfl⟩⟩
 rw[Vh];simp-dsimp only[↓QW,Zt,QX,func182,f182,QbJ,lg,TP,TZ,seval];apply Q9 k;intro k;simp-dsimp+contextual only[↓QW,eZ,seval]
 try simp only[Au,eY]
 try simp only[List.contains_nil,Qi,Bool.and_true,Xy,List.length_append,List.length_cons,List.length_nil,Nat.zero_add,Xt,X3]
 repeat rfl
def SR{C l D a}[A:QC V2 C l][B:QD V2 D a]:CP T (n+6) 182 [.imm 3 C,.agg D]=(CX l a).map λr=>.tup [.own 3 (r.1.map Vy),.b r.2]:=by
 rcases A,B with⟨⟨rfl⟩,⟨rfl⟩⟩
 rw[QU];simp-dsimp+contextual only[↓QW,eZ,seval,func182,f182,QbJ,lg,Nj,Ki,Oy]
 try simp only[CX,eY]
 try simp only[List.contains_nil,Qi,Bool.and_true,Xy,List.length_append,List.length_cons,List.length_nil,Nat.zero_add,Xt,X3]
 all_goals first|rfl|(simp +contextual only[I1]<;>rfl)
def LT(s k i){B l}[A:QC VL B l]:LP T (n+1) 245 3 (Vm [(0,.imm 3 B),(1,.i .i64 s),(5,.i .i64 k),(6,.i .i64 i)]) []=(run (V6 l s) (k,i)).map (λzr=>(XE.exit 0,Vm [(0,.imm 3 (l.map VL)),(5,.i .i64 zr)],[])):=by
 obtain⟨rfl⟩:=A;rw[Vh];simp-dsimp only[↓QW,Zt,QX,func245,f245,QaU,lX,TP,TZ,seval];apply VF k i;intro k i;simp-dsimp+contextual only[↓QW,eZ,seval]
 try simp only[V6,eY]
 repeat rfl
def OB(s){B l}[A:QC VL B l]:CP T (n+2) 245 [.imm 3 B,.i .i64 s]=(Cb l s).map λr=>.i .i64 r:=by
 obtain⟨rfl⟩:=A;rw[QU];simp-dsimp+contextual only[↓QW,eZ,seval,func245,f245,QaU,lX,LT]
 try simp only[Cb,eY]
 repeat rfl
def PK(s i){C a D o}[A:QD ET C a][B:QC VL D o]:LP T (n+1) 183 6 (Vm [(3,.ptr 0 0 0),(6,.sl 1),(7,.i .i64 s),(8,.i .i64 i)]) [some (.box C),some (.lst 3 D)]=(run (J7 a s) (o,i)).map (λzr=>(XE.exit 0,Vm [(6,.sl 0)],[some (.lst 3 (zr.map VL))])):=by
 rcases A,B with⟨⟨rfl⟩,⟨rfl⟩⟩
 rw[Vh];simp-dsimp only[↓QW,Zt,QX,func183,f183,QaE,mD,TP,TZ,seval];apply VF o i;intro o i;simp-dsimp+contextual only[↓QW,eZ,seval]
 try simp only[J7,eY]
 repeat rfl
def WZ{C l D a}[A:QC VL C l][B:QD ET D a]:CP T (n+4) 183 [.imm 3 C,.agg D]=(Fs l a).map λr=>.tup [.own 3 (r.1.map VL),.b r.2]:=by
 rcases A,B with⟨⟨rfl⟩,⟨rfl⟩⟩
 rw[QU];simp-dsimp+contextual only[↓QW,eZ,seval,func183,f183,QaE,mD,OB,HY,IH,Ht,PK]
 try simp only[Fs,eY]
 all_goals first|rfl|(simp +contextual only[I1]<;>rfl)
def Na{C l D a}[A:QC V0 C l][B:QD V0 D a]:CP T (n+8) 184 [.imm 5 C,.agg D]=(Fc l a).map λr=>.tup [.own 5 (r.1.map V0),.b r.2]:=by
 rcases A,B with⟨⟨rfl⟩,⟨rfl⟩⟩
 rw[QU];simp-dsimp+contextual only[↓QW,eZ,seval,func184,f184,QkB,rN,Mn,IQ]
 try simp only[Fc,eY]
 try simp only[List.contains_nil,Qi,Bool.and_true,Xy,List.length_append,List.length_cons,List.length_nil,Nat.zero_add,Xt,X3]
 all_goals first|rfl|(simp +contextual only[I1]<;>rfl)
def E3(oxNo oxNow o2){I a J oxFinds K oxSecrets L oxSlots M oxClaims N oxTrials O oxChain P oxBook}[A:QD Vo I a][B:QC Vx J oxFinds][C:QC Vy K oxSecrets][D:QC VL L oxSlots][E:QC Q1 M oxClaims][F:QC VH N oxTrials][G:QC V0 O oxChain][H:QC VX P oxBook]:CM T (n+12) 102 [some (.lst 8 J),some (.lst 3 K),some (.lst 3 L),some (.lst 5 M),some (.lst 4 N),some (.lst 5 O),some (.lst 4 P)] [.agg I,.agg [.i .i64 oxNo,.sl 0,.sl 1,.sl 2,.sl 3,.sl 4,.sl 5,.sl 6,.i .i64 oxNow],.b o2]=(Vg a (⟨oxNo,oxFinds,oxSecrets,oxSlots,oxClaims,oxTrials,oxChain,oxBook,oxNow⟩:Ql) o2).map λr=>.tup [.agg (X4 r.1),.b r.2]:=by
 rcases A,B,C,D,E,F,G,H with⟨⟨rfl⟩,⟨rfl⟩,⟨rfl⟩,⟨rfl⟩,⟨rfl⟩,⟨rfl⟩,⟨rfl⟩,⟨rfl⟩⟩
 rw[bu];simp-dsimp+contextual(maxSteps:=1000000)only[↓QW,eZ,seval,func102,f102,Qm9,vH,GL,Ai]
 try simp only[Vg,eY]
 repeat rfl
def Uj(s){D a E f F m}[A:QD Vo D a][B:QD Vx E f][C:QC X6 F m]:CP T (n+13) 99 [.agg D,.agg E,.imm 2 F,.i .i64 s]=(A5 a f m s).map λr=>.tup [.agg (X4 r.1),.b r.2]:=by
 rcases A,B,C with⟨⟨rfl⟩,⟨rfl⟩,⟨rfl⟩⟩
 rw[QU];simp-dsimp+contextual(maxSteps:=1000000)only[↓QW,eZ,seval,func99,f99,Qpp,QfQ,It,Ai,YY,SR,WZ,Na,E3]
 try simp only[A5,eY]
 repeat rfl
def Py(axNo axNow i){I c J axFinds K axSecrets L axSlots M axClaims N axTrials O axChain P axBook}[A:QD XO I c][B:QC Vx J axFinds][C:QC Vy K axSecrets][D:QC VL L axSlots][E:QC Q1 M axClaims][F:QC VH N axTrials][G:QC V0 O axChain][H:QC VX P axBook]:CA T (n+14) 38 [some (.box I),some (.lst 8 J),some (.lst 3 K),some (.lst 3 L),some (.lst 5 M),some (.lst 4 N),some (.lst 5 O),some (.lst 4 P)] [.ptr 0 0 0,.agg [.i .i64 axNo,.sl 1,.sl 2,.sl 3,.sl 4,.sl 5,.sl 6,.sl 7,.i .i64 axNow],.i .i64 i]=(ZW c (⟨axNo,axFinds,axSecrets,axSlots,axClaims,axTrials,axChain,axBook,axNow⟩:Ql) i).map λr=>(.agg [.i .i64 r.2.No,.sl 8,.sl 9,.sl 10,.sl 11,.sl 12,.sl 13,.sl 14,.i .i64 r.2.Now],[some (.box (XO r.1)),some (.lst 8 (axFinds.map Vx)),some (.lst 3 (axSecrets.map Vy)),some (.lst 3 (axSlots.map VL)),some (.lst 5 (axClaims.map Q1)),some (.lst 4 (axTrials.map VH)),some (.lst 5 (axChain.map V0)),some (.lst 4 (axBook.map VX)),some (.lst 8 (r.2.Qt.map Vx)),some (.lst 3 (r.2.Qn.map Vy)),some (.lst 3 (r.2.Qs.map VL)),some (.lst 5 (r.2.Qv.map Q1)),some (.lst 4 (r.2.Qq.map VH)),some (.lst 5 (r.2.Qw.map V0)),some (.lst 4 (r.2.Book.map VX))]):=by
 rcases A,B,C,D,E,F,G,H with⟨⟨rfl⟩,⟨rfl⟩,⟨rfl⟩,⟨rfl⟩,⟨rfl⟩,⟨rfl⟩,⟨rfl⟩,⟨rfl⟩⟩
 rw[HM];simp-dsimp+contextual(maxSteps:=1000000)only[↓QW,eZ,seval,func38,f38,Qpr,Qge,It,aO,XB,Pv,Mg,ax,Uj]
 try simp only[ZW,eY]
 repeat rfl
def Pu(k b i){C l D a}[A:QC Q1 C l][B:QD Q1 D a]:LP T (n+1) 101 4 (Vm [(0,.imm 5 C),(3,.ptr 0 0 0),(6,.i .i64 k),(7,.b b),(8,.i .i64 i)]) [some (.box D)]=(run (Z2 l a) (k,b,i)).map (λzr=>(XE.exit 0,Vm [(0,.imm 5 (l.map Q1)),(3,.ptr 0 0 0),(6,.i .i64 zr.1),(7,.b zr.2)],[some (.box (Q1 a))])):=by
 rcases A,B with⟨⟨rfl⟩,⟨rfl⟩⟩
 rw[Vh];simp-dsimp only[↓QW,Zt,QX,func101,f101,QbV,mJ,TP,TZ,seval];apply HC k b i;intro k b i;simp-dsimp+contextual only[↓QW,eZ,seval]
 try simp only[Z2,eY]
 try simp only[List.contains_nil,Qi,Bool.and_true,Xy,List.length_append,List.length_cons,List.length_nil,Nat.zero_add,Xt,X3]
 repeat rfl
def Uy{C l D a}[A:QC Q1 C l][B:QD Q1 D a]:CP T (n+4) 101 [.imm 5 C,.agg D]=(Ea l a).map λr=>.tup [.own 5 (r.1.map Q1),.b r.2]:=by
 rcases A,B with⟨⟨rfl⟩,⟨rfl⟩⟩
 rw[QU];simp-dsimp+contextual only[↓QW,eZ,seval,func101,f101,QbV,mJ,Hl,Pu]
 try simp only[Ea,eY]
 try simp only[List.contains_nil,Qi,Bool.and_true,Xy,List.length_append,List.length_cons,List.length_nil,Nat.zero_add,Xt,X3]
 all_goals first|rfl|(simp +contextual only[I1]<;>rfl)
def Oa(i a oxNo oxNow o2 k){I a2 J oxFinds K oxSecrets L oxSlots M oxClaims N oxTrials O oxChain P oxBook}[A:QD Vo I a2][B:QC Vx J oxFinds][C:QC Vy K oxSecrets][D:QC VL L oxSlots][E:QC Q1 M oxClaims][F:QC VH N oxTrials][G:QC V0 O oxChain][H:QC VX P oxBook]:LP T (n+1) 39 5 (Vm [(1,.i .i64 i),(3,.i .i64 a),(4,.ptr 0 0 0),(8,.ptr 1 0 0),(10,.ptr 2 0 0),(12,.b o2),(13,.i .i64 k)]) [some (.box I),some (.box [.i .i64 0,.nil,.nil,.nil,.nil,.nil,.nil,.nil,.i .i64 0]),some (.box [.i .i64 oxNo,.sl 3,.sl 4,.sl 5,.sl 6,.sl 7,.sl 8,.sl 9,.i .i64 oxNow]),some (.lst 8 J),some (.lst 3 K),some (.lst 3 L),some (.lst 5 M),some (.lst 4 N),some (.lst 5 O),some (.lst 4 P)]=(run (Ao i a a2 (⟨oxNo,oxFinds,oxSecrets,oxSlots,oxClaims,oxTrials,oxChain,oxBook,oxNow⟩:Ql) o2) k).map (λzr=>(XE.exit 0,Vm [(1,.i .i64 i),(3,.i .i64 a),(4,.ptr 0 0 0),(8,.ptr 1 0 0),(10,.ptr 2 0 0),(12,.b o2),(13,.i .i64 zr)],[some (.box (Vo a2)),some (.box [.i .i64 0,.nil,.nil,.nil,.nil,.nil,.nil,.nil,.i .i64 0]),some (.box [.i .i64 oxNo,.sl 3,.sl 4,.sl 5,.sl 6,.sl 7,.sl 8,.sl 9,.i .i64 oxNow]),some (.lst 8 (oxFinds.map Vx)),some (.lst 3 (oxSecrets.map Vy)),some (.lst 3 (oxSlots.map VL)),some (.lst 5 (oxClaims.map Q1)),some (.lst 4 (oxTrials.map VH)),some (.lst 5 (oxChain.map V0)),some (.lst 4 (oxBook.map VX))])):=by
 rcases A,B,C,D,E,F,G,H with⟨⟨rfl⟩,⟨rfl⟩,⟨rfl⟩,⟨rfl⟩,⟨rfl⟩,⟨rfl⟩,⟨rfl⟩,⟨rfl⟩⟩
 rw[Vh];simp-dsimp only[↓QW,Zt,QX,func39,f39,QmQ,yp,TP,TZ,seval];apply Q9 k;intro k;simp-dsimp+contextual(maxSteps:=1000000)only[↓QW,eZ,seval,It]
 try simp only[Ao,eY]
 try simp only[List.contains_nil,Qi,Bool.and_true,Xy,List.length_append,List.length_cons,List.length_nil,Nat.zero_add,Xt,X3]
 repeat rfl
def TA(i w a2){B a}[A:QD Vo B a]:CP T (n+13) 39 [.agg B,.i .i64 i,.i .i64 w,.i .i64 a2]=(Jo a i w a2).map λr=>.tup [.agg (X4 r.1),.b r.2]:=by
 obtain⟨rfl⟩:=A;rw[QU];simp-dsimp+contextual(maxSteps:=1000000)only[↓QW,eZ,seval,func39,f39,QmQ,yp,It,Ai,Uy,Ht,E3,Oa]
 try simp only[Jo,eY]
 try simp only[List.contains_nil,Qi,Bool.and_true,Xy,List.length_append,List.length_cons,List.length_nil,Nat.zero_add,Xt,X3]
 repeat rfl
def Us(a2){B a}[A:QD Vo B a]:CP T (n+13) 40 [.agg B,.i .i64 a2]=(Zw a a2).map λr=>.tup [.agg (X4 r.1),.b r.2]:=by
 obtain⟨rfl⟩:=A;rw[QU];simp-dsimp+contextual(maxSteps:=1000000)only[↓QW,eZ,seval,func40,f40,Qog,Qb8,It,Ai,JN,E3]
 try simp only[Zw,eY]
 repeat rfl
def ME(a k i){B l}[A:QC Q1 B l]:LP T (n+1) 105 3 (Vm [(0,.imm 5 B),(1,.i .i64 a),(5,.i .i64 k),(6,.i .i64 i)]) []=(run (Xd l a) (k,i)).map (λzr=>(XE.exit 0,Vm [(0,.imm 5 (l.map Q1)),(5,.i .i64 zr)],[])):=by
 obtain⟨rfl⟩:=A;rw[Vh];simp-dsimp only[↓QW,Zt,QX,func105,f105,QaR,lq,TP,TZ,seval];apply VF k i;intro k i;simp-dsimp+contextual only[↓QW,eZ,seval]
 try simp only[Xd,eY]
 repeat rfl
def Px(a){B l}[A:QC Q1 B l]:CP T (n+2) 105 [.imm 5 B,.i .i64 a]=(ZT l a).map λr=>.i .i64 r:=by
 obtain⟨rfl⟩:=A;rw[QU];simp-dsimp+contextual only[↓QW,eZ,seval,func105,f105,QaR,lq,ME]
 try simp only[ZT,eY]
 repeat rfl
def Ou(i i2){B l}[A:QC Q1 B l]:LP T (n+1) 107 2 (Vm [(0,.imm 5 B),(1,.i .i64 i),(5,.i .i64 i2)]) []=JR (run (Av l i) i2) (λzr=>(XE.ret,Vm [(4,.i .i64 zr)],[])) (λzr=>(XE.exit 0,Vm [],[])):=by
 obtain⟨rfl⟩:=A;rw[Vh];simp-dsimp only[↓QW,Zt,QX,func107,f107,QaV,kW,TP,TZ,seval];apply Q9 i2;intro i2;simp-dsimp+contextual only[↓QW,eZ,seval]
 try simp only[Av,eY]
 repeat rfl
def Fz(i){B l}[A:QC Q1 B l]:CP T (n+2) 107 [.imm 5 B,.i .i64 i]=(JV l i).map λr=>.i .i64 r:=by
 obtain⟨rfl⟩:=A;rw[QU];simp-dsimp+contextual only[↓QW,eZ,seval,func107,f107,QaV,kW,Ou]
 try simp only[JV,eY]
 repeat rfl
def Sr(s i){B o}[A:QC VL B o]:LP T (n+1) 186 6 (Vm [(6,.sl 0),(7,.i .i64 s),(8,.i .i64 i)]) [some (.lst 3 B)]=(run (J1 s) (o,i)).map (λzr=>(XE.exit 0,Vm [(6,.sl 0)],[some (.lst 3 (zr.map VL))])):=by
 obtain⟨rfl⟩:=A;rw[Vh];simp-dsimp only[↓QW,Zt,QX,func186,f186,QbX,mb,TP,TZ,seval];apply VF o i;intro o i;simp-dsimp+contextual only[↓QW,eZ,seval]
 try simp only[J1,eY]
 repeat rfl
def YZ(a){B l}[A:QC VL B l]:CP T (n+4) 186 [.imm 3 B,.i .i64 a]=(Fi l a).map λr=>.tup [.own 3 (r.1.map VL),.b r.2]:=by
 obtain⟨rfl⟩:=A;rw[QU];simp-dsimp+contextual only[↓QW,eZ,seval,func186,f186,QbX,mb,Ht,HY,Sr]
 try simp only[Fi,eY]
 all_goals first|rfl|(simp +contextual only[I1]<;>rfl)
def au(a2 a3 w){B a}[A:QD Vo B a]:CP T (n+9) 108 [.agg B,.i .i64 a2,.i .i64 a3,.i .i64 w]=(B4 a a2 a3 w).map λr=>.tup [.agg (X4 r.1),.b r.2]:=by
 obtain⟨rfl⟩:=A;rw[QU];simp-dsimp+contextual(maxSteps:=1000000)only[↓QW,eZ,seval,func108,f108,QjU,tv,Ai,YZ,Na]
 try simp only[B4,eY]
 repeat rfl
def Uq(i s){B l}[A:QC Q1 B l]:CP T (n+4) 109 [.imm 5 B,.i .i64 i,.i .i64 s]=(FU l i s).map λr=>.tup [.own 5 (r.1.map Q1),.b r.2]:=by
 obtain⟨rfl⟩:=A;rw[QU];simp-dsimp+contextual only[↓QW,eZ,seval,func109,f109,Qky,rb,Fz,Hl]
 try simp only[FU,eY]
 all_goals first|rfl|(simp +contextual only[I1]<;>rfl)
def aR(d){B a}[A:QD ET B a]:CP T (n+3) 111 [.agg B,.i .i64 d]=(HN a d).map λr=>.i .i64 r:=by
 obtain⟨rfl⟩:=A;rw[QU];simp-dsimp+contextual only[↓QW,eZ,seval,func111,f111,Qhr,pV,IH,JN,Pv]
 try simp only[HN,eY]
 repeat rfl
def Ur{C l D a}[A:QC VX C l][B:QD VX D a]:CP T (n+4) 187 [.imm 4 C,.agg D]=(Ek l a).map λr=>.tup [.own 4 (r.1.map VX),.b r.2]:=by
 rcases A,B with⟨⟨rfl⟩,⟨rfl⟩⟩
 rw[QU];simp-dsimp+contextual only[↓QW,eZ,seval,func187,f187,Qju,sM,I6]
 try simp only[Ek,eY]
 try simp only[List.contains_nil,Qi,Bool.and_true,Xy,List.length_append,List.length_cons,List.length_nil,Nat.zero_add,Xt,X3]
 all_goals first|rfl|(simp +contextual only[I1]<;>rfl)
def aq(axNo axNow f a2 c){H axFinds I axSecrets J axSlots K axClaims L axTrials M axChain N axBook}[A:QC Vx H axFinds][B:QC Vy I axSecrets][C:QC VL J axSlots][D:QC Q1 K axClaims][E:QC VH L axTrials][F:QC V0 M axChain][G:QC VX N axBook]:CM T (n+5) 110 [some (.lst 8 H),some (.lst 3 I),some (.lst 3 J),some (.lst 5 K),some (.lst 4 L),some (.lst 5 M),some (.lst 4 N)] [.agg [.i .i64 axNo,.sl 0,.sl 1,.sl 2,.sl 3,.sl 4,.sl 5,.sl 6,.i .i64 axNow],.i .i64 f,.i .i64 a2,.i .i64 c]=(B7 (⟨axNo,axFinds,axSecrets,axSlots,axClaims,axTrials,axChain,axBook,axNow⟩:Ql) f a2 c).map λr=>.tup [.agg (X4 r.1),.b r.2]:=by
 rcases A,B,C,D,E,F,G with⟨⟨rfl⟩,⟨rfl⟩,⟨rfl⟩,⟨rfl⟩,⟨rfl⟩,⟨rfl⟩,⟨rfl⟩⟩
 rw[bu];simp-dsimp+contextual(maxSteps:=1000000)only[↓QW,eZ,seval,func110,f110,Qin,uU,Ur]
 try simp only[B7,eY]
 repeat rfl
def S6(a2){B a}[A:QD Vo B a]:CP T (n+13) 42 [.agg B,.i .i64 a2]=(JW a a2).map λr=>.tup [.agg (X4 r.1),.b r.2]:=by
 obtain⟨rfl⟩:=A;rw[QU];simp-dsimp+contextual(maxSteps:=1000000)only[↓QW,eZ,seval,func42,f42,Qpz,Qgq,It,Px,FC,GL,Ai,Fz,au,Uq,aR,aq,E3]
 try simp only[JW,eY]
 try simp only[List.contains_nil,Qi,Bool.and_true,Xy,List.length_append,List.length_cons,List.length_nil,Nat.zero_add,Xt,X3]
 repeat rfl
def Sw(c i){C a D a2}[A:QD Vo C a][B:QD VH D a2]:LP T (n+1) 112 2 (Vm [(1,.i .i64 c),(2,.ptr 0 0 0),(4,.ptr 1 0 0),(6,.i .i64 i)]) [some (.box C),some (.box D)]=JR (run (J4 c a a2) i) (λzr=>(XE.ret,Vm [(4,.ptr 0 0 0),(5,.b zr.2)],[some (.box (VH zr.1))])) (λzr=>(XE.exit 0,Vm [(4,.ptr 0 0 0)],[some (.box (VH a2))])):=by
 rcases A,B with⟨⟨rfl⟩,⟨rfl⟩⟩
 rw[Vh];simp-dsimp only[↓QW,Zt,QX,func112,f112,QaF,lZ,TP,TZ,seval];apply Q9 i;intro i;simp-dsimp+contextual(maxSteps:=1000000)only[↓QW,eZ,seval]
 try simp only[J4,eY]
 repeat rfl
def Yn(c){B a}[A:QD Vo B a]:CP T (n+2) 112 [.agg B,.i .i64 c]=(AW a c).map λr=>.tup [.agg (VH r.1),.b r.2]:=by
 obtain⟨rfl⟩:=A;rw[QU];simp-dsimp+contextual(maxSteps:=1000000)only[↓QW,eZ,seval,func112,f112,QaF,lZ,Sw]
 try simp only[AW,eY]
 repeat rfl
def Pm(c a){B l}[A:QC X6 B l]:CP T (n+5) 190 [.imm 2 B,.i .i64 c,.i .i64 a]=(Z1 l c a).map λr=>.i .i64 r:=by
 obtain⟨rfl⟩:=A;rw[QU];simp-dsimp+contextual only[↓QW,eZ,seval,func190,f190,QkG,qX,FV,JN,TX,Yr]
 try simp only[Z1,eY]
 repeat rfl
def If{C l D a}[A:QC X6 C l][B:QD VH D a]:CP T (n+6) 115 [.imm 2 C,.agg D]=(XW l a).map λr=>.i .i64 r:=by
 rcases A,B with⟨⟨rfl⟩,⟨rfl⟩⟩
 rw[QU];simp-dsimp+contextual only[↓QW,eZ,seval,func115,f115,QiR,un,GR,Pm]
 try simp only[XW,eY]
 repeat rfl
def O2(q i){B l}[A:QC X6 B l]:LP T (n+1) 114 2 (Vm [(0,.imm 2 B),(1,.i .i64 q),(5,.i .i64 i)]) []=JR (run (Bm l q) i) (λzr=>(XE.ret,Vm [(4,.i .i64 zr)],[])) (λzr=>(XE.exit 0,Vm [],[])):=by
 obtain⟨rfl⟩:=A;rw[Vh];simp-dsimp only[↓QW,Zt,QX,func114,f114,Qby,ku,TP,TZ,seval];apply Q9 i;intro i;simp-dsimp+contextual only[↓QW,eZ,seval]
 try simp only[Bm,eY]
 repeat rfl
def Ms(q){B l}[A:QC X6 B l]:CP T (n+2) 114 [.imm 2 B,.i .i64 q]=(Ec l q).map λr=>.i .i64 r:=by
 obtain⟨rfl⟩:=A;rw[QU];simp-dsimp+contextual only[↓QW,eZ,seval,func114,f114,Qby,ku,O2]
 try simp only[Ec,eY]
 repeat rfl
def Yw(c){B a}[A:QD Vo B a]:CP T (n+7) 43 [.agg B,.i .i64 c]=(E9 a c).map λr=>.i .i64 r:=by
 obtain⟨rfl⟩:=A;rw[QU];simp-dsimp+contextual(maxSteps:=1000000)only[↓QW,eZ,seval,func43,f43,Qok,Qeu,Fz,Yn,ID,If,Ms]
 try simp only[E9,eY]
 repeat rfl
def Kv(a){B c}[A:QD XO B c]:CA T (n+3) 14 [some (.box B)] [.ptr 0 0 0,.i .i64 a]=(Ci c a).map λr=>(.b r.2,[some (.box (XO r.1))]):=by
 obtain⟨rfl⟩:=A;rw[HM];simp-dsimp+contextual(maxSteps:=1000000)only[↓QW,eZ,seval,func14,f14,Qsc,Qca,It,XB]
 try simp only[Ci,eY]
 repeat rfl
def Rj(a2){C l D a}[A:QC X6 C l][B:QD VH D a]:CP T (n+7) 116 [.imm 2 C,.agg D,.i .i64 a2]=(DM l a a2).map λr=>.tup [.agg (VH r.1),.b r.2]:=by
 rcases A,B with⟨⟨rfl⟩,⟨rfl⟩⟩
 rw[QU];simp-dsimp+contextual only[↓QW,eZ,seval,func116,f116,Qm2,sq,If,Ms]
 try simp only[DM,eY]
 repeat rfl
def RZ(c a2){B a}[A:QD Vo B a]:CP T (n+13) 44 [.agg B,.i .i64 c,.i .i64 a2]=(XM a c a2).map λr=>.tup [.agg (X4 r.1),.b r.2]:=by
 obtain⟨rfl⟩:=A;rw[QU];simp-dsimp+contextual(maxSteps:=1000000)only[↓QW,eZ,seval,func44,f44,QrU,Qeq,It,Ai,Fz,GL,ID,Rj,GR,E3]
 try simp only[XM,eY]
 repeat rfl
def PV(axNo axNow i){I c J axFinds K axSecrets L axSlots M axClaims N axTrials O axChain P axBook}[A:QD XO I c][B:QC Vx J axFinds][C:QC Vy K axSecrets][D:QC VL L axSlots][E:QC Q1 M axClaims][F:QC VH N axTrials][G:QC V0 O axChain][H:QC VX P axBook]:LP T (n+15) 13 4 (Vm [(0,.ptr 0 0 0),(2,.ptr 1 0 0),(3,.ptr 2 0 0),(5,.i .i64 i)]) [some (.box I),some (.box [.i .i64 0,.nil,.nil,.nil,.nil,.nil,.nil,.nil,.i .i64 0]),some (.box [.i .i64 axNo,.sl 3,.sl 4,.sl 5,.sl 6,.sl 7,.sl 8,.sl 9,.i .i64 axNow]),some (.lst 8 J),some (.lst 3 K),some (.lst 3 L),some (.lst 5 M),some (.lst 4 N),some (.lst 5 O),some (.lst 4 P)]=(run J2 (c,(⟨axNo,axFinds,axSecrets,axSlots,axClaims,axTrials,axChain,axBook,axNow⟩:Ql),i)).map (λzr=>(XE.exit 0,Vm [(0,.ptr 0 0 0),(2,.ptr 1 0 0),(3,.ptr 2 0 0)],[some (.box (XO zr.1)),some (.box [.i .i64 0,.nil,.nil,.nil,.nil,.nil,.nil,.nil,.i .i64 0]),some (.box [.i .i64 zr.2.No,.sl 3,.sl 4,.sl 5,.sl 6,.sl 7,.sl 8,.sl 9,.i .i64 zr.2.Now]),some (.lst 8 (zr.2.Qt.map Vx)),some (.lst 3 (zr.2.Qn.map Vy)),some (.lst 3 (zr.2.Qs.map VL)),some (.lst 5 (zr.2.Qv.map Q1)),some (.lst 4 (zr.2.Qq.map VH)),some (.lst 5 (zr.2.Qw.map V0)),some (.lst 4 (zr.2.Book.map VX))])):=by
 rcases A,B,C,D,E,F,G,H with⟨⟨rfl⟩,⟨rfl⟩,⟨rfl⟩,⟨rfl⟩,⟨rfl⟩,⟨rfl⟩,⟨rfl⟩,⟨rfl⟩⟩
 rw[Vh];simp-dsimp only[↓QW,Zt,QX,func13,f13,Qd0,pE,TP,TZ,seval];refine run_map (λ(zs:l1Cur×Ql×Int)=>(Vm [(0,.ptr 0 0 0),(2,.ptr 1 0 0),(3,.ptr 2 0 0),(5,.i .i64 zs.2.2)],[some (QE.box (XO zs.1)),some (QE.box [.i .i64 0,.nil,.nil,.nil,.nil,.nil,.nil,.nil,.i .i64 0]),some (QE.box [.i .i64 zs.2.1.No,.sl 3,.sl 4,.sl 5,.sl 6,.sl 7,.sl 8,.sl 9,.i .i64 zs.2.1.Now]),some (QE.lst 8 (zs.2.1.Qt.map Vx)),some (QE.lst 3 (zs.2.1.Qn.map Vy)),some (QE.lst 3 (zs.2.1.Qs.map VL)),some (QE.lst 5 (zs.2.1.Qv.map Q1)),some (QE.lst 4 (zs.2.1.Qq.map VH)),some (QE.lst 5 (zs.2.1.Qw.map V0)),some (QE.lst 4 (zs.2.1.Book.map VX))])) _ ?_ (c,(⟨axNo,axFinds,axSecrets,axSlots,axClaims,axTrials,axChain,axBook,axNow⟩:Ql),i)
 rintro⟨c,a,i⟩;simp-dsimp+contextual(maxSteps:=1000000)only[↓QW,eZ,seval,It,XB,Py]
 try simp only[J2,eY]
 try simp only[List.contains_nil,Qi,Bool.and_true,Xy,List.length_append,List.length_cons,List.length_nil,Nat.zero_add,Xt,X3]
 repeat rfl
def PI(axNo axNow i){I c J axFinds K axSecrets L axSlots M axClaims N axTrials O axChain P axBook}[A:QD XO I c][B:QC Vx J axFinds][C:QC Vy K axSecrets][D:QC VL L axSlots][E:QC Q1 M axClaims][F:QC VH N axTrials][G:QC V0 O axChain][H:QC VX P axBook]:LP T (n+14) 13 8 (Vm [(0,.ptr 0 0 0),(2,.ptr 1 0 0),(3,.ptr 2 0 0),(6,.i .i64 i)]) [some (.box I),some (.box [.i .i64 0,.nil,.nil,.nil,.nil,.nil,.nil,.nil,.i .i64 0]),some (.box [.i .i64 axNo,.sl 3,.sl 4,.sl 5,.sl 6,.sl 7,.sl 8,.sl 9,.i .i64 axNow]),some (.lst 8 J),some (.lst 3 K),some (.lst 3 L),some (.lst 5 M),some (.lst 4 N),some (.lst 5 O),some (.lst 4 P)]=(run Zb (c,(⟨axNo,axFinds,axSecrets,axSlots,axClaims,axTrials,axChain,axBook,axNow⟩:Ql),i)).map (λzr=>(XE.exit 2,Vm [(0,.ptr 0 0 0),(2,.ptr 1 0 0),(3,.ptr 2 0 0)],[some (.box (XO zr.1)),some (.box [.i .i64 0,.nil,.nil,.nil,.nil,.nil,.nil,.nil,.i .i64 0]),some (.box [.i .i64 zr.2.No,.sl 3,.sl 4,.sl 5,.sl 6,.sl 7,.sl 8,.sl 9,.i .i64 zr.2.Now]),some (.lst 8 (zr.2.Qt.map Vx)),some (.lst 3 (zr.2.Qn.map Vy)),some (.lst 3 (zr.2.Qs.map VL)),some (.lst 5 (zr.2.Qv.map Q1)),some (.lst 4 (zr.2.Qq.map VH)),some (.lst 5 (zr.2.Qw.map V0)),some (.lst 4 (zr.2.Book.map VX))])):=by
 rcases A,B,C,D,E,F,G,H with⟨⟨rfl⟩,⟨rfl⟩,⟨rfl⟩,⟨rfl⟩,⟨rfl⟩,⟨rfl⟩,⟨rfl⟩,⟨rfl⟩⟩
 rw[Vh];simp-dsimp only[↓QW,Zt,QX,func13,f13,Qd0,pE,TP,TZ,seval];refine run_map (λ(zs:l1Cur×Ql×Int)=>(Vm [(0,.ptr 0 0 0),(2,.ptr 1 0 0),(3,.ptr 2 0 0),(6,.i .i64 zs.2.2)],[some (QE.box (XO zs.1)),some (QE.box [.i .i64 0,.nil,.nil,.nil,.nil,.nil,.nil,.nil,.i .i64 0]),some (QE.box [.i .i64 zs.2.1.No,.sl 3,.sl 4,.sl 5,.sl 6,.sl 7,.sl 8,.sl 9,.i .i64 zs.2.1.Now]),some (QE.lst 8 (zs.2.1.Qt.map Vx)),some (QE.lst 3 (zs.2.1.Qn.map Vy)),some (QE.lst 3 (zs.2.1.Qs.map VL)),some (QE.lst 5 (zs.2.1.Qv.map Q1)),some (QE.lst 4 (zs.2.1.Qq.map VH)),some (QE.lst 5 (zs.2.1.Qw.map V0)),some (QE.lst 4 (zs.2.1.Book.map VX))])) _ ?_ (c,(⟨axNo,axFinds,axSecrets,axSlots,axClaims,axTrials,axChain,axBook,axNow⟩:Ql),i)
 rintro⟨c,a,i⟩;simp-dsimp+contextual(maxSteps:=1000000)only[↓QW,eZ,seval,It,XB,TA,Mg,Us,S6,Yw,Kv,RZ]
 try simp only[Zb,eY]
 try simp only[List.contains_nil,Qi,Bool.and_true,Xy,List.length_append,List.length_cons,List.length_nil,Nat.zero_add,Xt,X3]
 repeat rfl
def Wh{B c}[A:QD XO B c]:CA T (n+16) 13 [some (.box B)] [.ptr 0 0 0]=(Ds c).map λr=>(.agg [.i .i64 r.2.No,.sl 1,.sl 2,.sl 3,.sl 4,.sl 5,.sl 6,.sl 7,.i .i64 r.2.Now],[some (.box (XO r.1)),some (.lst 8 (r.2.Qt.map Vx)),some (.lst 3 (r.2.Qn.map Vy)),some (.lst 3 (r.2.Qs.map VL)),some (.lst 5 (r.2.Qv.map Q1)),some (.lst 4 (r.2.Qq.map VH)),some (.lst 5 (r.2.Qw.map V0)),some (.lst 4 (r.2.Book.map VX))]):=by
 obtain⟨rfl⟩:=A;rw[HM];simp-dsimp+contextual(maxSteps:=1000000)only[↓QW,eZ,seval,func13,f13,Qd0,pE,It,XB,Ug,Un,PV,PI]
 try simp only[Ds,eY]
 repeat rfl
def Up{C c D l}[A:QD XO C c][B:QC IW D l]:CA T (n+3) 45 [some (.box C),some (.lst 1 D)] [.ptr 0 0 0,.sl 1]=(FQ c l).map λr=>(.s r.2,[some (.box (XO r.1)),some (.lst 1 (l.map IW))]):=by
 rcases A,B with⟨⟨rfl⟩,⟨rfl⟩⟩
 rw[HM];simp-dsimp+contextual(maxSteps:=1000000)only[↓QW,eZ,seval,func45,f45,QrL,Qe8,It,XB]
 try simp only[FQ,eY]
 repeat rfl
def MX{B c}[A:QD XO B c]:CA T (n+4) 15 [some (.box B)] [.ptr 0 0 0]=(DH c).map λr=>(.s r.2,[some (.box (XO r.1))]):=by
 obtain⟨rfl⟩:=A;rw[HM];simp-dsimp+contextual(maxSteps:=1000000)only[↓QW,eZ,seval,func15,f15,Qrc,Qce,It,Up]
 try simp only[DH,eY]
 repeat rfl
def L1{B c}[A:QC Hn B c]:CP T (n+17) 5 [.imm 1 B]=(Ag c).map λr=>.tup [.agg (X4 r.1),.s r.2]:=by
 obtain⟨rfl⟩:=A;rw[QU];simp-dsimp+contextual(maxSteps:=1000000)only[↓QW,eZ,seval,func5,f5,Aa5,An5,It,Sm,Wh,Kv,MX]
 try simp only[Ag,eY]
 try simp only[List.contains_nil,Qi,Bool.and_true,Xy,List.length_append,List.length_cons,List.length_nil,Nat.zero_add,Xt,X3]
 repeat rfl
def cY(w):CP T (n+1) 17 [.s w]=(Iw w).map λr=>.i .i64 r:=by
 rw[QU];simp-dsimp+contextual(maxSteps:=1000000)only[↓QW,eZ,seval,func17,f17,Qpl,QgM]
 try simp only[Iw,eY]
 repeat rfl
def Ie{B s}[A:QC Vx B s]:CP T (n+1) 47 [.imm 8 B]=(Zx s).map λr=>.own 8 (r.map Vx):=by
 obtain⟨rfl⟩:=A;rw[QU];simp-dsimp+contextual only[↓QW,eZ,seval,func47,f47,QsH,QgL]
 try simp only[Zx,eY]
 all_goals first|rfl|(simp +contextual only[I1]<;>rfl)
def FJ{B s}[A:QC X6 B s]:CP T (n+1) 121 [.imm 2 B]=(JO s).map λr=>.own 2 (r.map X6):=by
 obtain⟨rfl⟩:=A;rw[QU];simp-dsimp+contextual only[↓QW,eZ,seval,func121,f121,QmK,qg]
 try simp only[JO,eY]
 all_goals first|rfl|(simp +contextual only[I1]<;>rfl)
def LV(a2 a3){C o D a}[A:QC Vy C o][B:QC V2 D a]:LP T (n+2) 48 3 (Vm [(3,.sl 0),(7,.imm 3 D),(8,.i .i64 a2),(9,.i .i64 a3)]) [some (.lst 3 C)]=(run (Ju a a2) (o,a3)).map (λzr=>(XE.exit 0,Vm [(3,.sl 0)],[some (.lst 3 (zr.map Vy))])):=by
 rcases A,B with⟨⟨rfl⟩,⟨rfl⟩⟩
 rw[Vh];simp-dsimp only[↓QW,Zt,QX,func48,f48,Qku,wj,TP,TZ,seval];apply VF o a3;intro o a3;simp-dsimp+contextual only[↓QW,eZ,seval,FJ]
 try simp only[Ju,eY]
 repeat rfl
def H0{B l}[A:QC V2 B l]:CP T (n+3) 48 [.imm 3 B]=(ZA l).map λr=>.own 3 (r.map Vy):=by
 obtain⟨rfl⟩:=A;rw[QU];simp-dsimp+contextual only[↓QW,eZ,seval,func48,f48,Qku,wj,LV]
 try simp only[ZA,eY]
 all_goals first|rfl|(simp +contextual only[I1]<;>rfl)
def CD{B s}[A:QC VL B s]:CP T (n+1) 49 [.imm 3 B]=(XX s).map λr=>.own 3 (r.map VL):=by
 obtain⟨rfl⟩:=A;rw[QU];simp-dsimp+contextual only[↓QW,eZ,seval,func49,f49,QoC,Qeh]
 try simp only[XX,eY]
 all_goals first|rfl|(simp +contextual only[I1]<;>rfl)
def EU{B s}[A:QC Q1 B s]:CP T (n+1) 50 [.imm 5 B]=(Xm s).map λr=>.own 5 (r.map Q1):=by
 obtain⟨rfl⟩:=A;rw[QU];simp-dsimp+contextual only[↓QW,eZ,seval,func50,f50,Qpm,QeG]
 try simp only[Xm,eY]
 all_goals first|rfl|(simp +contextual only[I1]<;>rfl)
def M5{B s}[A:QC VH B s]:CP T (n+1) 51 [.imm 4 B]=(Dv s).map λr=>.own 4 (r.map VH):=by
 obtain⟨rfl⟩:=A;rw[QU];simp-dsimp+contextual only[↓QW,eZ,seval,func51,f51,QoI,Qck]
 try simp only[Dv,eY]
 all_goals first|rfl|(simp +contextual only[I1]<;>rfl)
def HZ{B s}[A:QC V0 B s]:CP T (n+1) 52 [.imm 5 B]=(Ji s).map λr=>.own 5 (r.map V0):=by
 obtain⟨rfl⟩:=A;rw[QU];simp-dsimp+contextual only[↓QW,eZ,seval,func52,f52,QsV,Qfh]
 try simp only[Ji,eY]
 all_goals first|rfl|(simp +contextual only[I1]<;>rfl)
def HE{B s}[A:QC VX B s]:CP T (n+1) 53 [.imm 4 B]=(Zc s).map λr=>.own 4 (r.map VX):=by
 obtain⟨rfl⟩:=A;rw[QU];simp-dsimp+contextual only[↓QW,eZ,seval,func53,f53,QrF,QeE]
 try simp only[Zc,eY]
 all_goals first|rfl|(simp +contextual only[I1]<;>rfl)
def Xk{B a}[A:QD Vo B a]:CP T (n+4) 18 [.agg B]=(Vb a).map λr=>.agg (X4 r):=by
 obtain⟨rfl⟩:=A;rw[QU];simp-dsimp+contextual(maxSteps:=1000000)only[↓QW,eZ,seval,func18,f18,Qpt,QgG,Ie,H0,CD,EU,M5,HZ,HE]
 try simp only[Vb,eY]
 repeat rfl
def PH(s a a2 a3):LP T (n+1) 54 5 (Vm [(0,.s s),(4,.i .i64 a),(25,.i .i64 a2),(26,.i .i64 a3)]) []=JR (run (Br s a2) (a,a3)) (λzr=>(XE.ret,Vm [(2,.i .i64 zr.1),(3,.b zr.2)],[])) (λzr=>(XE.exit 0,Vm [(4,.i .i64 zr)],[])):=by
 rw[Vh];simp-dsimp only[↓QW,Zt,QX,func54,f54,Qly,yO,TP,TZ,seval];apply VF a a3;intro a a3;simp-dsimp+contextual only[↓QW,eZ,seval]
 try simp only[Br,eY]
 repeat rfl
def Ga(s):CP T (n+2) 54 [.s s]=(Z6 s).map λr=>.tup [.i .i64 r.1,.b r.2]:=by
 rw[QU];simp-dsimp+contextual only[↓QW,eZ,seval,func54,f54,Qly,yO,PH]
 try simp only[Z6,eY]
 repeat rfl
def Oo(a2 a3){C o D a}[A:QC Vn C o][B:QC IW D a]:LP T (n+3) 55 5 (Vm [(4,.sl 0),(14,.sl 1),(15,.i .i64 a2),(16,.i .i64 a3)]) [some (.lst 1 C),some (.lst 1 D)]=JR (run (Ar a a2) (o,a3)) (λzr=>(XE.ret,Vm [(2,.sl 0),(3,.b zr.2)],[some (.lst 1 (zr.1.map Vn))])) (λzr=>(XE.exit 0,Vm [(4,.sl 0)],[some (.lst 1 (zr.map Vn))])):=by
 rcases A,B with⟨⟨rfl⟩,⟨rfl⟩⟩
 rw[Vh];simp-dsimp only[↓QW,Zt,QX,func55,f55,Qjk,wG,TP,TZ,seval];apply VF o a3;intro o a3;simp-dsimp+contextual only[↓QW,eZ,seval,Ga]
 try simp only[Ar,eY]
 repeat rfl
def Te(s):CP T (n+4) 55 [.s s]=(Da s).map λr=>.tup [.own 1 (r.1.map Vn),.b r.2]:=by
 rw[QU];simp-dsimp+contextual only[↓QW,eZ,seval,func55,f55,Qjk,wG,Gb,Oo]
 try simp only[Da,eY]
 all_goals first|rfl|(simp +contextual only[I1]<;>rfl)
def Tt(s):CP T (n+3) 56 [.s s]=(CT s).map λr=>.tup [.i .i64 r.1,.i .i64 r.2.1,.b r.2.2]:=by
 rw[QU];simp-dsimp+contextual only[↓QW,eZ,seval,func56,f56,QoJ,Qgy,ai,Ga]
 try simp only[CT,eY]
 repeat rfl
def Vl(a l a2):CP T (n+1) 33 [.i .i64 a,.i .i64 l,.i .i64 a2]=(QM a l a2).map λr=>.b r:=by
 rw[QU];simp-dsimp+contextual only[↓QW,eZ,seval,func33,f33,Qsp,QgC]
 try simp only[QM,eY]
 repeat rfl
def Mm(k):CP T (n+2) 123 [.i .i64 k]=(Eh k).map λr=>.s r:=by
 rw[QU];simp-dsimp+contextual only[↓QW,eZ,seval,func123,f123,Qnm,wd,Vl]
 try simp only[Eh,eY]
 repeat rfl
def SK(s k):LP T (n+3) 57 2 (Vm [(0,.s s),(3,.i .i64 k)]) []=JR (run (JY s) k) (λzr=>(XE.ret,Vm [(2,.i .i64 zr)],[])) (λzr=>(XE.exit 0,Vm [],[])):=by
 rw[Vh];simp-dsimp only[↓QW,Zt,QX,func57,f57,Qlr,Qaj,TP,TZ,seval];apply Q9 k;intro k;simp-dsimp+contextual only[↓QW,eZ,seval,Mm]
 try simp only[JY,eY]
 repeat rfl
def OG(s):CP T (n+4) 57 [.s s]=(AZ s).map λr=>.i .i64 r:=by
 rw[QU];simp-dsimp+contextual only[↓QW,eZ,seval,func57,f57,Qlr,Qaj,SK]
 try simp only[AZ,eY]
 repeat rfl
def MB(l2 a a3 a4){C l D a2}[A:QC Vn C l][B:QC Vn D a2]:LP T (n+2) 199 2 (Vm [(0,.imm 1 C),(1,.i .i64 l2),(2,.i .i64 a),(9,.imm 1 D),(10,.i .i64 a3),(11,.i .i64 a4)]) []=JR (run (ZI l l2 a a2 a3) a4) (λzr=>(XE.ret,Vm [(6,.b zr)],[])) (λzr=>(XE.exit 0,Vm [],[])):=by
 rcases A,B with⟨⟨rfl⟩,⟨rfl⟩⟩
 rw[Vh];simp-dsimp only[↓QW,Zt,QX,func199,f199,QbQ,mC,TP,TZ,seval];apply Q9 a4;intro a4;simp-dsimp+contextual only[↓QW,eZ,seval,Vl]
 try simp only[ZI,eY]
 repeat rfl
def PG(l2 a){B l}[A:QC Vn B l]:CP T (n+3) 199 [.imm 1 B,.i .i64 l2,.i .i64 a]=(Bq l l2 a).map λr=>.b r:=by
 obtain⟨rfl⟩:=A;rw[QU];simp-dsimp+contextual only[↓QW,eZ,seval,func199,f199,QbQ,mC,MB]
 try simp only[Bq,eY]
 repeat rfl
def aK{B s}[A:QD bZ B s]:CP T (n+2) 200 [.agg B]=(Ke s).map λr=>.b r:=by
 obtain⟨rfl⟩:=A;rw[QU];simp-dsimp+contextual only[↓QW,eZ,seval,func200,f200,QjH,vg,Vl]
 try simp only[Ke,eY]
 repeat rfl
def Md{B r}[A:QD Ik B r]:CP T (n+4) 124 [.agg B]=(Zv r).map λr=>.b r:=by
 obtain⟨rfl⟩:=A;rw[QU];simp-dsimp+contextual only[↓QW,eZ,seval,func124,f124,Qnq,su,Vl,PG,aK]
 try simp only[Zv,eY]
 repeat rfl
def JC(a):CP T (n+2) 62 [.i .i64 a]=(Vf a).map λr=>.s r:=by
 rw[QU];simp-dsimp+contextual only[↓QW,eZ,seval,func62,f62,Qsq,Qfk,Wu]
 try simp only[Vf,eY]
 repeat rfl
end Go.Proofs.YtfhnbabcbhgffaaGreatDoor
