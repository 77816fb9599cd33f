import Derived.Test.YtonidbheohhgdaaGreatEc
namespace Go.Proofs.YtonidbheohhgdaaGreat
open Go Go.Proofs Go.Proofs.YtonidbheohhgdaaGreat.Am
set_option maxHeartbeats 4000000
set_option linter.unusedVariables false
set_option linter.unusedSimpArgs false
set_option linter.defProp false
set_option maxRecDepth 100000
variable (n : Nat)
theorem Qq9 {R1 c} [H1 : EncL QdV R1 c] : CP T (n + 1) 5 [.imm 1 R1] = (Qi2 c).map fun r=>.b r:=by
 obtain ⟨rfl⟩:=H1
 rw [Qg]
 simp -dsimp +contextual only [↓evA,eZ,Nat.reduceAdd,Nat.reduceMul,Nat.reduceBEq,Nat.reduceLeDiff,Nat.reduceLT,Tryz.func5,Tryz.f5,Aa5,An5]
 try simp only [Qi2,eY]
 all_goals rfl
theorem QkW (a i) {R1 c} [H1 : EncL QdV R1 c] : LP T (n + 1) 30 3 (frm [(0,.imm 1 R1),(3,.i .i64 a),(4,.i .i64 i)]) [] =
  (run (J5 c) (a,i)).map (fun (zr : Int)=>(XE.exit 0,frm [(0,.imm 1 (c.map QdV)),(3,.i .i64 zr)],[])):=by
 obtain ⟨rfl⟩:=H1
 rw [QH]
 simp -dsimp only [↓evA,evB,Qr,Tryz.func30,Tryz.f30,QLD,Qxa,TP,TZ,Nat.reduceAdd,Nat.reduceMul,Nat.reduceBEq,Nat.reduceLeDiff,Nat.reduceLT]
 apply VP a i
 intro a i
 simp -dsimp +contextual only [↓evA,eZ,Nat.reduceAdd,Nat.reduceMul,Nat.reduceBEq,Nat.reduceLeDiff,Nat.reduceLT]
 try simp only [J5,eY]
 all_goals rfl
theorem QoW {R1 c} [H1 : EncL QdV R1 c] : CA T (n + 2) 30 [] [.imm 1 R1] = (Qec c).map fun r=>(.ptr 0 0 0,[some (Ent.box (Xo r))]):=by
 obtain ⟨rfl⟩:=H1
 rw [Qef]
 simp -dsimp +contextual (maxSteps:=100000000) only [↓evA,eZ,Nat.reduceAdd,Nat.reduceMul,Nat.reduceBEq,Nat.reduceLeDiff,Nat.reduceLT,Tryz.func30,Tryz.f30,QLD,Qxa,QkW]
 try simp only [Qec,eY]
 all_goals rfl
theorem Qm8 {R1 c} [H1 : EncR Xo R1 c] : CA T (n + 1) 149 [some (Ent.box R1)] [.ptr 0 0 0] = (Qaq c).map fun r=>(.i .i64 r.2,[some (Ent.box (Xo r.1))]):=by
 obtain ⟨rfl⟩:=H1
 rw [Qef]
 simp -dsimp +contextual (maxSteps:=100000000) only [↓evA,eZ,Nat.reduceAdd,Nat.reduceMul,Nat.reduceBEq,Nat.reduceLeDiff,Nat.reduceLT,Tryz.func149,Tryz.f149,QNX,Qt6]
 try simp only [Qaq,eY]
 all_goals rfl
theorem Xn (a) {R1 c} [H1 : EncR Xo R1 c] : CA T (n + 2) 77 [some (Ent.box R1)] [.ptr 0 0 0,.i .i64 a] = (Qv c a).map fun r=>(.i .i64 r.2,[some (Ent.box (Xo r.1))]):=by
 obtain ⟨rfl⟩:=H1
 rw [Qef]
 simp -dsimp +contextual (maxSteps:=100000000) only [↓evA,eZ,Nat.reduceAdd,Nat.reduceMul,Nat.reduceBEq,Nat.reduceLeDiff,Nat.reduceLT,Tryz.func77,Tryz.f77,QQW,QBb,srt,Qm8]
 try simp only [Qv,eY]
 all_goals rfl
theorem QhF (i) {R1 c R2 l} [H1 : EncR Xo R1 c] [H2 : EncL VT R2 l] : LP T (n + 3) 91 3 (frm [(0,.ptr 0 0 0),(3,.sl 1),(4,.i .i64 i)]) [some (Ent.box R1),some (Ent.lst 3 R2)] =
  (run Zk (c,l,i)).map (fun (zr : l1Cur × (List Slot))=>(XE.exit 0,frm [(0,.ptr 0 0 0),(3,.sl 1)],[some (Ent.box (Xo zr.1)),some (Ent.lst 3 (zr.2.map VT))])):=by
 rcases H1,H2 with ⟨⟨rfl⟩,⟨rfl⟩⟩
 rw [QH]
 simp -dsimp only [↓evA,evB,Qr,Tryz.func91,Tryz.f91,QKV,Qym,TP,TZ,Nat.reduceAdd,Nat.reduceMul,Nat.reduceBEq,Nat.reduceLeDiff,Nat.reduceLT]
 apply Qd9 c l i
 intro c l i
 simp -dsimp +contextual only [↓evA,eZ,Nat.reduceAdd,Nat.reduceMul,Nat.reduceBEq,Nat.reduceLeDiff,Nat.reduceLT,srt,Xn]
 try simp only [Zk,eY]
 all_goals rfl
theorem QkJ {R1 c} [H1 : EncR Xo R1 c] : CA T (n + 4) 91 [some (Ent.box R1)] [.ptr 0 0 0] = (Qb4 c).map fun r=>(.sl 1,[some (Ent.box (Xo r.1)),some (Ent.lst 3 (r.2.map VT))]):=by
 obtain ⟨rfl⟩:=H1
 rw [Qef]
 simp -dsimp +contextual (maxSteps:=100000000) only [↓evA,eZ,Nat.reduceAdd,Nat.reduceMul,Nat.reduceBEq,Nat.reduceLeDiff,Nat.reduceLT,Tryz.func91,Tryz.f91,QKV,Qym,srt,QhF]
 try simp only [Qb4,eY]
 all_goals rfl
theorem Qif (i) {R1 l R2 o} [H1 : EncL VX R1 l] [H2 : EncL Q7 R2 o] : LP T (n + 1) 207 3 (frm [(0,.imm 3 R1),(3,.sl 0),(4,.i .i64 i)]) [some (Ent.lst 3 R2)] =
  (run (JU l) (o,i)).map (fun (zr : (List Secret))=>(XE.exit 0,frm [(3,.sl 0)],[some (Ent.lst 3 (zr.map Q7))])):=by
 rcases H1,H2 with ⟨⟨rfl⟩,⟨rfl⟩⟩
 rw [QH]
 simp -dsimp only [↓evA,evB,Qr,Tryz.func207,Tryz.f207,QCp,Qp7,TP,TZ,Nat.reduceAdd,Nat.reduceMul,Nat.reduceBEq,Nat.reduceLeDiff,Nat.reduceLT]
 apply VP o i
 intro o i
 simp -dsimp +contextual only [↓evA,eZ,Nat.reduceAdd,Nat.reduceMul,Nat.reduceBEq,Nat.reduceLeDiff,Nat.reduceLT]
 try simp only [JU,eY]
 all_goals rfl
theorem Ql8 {R1 l} [H1 : EncL VX R1 l] : CP T (n + 2) 207 [.imm 3 R1] = (Xr l).map fun r=>.own 3 (r.map Q7):=by
 obtain ⟨rfl⟩:=H1
 rw [Qg]
 simp -dsimp +contextual only [↓evA,eZ,Nat.reduceAdd,Nat.reduceMul,Nat.reduceBEq,Nat.reduceLeDiff,Nat.reduceLT,Tryz.func207,Tryz.f207,QCp,Qp7,Qif]
 try simp only [Xr,eY]
 all_goals first | rfl | (simp +contextual only [evN] <;> rfl)
theorem Qlp {R1 a} [H1 : EncR QM R1 a] : CP T (n + 3) 150 [.agg R1] = (Vs a).map fun r=>.agg (JH r):=by
 obtain ⟨rfl⟩:=H1
 rw [Qg]
 simp -dsimp +contextual (maxSteps:=100000000) only [↓evA,eZ,Nat.reduceAdd,Nat.reduceMul,Nat.reduceBEq,Nat.reduceLeDiff,Nat.reduceLT,Tryz.func150,Tryz.f150,QHS,Qsy,Ql8]
 try simp only [Vs,eY]
 all_goals rfl
theorem Jw (a l m) : CP T (n + 1) 43 [.i .i64 a,.i .i64 l,.i .i64 m] = (Qc a l m).map fun r=>.b r:=by
 rw [Qg]
 simp -dsimp +contextual only [↓evA,eZ,Nat.reduceAdd,Nat.reduceMul,Nat.reduceBEq,Nat.reduceLeDiff,Nat.reduceLT,Tryz.func43,Tryz.f43,QR8,QzH]
 try simp only [Qc,eY]
 all_goals rfl
theorem QlQ {R1 a} [H1 : EncR QcB R1 a] : CP T (n + 2) 173 [.agg R1] = (XO a).map fun r=>.b r:=by
 obtain ⟨rfl⟩:=H1
 rw [Qg]
 simp -dsimp +contextual only [↓evA,eZ,Nat.reduceAdd,Nat.reduceMul,Nat.reduceBEq,Nat.reduceLeDiff,Nat.reduceLT,Tryz.func173,Tryz.f173,QNL,Qs1,Jw]
 try simp only [XO,eY]
 all_goals rfl
theorem QmU {R1 f} [H1 : EncR Vf R1 f] : CP T (n + 3) 102 [.agg R1] = (X9 f).map fun r=>.b r:=by
 obtain ⟨rfl⟩:=H1
 rw [Qg]
 simp -dsimp +contextual only [↓evA,eZ,Nat.reduceAdd,Nat.reduceMul,Nat.reduceBEq,Nat.reduceLeDiff,Nat.reduceLT,Tryz.func102,Tryz.f102,QLc,QsB,QlQ,Jw]
 try simp only [X9,eY]
 all_goals rfl
theorem Qh4 (i) {R1 l} [H1 : EncL Vf R1 l] : LP T (n + 4) 44 2 (frm [(0,.imm 8 R1),(3,.i .i64 i)]) [] =
  JF (run (Vb l) i) (fun (zr : Bool)=>(XE.ret,frm [(2,.b zr)],[])) (fun (zr : Unit)=>(XE.exit 0,frm [(0,.imm 8 (l.map Vf))],[])):=by
 obtain ⟨rfl⟩:=H1
 rw [QH]
 simp -dsimp only [↓evA,evB,Qr,Tryz.func44,Tryz.f44,QJN,Qzf,TP,TZ,Nat.reduceAdd,Nat.reduceMul,Nat.reduceBEq,Nat.reduceLeDiff,Nat.reduceLT]
 apply Qu i
 intro i
 simp -dsimp +contextual only [↓evA,eZ,Nat.reduceAdd,Nat.reduceMul,Nat.reduceBEq,Nat.reduceLeDiff,Nat.reduceLT,QmU]
 try simp only [Vb,eY]
 all_goals rfl
theorem QkC {R1 l} [H1 : EncL Vf R1 l] : CP T (n + 5) 44 [.imm 8 R1] = (V1 l).map fun r=>.b r:=by
 obtain ⟨rfl⟩:=H1
 rw [Qg]
 simp -dsimp +contextual only [↓evA,eZ,Nat.reduceAdd,Nat.reduceMul,Nat.reduceBEq,Nat.reduceLeDiff,Nat.reduceLT,Tryz.func44,Tryz.f44,QJN,Qzf,Qh4]
 try simp only [V1,eY]
 all_goals rfl
theorem QhG (i) {R1 l} [H1 : EncL XW R1 l] : LP T (n + 2) 103 2 (frm [(0,.imm 2 R1),(3,.i .i64 i)]) [] =
  JF (run (Zi l) i) (fun (zr : Bool)=>(XE.ret,frm [(2,.b zr)],[])) (fun (zr : Unit)=>(XE.exit 0,frm [(0,.imm 2 (l.map XW))],[])):=by
 obtain ⟨rfl⟩:=H1
 rw [QH]
 simp -dsimp only [↓evA,evB,Qr,Tryz.func103,Tryz.f103,QCx,Qpr,TP,TZ,Nat.reduceAdd,Nat.reduceMul,Nat.reduceBEq,Nat.reduceLeDiff,Nat.reduceLT]
 apply Qu i
 intro i
 simp -dsimp +contextual only [↓evA,eZ,Nat.reduceAdd,Nat.reduceMul,Nat.reduceBEq,Nat.reduceLeDiff,Nat.reduceLT,Jw]
 try simp only [Zi,eY]
 all_goals rfl
theorem QfS {R1 l} [H1 : EncL XW R1 l] : CP T (n + 3) 103 [.imm 2 R1] = (Qa7 l).map fun r=>.b r:=by
 obtain ⟨rfl⟩:=H1
 rw [Qg]
 simp -dsimp +contextual only [↓evA,eZ,Nat.reduceAdd,Nat.reduceMul,Nat.reduceBEq,Nat.reduceLeDiff,Nat.reduceLT,Tryz.func103,Tryz.f103,QCx,Qpr,QhG]
 try simp only [Qa7,eY]
 all_goals rfl
theorem Qgp (i) {R1 l} [H1 : EncL VX R1 l] : LP T (n + 4) 45 2 (frm [(0,.imm 3 R1),(3,.i .i64 i)]) [] =
  JF (run (Xy l) i) (fun (zr : Bool)=>(XE.ret,frm [(2,.b zr)],[])) (fun (zr : Unit)=>(XE.exit 0,frm [(0,.imm 3 (l.map VX))],[])):=by
 obtain ⟨rfl⟩:=H1
 rw [QH]
 simp -dsimp only [↓evA,evB,Qr,Tryz.func45,Tryz.f45,QMd,Qx5,TP,TZ,Nat.reduceAdd,Nat.reduceMul,Nat.reduceBEq,Nat.reduceLeDiff,Nat.reduceLT]
 apply Qu i
 intro i
 simp -dsimp +contextual only [↓evA,eZ,Nat.reduceAdd,Nat.reduceMul,Nat.reduceBEq,Nat.reduceLeDiff,Nat.reduceLT,Jw,QfS]
 try simp only [Xy,eY]
 all_goals rfl
theorem Qjh {R1 l} [H1 : EncL VX R1 l] : CP T (n + 5) 45 [.imm 3 R1] = (Xs l).map fun r=>.b r:=by
 obtain ⟨rfl⟩:=H1
 rw [Qg]
 simp -dsimp +contextual only [↓evA,eZ,Nat.reduceAdd,Nat.reduceMul,Nat.reduceBEq,Nat.reduceLeDiff,Nat.reduceLT,Tryz.func45,Tryz.f45,QMd,Qx5,Qgp]
 try simp only [Xs,eY]
 all_goals rfl
theorem QhV (i k) {R1 l} [H1 : EncL VT R1 l] : LP T (n + 1) 46 7 (frm [(0,.imm 3 R1),(3,.i .i64 i),(4,.i .i64 k)]) [] =
  JF (run (VM l i) k) (fun (zr : Bool)=>(XE.ret,frm [(2,.b zr)],[])) (fun (zr : Unit)=>(XE.exit 2,frm [(0,.imm 3 (l.map VT)),(3,.i .i64 i)],[])):=by
 obtain ⟨rfl⟩:=H1
 rw [QH]
 simp -dsimp only [↓evA,evB,Qr,Tryz.func46,Tryz.f46,QDM,Qvz,TP,TZ,Nat.reduceAdd,Nat.reduceMul,Nat.reduceBEq,Nat.reduceLeDiff,Nat.reduceLT]
 apply Qu k
 intro k
 simp -dsimp +contextual only [↓evA,eZ,Nat.reduceAdd,Nat.reduceMul,Nat.reduceBEq,Nat.reduceLeDiff,Nat.reduceLT]
 try simp only [VM,eY]
 all_goals rfl
theorem QhR (i) {R1 l} [H1 : EncL VT R1 l] : LP T (n + 2) 46 2 (frm [(0,.imm 3 R1),(3,.i .i64 i)]) [] =
  JF (run (Qw l) i) (fun (zr : Bool)=>(XE.ret,frm [(2,.b zr)],[])) (fun (zr : Unit)=>(XE.exit 0,frm [(0,.imm 3 (l.map VT))],[])):=by
 obtain ⟨rfl⟩:=H1
 rw [QH]
 simp -dsimp only [↓evA,evB,Qr,Tryz.func46,Tryz.f46,QDM,Qvz,TP,TZ,Nat.reduceAdd,Nat.reduceMul,Nat.reduceBEq,Nat.reduceLeDiff,Nat.reduceLT]
 apply Qu i
 intro i
 simp -dsimp +contextual only [↓evA,eZ,Nat.reduceAdd,Nat.reduceMul,Nat.reduceBEq,Nat.reduceLeDiff,Nat.reduceLT,Jw,QhV]
 try simp only [Qw,eY]
 all_goals rfl
theorem QkQ {R1 l} [H1 : EncL VT R1 l] : CP T (n + 3) 46 [.imm 3 R1] = (V0 l).map fun r=>.b r:=by
 obtain ⟨rfl⟩:=H1
 rw [Qg]
 simp -dsimp +contextual only [↓evA,eZ,Nat.reduceAdd,Nat.reduceMul,Nat.reduceBEq,Nat.reduceLeDiff,Nat.reduceLT,Tryz.func46,Tryz.f46,QDM,Qvz,QhR]
 try simp only [V0,eY]
 all_goals rfl
theorem Qhs (i k) {R1 l R2 a} [H1 : EncL Qs R1 l] [H2 : EncR Qs R2 a] : LP T (n + 1) 47 8 (frm [(0,.imm 5 R1),(3,.i .i64 i),(4,.ptr 0 0 0),(5,.i .i64 k)]) [some (Ent.box R2)] =
  JF (run (XS l i a) k) (fun (zr : Bool)=>(XE.ret,frm [(2,.b zr)],[])) (fun (zr : Unit)=>(XE.exit 2,frm [(0,.imm 5 (l.map Qs)),(3,.i .i64 i)],[])):=by
 rcases H1,H2 with ⟨⟨rfl⟩,⟨rfl⟩⟩
 rw [QH]
 simp -dsimp only [↓evA,evB,Qr,Tryz.func47,Tryz.f47,QGS,QuP,TP,TZ,Nat.reduceAdd,Nat.reduceMul,Nat.reduceBEq,Nat.reduceLeDiff,Nat.reduceLT]
 apply Qu k
 intro k
 simp -dsimp +contextual only [↓evA,eZ,Nat.reduceAdd,Nat.reduceMul,Nat.reduceBEq,Nat.reduceLeDiff,Nat.reduceLT]
 try simp only [XS,eY]
 all_goals rfl
theorem Qhc (i) {R1 l} [H1 : EncL Qs R1 l] : LP T (n + 2) 47 2 (frm [(0,.imm 5 R1),(3,.i .i64 i)]) [] =
  JF (run (Vi l) i) (fun (zr : Bool)=>(XE.ret,frm [(2,.b zr)],[])) (fun (zr : Unit)=>(XE.exit 0,frm [(0,.imm 5 (l.map Qs))],[])):=by
 obtain ⟨rfl⟩:=H1
 rw [QH]
 simp -dsimp only [↓evA,evB,Qr,Tryz.func47,Tryz.f47,QGS,QuP,TP,TZ,Nat.reduceAdd,Nat.reduceMul,Nat.reduceBEq,Nat.reduceLeDiff,Nat.reduceLT]
 apply Qu i
 intro i
 simp -dsimp +contextual only [↓evA,eZ,Nat.reduceAdd,Nat.reduceMul,Nat.reduceBEq,Nat.reduceLeDiff,Nat.reduceLT,Jw,Qhs]
 try simp only [Vi,eY]
 all_goals rfl
theorem Qjt {R1 l} [H1 : EncL Qs R1 l] : CP T (n + 3) 47 [.imm 5 R1] = (QS l).map fun r=>.b r:=by
 obtain ⟨rfl⟩:=H1
 rw [Qg]
 simp -dsimp +contextual only [↓evA,eZ,Nat.reduceAdd,Nat.reduceMul,Nat.reduceBEq,Nat.reduceLeDiff,Nat.reduceLT,Tryz.func47,Tryz.f47,QGS,QuP,Qhc]
 try simp only [QS,eY]
 all_goals rfl
theorem QrO (a m) : CP T (n + 2) 228 [.i .i64 a,.i .i64 m] = (Qc1 a m).map fun r=>.i .i64 r:=by
 rw [Qg]
 simp -dsimp +contextual only [↓evA,eZ,Nat.reduceAdd,Nat.reduceMul,Nat.reduceBEq,Nat.reduceLeDiff,Nat.reduceLT,Tryz.func228,Tryz.f228,QMZ,Qt4,Jw]
 try simp only [Qc1,eY]
 all_goals rfl
theorem Qmd (d i) {R1 l} [H1 : EncL Q2 R1 l] : LP T (n + 3) 174 3 (frm [(0,.imm 1 R1),(3,.i .i64 d),(4,.i .i64 i)]) [] =
  (run (Xp l) (d,i)).map (fun (zr : Int)=>(XE.exit 0,frm [(3,.i .i64 zr)],[])):=by
 obtain ⟨rfl⟩:=H1
 rw [QH]
 simp -dsimp only [↓evA,evB,Qr,Tryz.func174,Tryz.f174,QCM,QqE,TP,TZ,Nat.reduceAdd,Nat.reduceMul,Nat.reduceBEq,Nat.reduceLeDiff,Nat.reduceLT]
 apply VP d i
 intro d i
 simp -dsimp +contextual only [↓evA,eZ,Nat.reduceAdd,Nat.reduceMul,Nat.reduceBEq,Nat.reduceLeDiff,Nat.reduceLT,QrO]
 try simp only [Xp,eY]
 all_goals rfl
theorem Qkk {R1 l} [H1 : EncL Q2 R1 l] : CP T (n + 4) 174 [.imm 1 R1] = (ZD l).map fun r=>.i .i64 r:=by
 obtain ⟨rfl⟩:=H1
 rw [Qg]
 simp -dsimp +contextual only [↓evA,eZ,Nat.reduceAdd,Nat.reduceMul,Nat.reduceBEq,Nat.reduceLeDiff,Nat.reduceLT,Tryz.func174,Tryz.f174,QCM,QqE,Qmd]
 try simp only [ZD,eY]
 all_goals rfl
theorem QkP (b) {R1 a} [H1 : EncR VS R1 a] : CP T (n + 5) 104 [.i .i64 b,.agg R1] = (Jm b a).map fun r=>.i .i64 r:=by
 obtain ⟨rfl⟩:=H1
 rw [Qg]
 simp -dsimp +contextual only [↓evA,eZ,Nat.reduceAdd,Nat.reduceMul,Nat.reduceBEq,Nat.reduceLeDiff,Nat.reduceLT,Tryz.func104,Tryz.f104,QNR,Quj,Qkk]
 try simp only [Jm,eY]
 all_goals rfl
theorem Qix (a b k i) {R1 l} [H1 : EncL VS R1 l] : LP T (n + 1) 105 3 (frm [(0,.imm 5 R1),(1,.i .i64 a),(2,.i .i64 b),(7,.i .i64 k),(8,.i .i64 i)]) [] =
  (run (JM l a b) (k,i)).map (fun (zr : Int)=>(XE.exit 0,frm [(7,.i .i64 zr)],[])):=by
 obtain ⟨rfl⟩:=H1
 rw [QH]
 simp -dsimp only [↓evA,evB,Qr,Tryz.func105,Tryz.f105,QCP,Qqy,TP,TZ,Nat.reduceAdd,Nat.reduceMul,Nat.reduceBEq,Nat.reduceLeDiff,Nat.reduceLT]
 apply VP k i
 intro k i
 simp -dsimp +contextual only [↓evA,eZ,Nat.reduceAdd,Nat.reduceMul,Nat.reduceBEq,Nat.reduceLeDiff,Nat.reduceLT]
 try simp only [JM,eY]
 all_goals rfl
theorem Qgw (a b) {R1 l} [H1 : EncL VS R1 l] : CP T (n + 2) 105 [.imm 5 R1,.i .i64 a,.i .i64 b] = (QbN l a b).map fun r=>.i .i64 r:=by
 obtain ⟨rfl⟩:=H1
 rw [Qg]
 simp -dsimp +contextual only [↓evA,eZ,Nat.reduceAdd,Nat.reduceMul,Nat.reduceBEq,Nat.reduceLeDiff,Nat.reduceLT,Tryz.func105,Tryz.f105,QCP,Qqy,Qix]
 try simp only [QbN,eY]
 all_goals rfl
theorem Qiw (s i) {R1 l} [H1 : EncL VS R1 l] : LP T (n + 6) 48 3 (frm [(0,.imm 5 R1),(3,.i .i64 s),(4,.i .i64 i)]) [] =
  JF (run (QL l) (s,i)) (fun (zr : Bool)=>(XE.ret,frm [(2,.b zr)],[])) (fun (zr : Unit)=>(XE.exit 0,frm [(0,.imm 5 (l.map VS))],[])):=by
 obtain ⟨rfl⟩:=H1
 rw [QH]
 simp -dsimp only [↓evA,evB,Qr,Tryz.func48,Tryz.f48,QNv,Qy5,TP,TZ,Nat.reduceAdd,Nat.reduceMul,Nat.reduceBEq,Nat.reduceLeDiff,Nat.reduceLT]
 apply VP s i
 intro s i
 simp -dsimp +contextual only [↓evA,eZ,Nat.reduceAdd,Nat.reduceMul,Nat.reduceBEq,Nat.reduceLeDiff,Nat.reduceLT,QkP,Jw,Qgw]
 try simp only [QL,eY]
 all_goals rfl
theorem Qgc {R1 l} [H1 : EncL VS R1 l] : CP T (n + 7) 48 [.imm 5 R1] = (Vx l).map fun r=>.b r:=by
 obtain ⟨rfl⟩:=H1
 rw [Qg]
 simp -dsimp +contextual only [↓evA,eZ,Nat.reduceAdd,Nat.reduceMul,Nat.reduceBEq,Nat.reduceLeDiff,Nat.reduceLT,Tryz.func48,Tryz.f48,QNv,Qy5,Qiw]
 try simp only [Vx,eY]
 all_goals rfl
theorem Qf7 (i) {R1 l} [H1 : EncL VN R1 l] : LP T (n + 2) 49 2 (frm [(0,.imm 4 R1),(3,.i .i64 i)]) [] =
  JF (run (Q3 l) i) (fun (zr : Bool)=>(XE.ret,frm [(2,.b zr)],[])) (fun (zr : Unit)=>(XE.exit 0,frm [(0,.imm 4 (l.map VN))],[])):=by
 obtain ⟨rfl⟩:=H1
 rw [QH]
 simp -dsimp only [↓evA,evB,Qr,Tryz.func49,Tryz.f49,QKY,Qx7,TP,TZ,Nat.reduceAdd,Nat.reduceMul,Nat.reduceBEq,Nat.reduceLeDiff,Nat.reduceLT]
 apply Qu i
 intro i
 simp -dsimp +contextual only [↓evA,eZ,Nat.reduceAdd,Nat.reduceMul,Nat.reduceBEq,Nat.reduceLeDiff,Nat.reduceLT,Jw]
 try simp only [Q3,eY]
 all_goals rfl
theorem Qiv {R1 l} [H1 : EncL VN R1 l] : CP T (n + 3) 49 [.imm 4 R1] = (Vr l).map fun r=>.b r:=by
 obtain ⟨rfl⟩:=H1
 rw [Qg]
 simp -dsimp +contextual only [↓evA,eZ,Nat.reduceAdd,Nat.reduceMul,Nat.reduceBEq,Nat.reduceLeDiff,Nat.reduceLT,Tryz.func49,Tryz.f49,QKY,Qx7,Qf7]
 try simp only [Vr,eY]
 all_goals rfl
theorem QkY (a k) {R1 l} [H1 : EncL Q2 R1 l] : LP T (n + 1) 175 2 (frm [(0,.imm 1 R1),(1,.i .i64 a),(5,.i .i64 k)]) [] =
  (run (J9 l a) k).map (fun (zr : Int)=>(XE.exit 0,frm [(0,.imm 1 (l.map Q2)),(1,.i .i64 a),(5,.i .i64 zr)],[])):=by
 obtain ⟨rfl⟩:=H1
 rw [QH]
 simp -dsimp only [↓evA,evB,Qr,Tryz.func175,Tryz.f175,QDj,Qpg,TP,TZ,Nat.reduceAdd,Nat.reduceMul,Nat.reduceBEq,Nat.reduceLeDiff,Nat.reduceLT]
 apply Qu k
 intro k
 simp -dsimp +contextual only [↓evA,eZ,Nat.reduceAdd,Nat.reduceMul,Nat.reduceBEq,Nat.reduceLeDiff,Nat.reduceLT]
 try simp only [J9,eY]
 try simp only [List.contains_nil,Bool.not_false,Bool.and_true,Qbo,List.length_append,List.length_cons,List.length_nil,Nat.zero_add,Qc9,Qdz]
 all_goals rfl
theorem QoR (a) {R1 l} [H1 : EncL Q2 R1 l] : CP T (n + 2) 175 [.imm 1 R1,.i .i64 a] = (Qcr l a).map fun r=>.own 1 (r.map Q2):=by
 obtain ⟨rfl⟩:=H1
 rw [Qg]
 simp -dsimp +contextual only [↓evA,eZ,Nat.reduceAdd,Nat.reduceMul,Nat.reduceBEq,Nat.reduceLeDiff,Nat.reduceLT,Tryz.func175,Tryz.f175,QDj,Qpg,QkY]
 try simp only [Qcr,eY]
 try simp only [List.contains_nil,Bool.not_false,Bool.and_true,Qbo,List.length_append,List.length_cons,List.length_nil,Nat.zero_add,Qc9,Qdz]
 all_goals first | rfl | (simp +contextual only [evN] <;> rfl)
theorem Qia (a i) {R1 l R2 o} [H1 : EncL VS R1 l] [H2 : EncL Q2 R2 o] : LP T (n + 8) 106 3 (frm [(0,.imm 5 R1),(1,.i .i64 a),(5,.sl 0),(6,.i .i64 i)]) [some (Ent.lst 1 R2)] =
  (run (Zw l a) (o,i)).map (fun (zr : (List Int))=>(XE.exit 0,frm [(5,.sl 0)],[some (Ent.lst 1 (zr.map Q2))])):=by
 rcases H1,H2 with ⟨⟨rfl⟩,⟨rfl⟩⟩
 rw [QH]
 simp -dsimp only [↓evA,evB,Qr,Tryz.func106,Tryz.f106,QCZ,Qp9,TP,TZ,Nat.reduceAdd,Nat.reduceMul,Nat.reduceBEq,Nat.reduceLeDiff,Nat.reduceLT]
 apply VP o i
 intro o i
 simp -dsimp +contextual only [↓evA,eZ,Nat.reduceAdd,Nat.reduceMul,Nat.reduceBEq,Nat.reduceLeDiff,Nat.reduceLT,Qgc,Qgw,QoR]
 try simp only [Zw,eY]
 all_goals rfl
theorem Ql5 (a) {R1 l} [H1 : EncL VS R1 l] : CP T (n + 9) 106 [.imm 5 R1,.i .i64 a] = (Qaw l a).map fun r=>.own 1 (r.map Q2):=by
 obtain ⟨rfl⟩:=H1
 rw [Qg]
 simp -dsimp +contextual only [↓evA,eZ,Nat.reduceAdd,Nat.reduceMul,Nat.reduceBEq,Nat.reduceLeDiff,Nat.reduceLT,Tryz.func106,Tryz.f106,QCZ,Qp9,Qia]
 try simp only [Qaw,eY]
 all_goals first | rfl | (simp +contextual only [evN] <;> rfl)
theorem Qhf (i i2) {R1 l} [H1 : EncL Vf R1 l] : LP T (n + 1) 107 2 (frm [(0,.imm 8 R1),(1,.i .i64 i),(5,.i .i64 i2)]) [] =
  JF (run (JK l i) i2) (fun (zr : Int)=>(XE.ret,frm [(4,.i .i64 zr)],[])) (fun (zr : Unit)=>(XE.exit 0,frm [],[])):=by
 obtain ⟨rfl⟩:=H1
 rw [QH]
 simp -dsimp only [↓evA,evB,Qr,Tryz.func107,Tryz.f107,QCG,QpR,TP,TZ,Nat.reduceAdd,Nat.reduceMul,Nat.reduceBEq,Nat.reduceLeDiff,Nat.reduceLT]
 apply Qu i2
 intro i2
 simp -dsimp +contextual only [↓evA,eZ,Nat.reduceAdd,Nat.reduceMul,Nat.reduceBEq,Nat.reduceLeDiff,Nat.reduceLT]
 try simp only [JK,eY]
 all_goals rfl
theorem Qdi (i) {R1 l} [H1 : EncL Vf R1 l] : CP T (n + 2) 107 [.imm 8 R1,.i .i64 i] = (Xb l i).map fun r=>.i .i64 r:=by
 obtain ⟨rfl⟩:=H1
 rw [Qg]
 simp -dsimp +contextual only [↓evA,eZ,Nat.reduceAdd,Nat.reduceMul,Nat.reduceBEq,Nat.reduceLeDiff,Nat.reduceLT,Tryz.func107,Tryz.f107,QCG,QpR,Qhf]
 try simp only [Xb,eY]
 all_goals rfl
theorem Qkg (a i) {R1 l} [H1 : EncL VT R1 l] : LP T (n + 1) 108 2 (frm [(0,.imm 3 R1),(1,.i .i64 a),(5,.i .i64 i)]) [] =
  JF (run (XQ l a) i) (fun (zr : Int)=>(XE.ret,frm [(4,.i .i64 zr)],[])) (fun (zr : Unit)=>(XE.exit 0,frm [],[])):=by
 obtain ⟨rfl⟩:=H1
 rw [QH]
 simp -dsimp only [↓evA,evB,Qr,Tryz.func108,Tryz.f108,QDm,QqB,TP,TZ,Nat.reduceAdd,Nat.reduceMul,Nat.reduceBEq,Nat.reduceLeDiff,Nat.reduceLT]
 apply Qu i
 intro i
 simp -dsimp +contextual only [↓evA,eZ,Nat.reduceAdd,Nat.reduceMul,Nat.reduceBEq,Nat.reduceLeDiff,Nat.reduceLT]
 try simp only [XQ,eY]
 all_goals rfl
theorem Qna (a) {R1 l} [H1 : EncL VT R1 l] : CP T (n + 2) 108 [.imm 3 R1,.i .i64 a] = (JC l a).map fun r=>.i .i64 r:=by
 obtain ⟨rfl⟩:=H1
 rw [Qg]
 simp -dsimp +contextual only [↓evA,eZ,Nat.reduceAdd,Nat.reduceMul,Nat.reduceBEq,Nat.reduceLeDiff,Nat.reduceLT,Tryz.func108,Tryz.f108,QDm,QqB,Qkg]
 try simp only [JC,eY]
 all_goals rfl
theorem QkV (a i) {R1 l} [H1 : EncL Q2 R1 l] : LP T (n + 1) 109 2 (frm [(0,.imm 1 R1),(1,.i .i64 a),(5,.i .i64 i)]) [] =
  JF (run (Qa6 l a) i) (fun (zr : Bool)=>(XE.ret,frm [(4,.b zr)],[])) (fun (zr : Unit)=>(XE.exit 0,frm [],[])):=by
 obtain ⟨rfl⟩:=H1
 rw [QH]
 simp -dsimp only [↓evA,evB,Qr,Tryz.func109,Tryz.f109,QCB,Qqq,TP,TZ,Nat.reduceAdd,Nat.reduceMul,Nat.reduceBEq,Nat.reduceLeDiff,Nat.reduceLT]
 apply Qu i
 intro i
 simp -dsimp +contextual only [↓evA,eZ,Nat.reduceAdd,Nat.reduceMul,Nat.reduceBEq,Nat.reduceLeDiff,Nat.reduceLT]
 try simp only [Qa6,eY]
 all_goals rfl
theorem Qov (a) {R1 l} [H1 : EncL Q2 R1 l] : CP T (n + 2) 109 [.imm 1 R1,.i .i64 a] = (Qea l a).map fun r=>.b r:=by
 obtain ⟨rfl⟩:=H1
 rw [Qg]
 simp -dsimp +contextual only [↓evA,eZ,Nat.reduceAdd,Nat.reduceMul,Nat.reduceBEq,Nat.reduceLeDiff,Nat.reduceLT,Tryz.func109,Tryz.f109,QCB,Qqq,QkV]
 try simp only [Qea,eY]
 all_goals rfl
theorem Qhk (i2) {R1 a R2 i} [H1 : EncR QM R1 a] [H2 : EncL Q2 R2 i] : LP T (n + 3) 50 5 (frm [(1,.ptr 0 0 0),(3,.sl 1),(4,.i .i64 i2)]) [some (Ent.box R1),some (Ent.lst 1 R2)] =
  JF (run (XU a i) i2) (fun (zr : Bool)=>(XE.ret,frm [(2,.b zr)],[])) (fun (zr : Unit)=>(XE.exit 0,frm [(1,.ptr 0 0 0),(3,.sl 1)],[some (Ent.box (QM a)),some (Ent.lst 1 (i.map Q2))])):=by
 rcases H1,H2 with ⟨⟨rfl⟩,⟨rfl⟩⟩
 rw [QH]
 simp -dsimp only [↓evA,evB,Qr,Tryz.func50,Tryz.f50,Qz0,QrN,TP,TZ,Nat.reduceAdd,Nat.reduceMul,Nat.reduceBEq,Nat.reduceLeDiff,Nat.reduceLT]
 apply Qu i2
 intro i2
 simp -dsimp +contextual (maxSteps:=100000000) only [↓evA,eZ,Nat.reduceAdd,Nat.reduceMul,Nat.reduceBEq,Nat.reduceLeDiff,Nat.reduceLT,Qdi]
 try simp only [XU,eY]
 all_goals rfl
theorem Qf3 (i2) {R1 a R2 i} [H1 : EncR QM R1 a] [H2 : EncL Q2 R2 i] : LP T (n + 3) 50 10 (frm [(1,.ptr 0 0 0),(3,.sl 1),(5,.i .i64 i2)]) [some (Ent.box R1),some (Ent.lst 1 R2)] =
  JF (run (XB a i) i2) (fun (zr : Bool)=>(XE.ret,frm [(2,.b zr)],[])) (fun (zr : Unit)=>(XE.exit 2,frm [(1,.ptr 0 0 0)],[some (Ent.box (QM a))])):=by
 rcases H1,H2 with ⟨⟨rfl⟩,⟨rfl⟩⟩
 rw [QH]
 simp -dsimp only [↓evA,evB,Qr,Tryz.func50,Tryz.f50,Qz0,QrN,TP,TZ,Nat.reduceAdd,Nat.reduceMul,Nat.reduceBEq,Nat.reduceLeDiff,Nat.reduceLT]
 apply Qu i2
 intro i2
 simp -dsimp +contextual (maxSteps:=100000000) only [↓evA,eZ,Nat.reduceAdd,Nat.reduceMul,Nat.reduceBEq,Nat.reduceLeDiff,Nat.reduceLT,Qna,Qov]
 try simp only [XB,eY]
 all_goals rfl
theorem QfZ (i) {R1 a} [H1 : EncR QM R1 a] : LP T (n + 3) 50 16 (frm [(1,.ptr 0 0 0),(7,.i .i64 i)]) [some (Ent.box R1)] =
  JF (run (VC a) i) (fun (zr : Bool)=>(XE.ret,frm [(2,.b zr)],[])) (fun (zr : Unit)=>(XE.exit 4,frm [],[])):=by
 obtain ⟨rfl⟩:=H1
 rw [QH]
 simp -dsimp only [↓evA,evB,Qr,Tryz.func50,Tryz.f50,Qz0,QrN,TP,TZ,Nat.reduceAdd,Nat.reduceMul,Nat.reduceBEq,Nat.reduceLeDiff,Nat.reduceLT]
 apply Qu i
 intro i
 simp -dsimp +contextual (maxSteps:=100000000) only [↓evA,eZ,Nat.reduceAdd,Nat.reduceMul,Nat.reduceBEq,Nat.reduceLeDiff,Nat.reduceLT,Qdi]
 try simp only [VC,eY]
 all_goals rfl
theorem Qj8 {R1 a} [H1 : EncR QM R1 a] : CP T (n + 10) 50 [.agg R1] = (Jx a).map fun r=>.b r:=by
 obtain ⟨rfl⟩:=H1
 rw [Qg]
 simp -dsimp +contextual (maxSteps:=100000000) only [↓evA,eZ,Nat.reduceAdd,Nat.reduceMul,Nat.reduceBEq,Nat.reduceLeDiff,Nat.reduceLT,Tryz.func50,Tryz.f50,Qz0,QrN,Ql5,Qhk,Qf3,QfZ]
 try simp only [Jx,eY]
 all_goals rfl
theorem Qgt {R1 a} [H1 : EncR VB R1 a] : CP T (n + 2) 110 [.agg R1] = (QaB a).map fun r=>.b r:=by
 obtain ⟨rfl⟩:=H1
 rw [Qg]
 simp -dsimp +contextual only [↓evA,eZ,Nat.reduceAdd,Nat.reduceMul,Nat.reduceBEq,Nat.reduceLeDiff,Nat.reduceLT,Tryz.func110,Tryz.f110,QHr,QsI,Jw]
 try simp only [QaB,eY]
 all_goals rfl
theorem QiP (a i) {R1 l} [H1 : EncL VX R1 l] : LP T (n + 1) 177 2 (frm [(0,.imm 3 R1),(1,.i .i64 a),(5,.i .i64 i)]) [] =
  JF (run (ZA l a) i) (fun (zr : Int)=>(XE.ret,frm [(4,.i .i64 zr)],[])) (fun (zr : Unit)=>(XE.exit 0,frm [],[])):=by
 obtain ⟨rfl⟩:=H1
 rw [QH]
 simp -dsimp only [↓evA,evB,Qr,Tryz.func177,Tryz.f177,QDc,Qp6,TP,TZ,Nat.reduceAdd,Nat.reduceMul,Nat.reduceBEq,Nat.reduceLeDiff,Nat.reduceLT]
 apply Qu i
 intro i
 simp -dsimp +contextual only [↓evA,eZ,Nat.reduceAdd,Nat.reduceMul,Nat.reduceBEq,Nat.reduceLeDiff,Nat.reduceLT]
 try simp only [ZA,eY]
 all_goals rfl
theorem QlY (a) {R1 l} [H1 : EncL VX R1 l] : CP T (n + 2) 177 [.imm 3 R1,.i .i64 a] = (QdW l a).map fun r=>.i .i64 r:=by
 obtain ⟨rfl⟩:=H1
 rw [Qg]
 simp -dsimp +contextual only [↓evA,eZ,Nat.reduceAdd,Nat.reduceMul,Nat.reduceBEq,Nat.reduceLeDiff,Nat.reduceLT,Tryz.func177,Tryz.f177,QDc,Qp6,QiP]
 try simp only [QdW,eY]
 all_goals rfl
theorem Qms (a) {R1 l} [H1 : EncL VX R1 l] : CP T (n + 3) 112 [.imm 3 R1,.i .i64 a] = (QbL l a).map fun r=>.own 2 (r.map XW):=by
 obtain ⟨rfl⟩:=H1
 rw [Qg]
 simp -dsimp +contextual only [↓evA,eZ,Nat.reduceAdd,Nat.reduceMul,Nat.reduceBEq,Nat.reduceLeDiff,Nat.reduceLT,Tryz.func112,Tryz.f112,QH0,QsA,QlY]
 try simp only [QbL,eY]
 all_goals first | rfl | (simp +contextual only [evN] <;> rfl)
theorem Qsm (a b) : CP T (n + 1) 157 [.i .i64 a,.i .i64 b] = (Qe8 a b).map fun r=>.i .i64 r:=by
 rw [Qg]
 simp -dsimp +contextual only [↓evA,eZ,Nat.reduceAdd,Nat.reduceMul,Nat.reduceBEq,Nat.reduceLeDiff,Nat.reduceLT,Tryz.func157,Tryz.f157,QLj,Qte]
 try simp only [Qe8,eY]
 all_goals rfl
theorem QlB {R1 l} [H1 : EncL XW R1 l] : CP T (n + 2) 176 [.imm 2 R1] = (QcZ l).map fun r=>.i .i64 r:=by
 obtain ⟨rfl⟩:=H1
 rw [Qg]
 simp -dsimp +contextual only [↓evA,eZ,Nat.reduceAdd,Nat.reduceMul,Nat.reduceBEq,Nat.reduceLeDiff,Nat.reduceLT,Tryz.func176,Tryz.f176,QIW,Quo,Qsm]
 try simp only [QcZ,eY]
 all_goals rfl
theorem Qit {R1 l R2 a} [H1 : EncL XW R1 l] [H2 : EncR VB R2 a] : CP T (n + 4) 111 [.imm 2 R1,.agg R2] = (JP l a).map fun r=>.i .i64 r:=by
 rcases H1,H2 with ⟨⟨rfl⟩,⟨rfl⟩⟩
 rw [Qg]
 simp -dsimp +contextual only [↓evA,eZ,Nat.reduceAdd,Nat.reduceMul,Nat.reduceBEq,Nat.reduceLeDiff,Nat.reduceLT,Tryz.func111,Tryz.f111,QH3,QtU,Qgt,QfS,QlB]
 try simp only [JP,eY]
 all_goals rfl
theorem Qhn (i) {R1 a} [H1 : EncR QM R1 a] : LP T (n + 5) 51 4 (frm [(1,.ptr 0 0 0),(3,.i .i64 i)]) [some (Ent.box R1)] =
  JF (run (JL a) i) (fun (zr : Bool)=>(XE.ret,frm [(2,.b zr)],[])) (fun (zr : Unit)=>(XE.exit 0,frm [],[])):=by
 obtain ⟨rfl⟩:=H1
 rw [QH]
 simp -dsimp only [↓evA,evB,Qr,Tryz.func51,Tryz.f51,QMj,Qw2,TP,TZ,Nat.reduceAdd,Nat.reduceMul,Nat.reduceBEq,Nat.reduceLeDiff,Nat.reduceLT]
 apply Qu i
 intro i
 simp -dsimp +contextual (maxSteps:=100000000) only [↓evA,eZ,Nat.reduceAdd,Nat.reduceMul,Nat.reduceBEq,Nat.reduceLeDiff,Nat.reduceLT,Qdi,Qgt,Qms,Qit]
 try simp only [JL,eY]
 all_goals rfl
theorem Qj9 {R1 a} [H1 : EncR QM R1 a] : CP T (n + 6) 51 [.agg R1] = (JB a).map fun r=>.b r:=by
 obtain ⟨rfl⟩:=H1
 rw [Qg]
 simp -dsimp +contextual (maxSteps:=100000000) only [↓evA,eZ,Nat.reduceAdd,Nat.reduceMul,Nat.reduceBEq,Nat.reduceLeDiff,Nat.reduceLT,Tryz.func51,Tryz.f51,QMj,Qw2,Qhn]
 try simp only [JB,eY]
 all_goals rfl
theorem Qf9 {R1 a} [H1 : EncR QM R1 a] : CP T (n + 11) 8 [.agg R1] = (QV a).map fun r=>.b r:=by
 obtain ⟨rfl⟩:=H1
 rw [Qg]
 simp -dsimp +contextual (maxSteps:=100000000) only [↓evA,eZ,Nat.reduceAdd,Nat.reduceMul,Nat.reduceBEq,Nat.reduceLeDiff,Nat.reduceLT,Tryz.func8,Tryz.f8,Aa8,An8,Jw,QkC,Qjh,QkQ,Qjt,Qgc,Qiv,Qj8,Qj9]
 try simp only [QV,eY]
 all_goals rfl
theorem Qhg (a i) {R1 l} [H1 : EncL VT R1 l] : LP T (n + 1) 167 3 (frm [(0,.imm 3 R1),(3,.i .i64 a),(4,.i .i64 i)]) [] =
  (run (X4 l) (a,i)).map (fun (zr : Int)=>(XE.exit 0,frm [(3,.i .i64 zr)],[])):=by
 obtain ⟨rfl⟩:=H1
 rw [QH]
 simp -dsimp only [↓evA,evB,Qr,Tryz.func167,Tryz.f167,QCv,QpG,TP,TZ,Nat.reduceAdd,Nat.reduceMul,Nat.reduceBEq,Nat.reduceLeDiff,Nat.reduceLT]
 apply VP a i
 intro a i
 simp -dsimp +contextual only [↓evA,eZ,Nat.reduceAdd,Nat.reduceMul,Nat.reduceBEq,Nat.reduceLeDiff,Nat.reduceLT]
 try simp only [X4,eY]
 all_goals rfl
theorem Qjz {R1 l} [H1 : EncL VT R1 l] : CP T (n + 2) 167 [.imm 3 R1] = (QbB l).map fun r=>.i .i64 r:=by
 obtain ⟨rfl⟩:=H1
 rw [Qg]
 simp -dsimp +contextual only [↓evA,eZ,Nat.reduceAdd,Nat.reduceMul,Nat.reduceBEq,Nat.reduceLeDiff,Nat.reduceLT,Tryz.func167,Tryz.f167,QCv,QpG,Qhg]
 try simp only [QbB,eY]
 all_goals rfl
theorem QkF (a) {R1 s} [H1 : EncL VT R1 s] : CP T (n + 12) 90 [.i .i64 a,.imm 3 R1] = (Qcb a s).map fun r=>.tup [.agg (JH r.1),.b r.2]:=by
 obtain ⟨rfl⟩:=H1
 rw [Qg]
 simp -dsimp +contextual (maxSteps:=100000000) only [↓evA,eZ,Nat.reduceAdd,Nat.reduceMul,Nat.reduceBEq,Nat.reduceLeDiff,Nat.reduceLT,Tryz.func90,Tryz.f90,QQg,QCm,Qlp,Qf9,Qjz]
 try simp only [Qcb,eY]
 all_goals rfl
theorem QkR {R1 c} [H1 : EncR Xo R1 c] : CA T (n + 13) 31 [some (Ent.box R1)] [.ptr 0 0 0] = (Qb7 c).map fun r=>(.agg [.i .i64 r.2.No,.sl 1,.sl 2,.sl 3,.sl 4,.sl 5,.sl 6,.sl 7,.i .i64 r.2.Now],[some (Ent.box (Xo r.1)),some (Ent.lst 8 (r.2.Finds.map Vf)),some (Ent.lst 3 (r.2.Secrets.map Q7)),some (Ent.lst 3 (r.2.Slots.map VT)),some (Ent.lst 5 (r.2.Claims.map Qs)),some (Ent.lst 4 (r.2.Trials.map VB)),some (Ent.lst 5 (r.2.Chain.map VS)),some (Ent.lst 4 (r.2.Book.map VN))]):=by
 obtain ⟨rfl⟩:=H1
 rw [Qef]
 simp -dsimp +contextual (maxSteps:=100000000) only [↓evA,eZ,Nat.reduceAdd,Nat.reduceMul,Nat.reduceBEq,Nat.reduceLeDiff,Nat.reduceLT,Tryz.func31,Tryz.f31,QQT,Qz3,srt,Xn,QkJ,QkF]
 try simp only [Qb7,eY]
 all_goals rfl
theorem Qnd (i) {R1 c} [H1 : EncR Xo R1 c] : CA T (n + 3) 225 [some (Ent.box R1)] [.ptr 0 0 0,.i .i64 i] = (QdA c i).map fun r=>(.agg (QcB r.2),[some (Ent.box (Xo r.1))]):=by
 obtain ⟨rfl⟩:=H1
 rw [Qef]
 simp -dsimp +contextual (maxSteps:=100000000) only [↓evA,eZ,Nat.reduceAdd,Nat.reduceMul,Nat.reduceBEq,Nat.reduceLeDiff,Nat.reduceLT,Tryz.func225,Tryz.f225,QMS,Quq,srt,Xn]
 try simp only [QdA,eY]
 all_goals rfl
theorem Qng (i) {R1 c} [H1 : EncR Xo R1 c] : CA T (n + 4) 168 [some (Ent.box R1)] [.ptr 0 0 0,.i .i64 i] = (Qdq c i).map fun r=>(.agg (Vf r.2),[some (Ent.box (Xo r.1))]):=by
 obtain ⟨rfl⟩:=H1
 rw [Qef]
 simp -dsimp +contextual (maxSteps:=100000000) only [↓evA,eZ,Nat.reduceAdd,Nat.reduceMul,Nat.reduceBEq,Nat.reduceLeDiff,Nat.reduceLT,Tryz.func168,Tryz.f168,QNg,Qs3,srt,Qnd,Xn]
 try simp only [Qdq,eY]
 all_goals rfl
theorem QdD {R1 c R2 l} [H1 : EncR Xo R1 c] [H2 : EncL Q2 R2 l] : CA T (n + 3) 153 [some (Ent.box R1),some (Ent.lst 1 R2)] [.ptr 0 0 0,.sl 1] = (Js c l).map fun r=>(.i .i64 r.2,[some (Ent.box (Xo r.1)),some (Ent.lst 1 (l.map Q2))]):=by
 rcases H1,H2 with ⟨⟨rfl⟩,⟨rfl⟩⟩
 rw [Qef]
 simp -dsimp +contextual (maxSteps:=100000000) only [↓evA,eZ,Nat.reduceAdd,Nat.reduceMul,Nat.reduceBEq,Nat.reduceLeDiff,Nat.reduceLT,Tryz.func153,Tryz.f153,QIL,QsL,srt,Xn]
 try simp only [Js,eY]
 all_goals rfl
theorem Qgk (i) {R1 c} [H1 : EncR Xo R1 c] : CA T (n + 5) 92 [some (Ent.box R1)] [.ptr 0 0 0,.i .i64 i] = (QaD c i).map fun r=>(.agg [.i .i64 r.2.Kind,.i .i64 r.2.Find.Thing.Id,.i .i64 r.2.Find.Thing.Kind,.i .i64 r.2.Find.Thing.Colour,.i .i64 r.2.Find.Thing.Size,.i .i64 r.2.Find.Thing.Worth,.i .i64 r.2.Find.Place,.i .i64 r.2.Find.At,.i .i64 r.2.Find.Finder,.sl 1,.i .i64 r.2.Id,.i .i64 r.2.Who,.i .i64 r.2.N,.sl 2],[some (Ent.box (Xo r.1)),some (Ent.lst 2 (r.2.Marks.map XW)),some (Ent.lst 3 (r.2.Bids.map JE))]):=by
 obtain ⟨rfl⟩:=H1
 rw [Qef]
 simp -dsimp +contextual (maxSteps:=100000000) only [↓evA,eZ,Nat.reduceAdd,Nat.reduceMul,Nat.reduceBEq,Nat.reduceLeDiff,Nat.reduceLT,Tryz.func92,Tryz.f92,QQM,Qzq,srt,Qng,Xn,QdD]
 try simp only [QaD,eY]
 all_goals rfl
theorem Qmb (s w c) : CP T (n + 5) 226 [.i .i64 s,.i .i64 w,.i .i64 c] = (QcY s w c).map fun r=>.i .i64 r:=by
 rw [Qg]
 simp -dsimp +contextual only [↓evA,eZ,Nat.reduceAdd,Nat.reduceMul,Nat.reduceBEq,Nat.reduceLeDiff,Nat.reduceLT,Tryz.func226,Tryz.f226,QMJ,Qtd,Qkk]
 try simp only [QcY,eY]
 all_goals rfl
theorem Qjw (i) {R1 c R2 l} [H1 : EncR Xo R1 c] [H2 : EncL JE R2 l] : LP T (n + 6) 169 3 (frm [(0,.ptr 0 0 0),(3,.sl 1),(4,.i .i64 i)]) [some (Ent.box R1),some (Ent.lst 3 R2)] =
  (run Z7 (c,l,i)).map (fun (zr : l1Cur × (List Bid))=>(XE.exit 0,frm [(0,.ptr 0 0 0),(3,.sl 1)],[some (Ent.box (Xo zr.1)),some (Ent.lst 3 (zr.2.map JE))])):=by
 rcases H1,H2 with ⟨⟨rfl⟩,⟨rfl⟩⟩
 rw [QH]
 simp -dsimp only [↓evA,evB,Qr,Tryz.func169,Tryz.f169,QCn,QqO,TP,TZ,Nat.reduceAdd,Nat.reduceMul,Nat.reduceBEq,Nat.reduceLeDiff,Nat.reduceLT]
 apply Qd9 c l i
 intro c l i
 simp -dsimp +contextual only [↓evA,eZ,Nat.reduceAdd,Nat.reduceMul,Nat.reduceBEq,Nat.reduceLeDiff,Nat.reduceLT,srt,Xn,Qmb]
 try simp only [Z7,eY]
 all_goals rfl
theorem Qm4 {R1 c} [H1 : EncR Xo R1 c] : CA T (n + 7) 169 [some (Ent.box R1)] [.ptr 0 0 0] = (Qdp c).map fun r=>(.sl 1,[some (Ent.box (Xo r.1)),some (Ent.lst 3 (r.2.map JE))]):=by
 obtain ⟨rfl⟩:=H1
 rw [Qef]
 simp -dsimp +contextual (maxSteps:=100000000) only [↓evA,eZ,Nat.reduceAdd,Nat.reduceMul,Nat.reduceBEq,Nat.reduceLeDiff,Nat.reduceLT,Tryz.func169,Tryz.f169,QCn,QqO,srt,Xn,QdD,Qjw]
 try simp only [Qdp,eY]
 all_goals rfl
end Go.Proofs.YtonidbheohhgdaaGreat
