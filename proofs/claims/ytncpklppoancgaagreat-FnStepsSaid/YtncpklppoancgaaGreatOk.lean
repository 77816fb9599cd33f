import Derived.Test.YtncpklppoancgaaGreatEc
import Derived.Test.YtncpklppoancgaaGreatEvD
import Derived.Test.YtncpklppoancgaaGreatEq
namespace Go.Proofs.YtncpklppoancgaaGreat
open Go Go.Proofs Go.Proofs.YtncpklppoancgaaGreat.Am
set_option maxRecDepth 100000
theorem okc {P : Program} {g : FuncId} {a : Ann} {l : List (FuncId × Ann)} (h : fOK P g a = true) (t : (l.all fun p=>fOK P p.1 p.2) = true) : (((g,a) :: l).all fun p=>fOK P p.1 p.2) = true:=by rw [List.all_cons,t,Bool.and_true]; exact h
def osg (P : Program) (ops : Array Oper) : List Nat → Array Bool → Bool
 | [],_=>true
 | i :: r,listed=>match ops[i]? with
  | some oi=>(Region.ready .any ops listed).contains i && ((Region.ready .any ops listed) == [i] || (Qcz oi.op && Qrm P ops listed i oi)) && osg P ops r (listed.setIfInBounds i true)
  | none=>false
def mrk (is : List Nat) (listed : Array Bool) : Array Bool:=is.foldl (fun l i=>l.setIfInBounds i true) listed
theorem QaA {P : Program} {ops : Array Oper} : ∀ (a b : List Nat) (listed : Array Bool),osg P ops a listed = true → QfN P ops b (mrk a listed) = true → QfN P ops (a ++ b) listed = true
 | [],b,listed,_,h=>h
 | i :: a,b,listed,h1,h2=>by
  unfold osg at h1
  rw [List.cons_append]
  unfold QfN
  cases ho : ops[i]? with
  | none=>rw [ho] at h1; cases h1
  | some oi =>
   rw [ho] at h1
   simp only [Bool.and_eq_true] at h1 ⊢
   exact ⟨h1.1,QaA a b _ h1.2 h2⟩
def frs (t : Nat) : Code → List Code
 | .seq x y=>frs t x ++ frs t y
 | .cond _ x y=>frs t x ++ frs t y
 | .block _ c=>frs t c
 | .loop c=>frs t c
 | .region id ops d=>bif id == t then [.region id ops d] else []
 | _=>[]
def cO2 (t : Nat) (P : Program) (m : Nat) (a : Ann) : Code → Bool
 | .seq x y=>cO2 t P m a x && cO2 t P m a y
 | .cond _ x y=>cO2 t P m a x && cO2 t P m a y
 | .block _ c=>cO2 t P m a c
 | .loop c=>cO2 t P m a c
 | .region id ops d=>bif id == t then true else cOK P m a (.region id ops d)
 | _=>true
theorem QGn {t : Nat} {P : Program} {m : Nat} {a : Ann} : ∀ c : Code,(∀ r ∈ frs t c,cOK P m a r = true) → cO2 t P m a c = true → cOK P m a c = true:=by
 intro c
 induction c with
 | seq x y ihx ihy =>
  intro h1 h2
  simp only [cO2,Bool.and_eq_true] at h2
  simp only [cOK,Bool.and_eq_true]
  exact ⟨ihx (fun r hr=>h1 r (by simp [frs,hr])) h2.1,ihy (fun r hr=>h1 r (by simp [frs,hr])) h2.2⟩
 | cond v x y ihx ihy =>
  intro h1 h2
  simp only [cO2,Bool.and_eq_true] at h2
  simp only [cOK,Bool.and_eq_true]
  exact ⟨ihx (fun r hr=>h1 r (by simp [frs,hr])) h2.1,ihy (fun r hr=>h1 r (by simp [frs,hr])) h2.2⟩
 | block i c ih=>intro h1 h2; exact ih h1 h2
 | loop c ih=>intro h1 h2; exact ih h1 h2
 | region id ops d =>
  intro h1 h2
  simp only [cO2] at h2
  cases hb : (id == t) with
  | true=>exact h1 _ (by simp [frs,hb])
  | false=>rw [hb] at h2; exact h2
 | _=>intro _ _; rfl
def aa0 : List Nat:=[0,1,2,3,4,5,6,8]
theorem sg0 : osg Tryz.prog (List.toArray L17) aa0 (Array.replicate 117 false) = true:=by kernel_rfl
def mk1 : Array Bool:=mrk aa0 (Array.replicate 117 false)
def aa1 : List Nat:=[9,10,7,11,12,13,14,15]
theorem sg1 : osg Tryz.prog (List.toArray L17) aa1 (mk1) = true:=by kernel_rfl
def mk2 : Array Bool:=mrk aa1 (mk1)
def aa2 : List Nat:=[16,17,18,19,20,21,22,23]
theorem sg2 : osg Tryz.prog (List.toArray L17) aa2 (mk2) = true:=by kernel_rfl
def mk3 : Array Bool:=mrk aa2 (mk2)
def aa3 : List Nat:=[24,25,26,27,28,29,30,31]
theorem sg3 : osg Tryz.prog (List.toArray L17) aa3 (mk3) = true:=by kernel_rfl
def mk4 : Array Bool:=mrk aa3 (mk3)
def aa4 : List Nat:=[32,33,34,35,36,37,38,39]
theorem sg4 : osg Tryz.prog (List.toArray L17) aa4 (mk4) = true:=by kernel_rfl
def mk5 : Array Bool:=mrk aa4 (mk4)
def aa5 : List Nat:=[40,41,42,43,44,45,46,47]
theorem sg5 : osg Tryz.prog (List.toArray L17) aa5 (mk5) = true:=by kernel_rfl
def mk6 : Array Bool:=mrk aa5 (mk5)
def aa6 : List Nat:=[48,50,49,51,52,53,54,55]
theorem sg6 : osg Tryz.prog (List.toArray L17) aa6 (mk6) = true:=by kernel_rfl
def mk7 : Array Bool:=mrk aa6 (mk6)
def aa7 : List Nat:=[56,57,58,59,60,61,62,63]
theorem sg7 : osg Tryz.prog (List.toArray L17) aa7 (mk7) = true:=by kernel_rfl
def mk8 : Array Bool:=mrk aa7 (mk7)
def aa8 : List Nat:=[64,65,66,67,68,69,70,71]
theorem sg8 : osg Tryz.prog (List.toArray L17) aa8 (mk8) = true:=by kernel_rfl
def mk9 : Array Bool:=mrk aa8 (mk8)
def aa9 : List Nat:=[72,73,74,75,76,77,79,80]
theorem sg9 : osg Tryz.prog (List.toArray L17) aa9 (mk9) = true:=by kernel_rfl
def QNR : Array Bool:=mrk aa9 (mk9)
def QF4 : List Nat:=[78,81,82,83,84,85,86,87]
theorem QV5 : osg Tryz.prog (List.toArray L17) QF4 (QNR) = true:=by kernel_rfl
def QKD : Array Bool:=mrk QF4 (QNR)
def QFp : List Nat:=[88,89,90,91,92,93,95,94]
theorem QVu : osg Tryz.prog (List.toArray L17) QFp (QKD) = true:=by kernel_rfl
def QOb : Array Bool:=mrk QFp (QKD)
def QIx : List Nat:=[96,97,98,99,100,101,102,103]
theorem QRP : osg Tryz.prog (List.toArray L17) QIx (QOb) = true:=by kernel_rfl
def QLC : Array Bool:=mrk QIx (QOb)
def QG9 : List Nat:=[104,105,106,107,108,109,110,111]
theorem QVf : osg Tryz.prog (List.toArray L17) QG9 (QLC) = true:=by kernel_rfl
def QN3 : Array Bool:=mrk QG9 (QLC)
def QH1 : List Nat:=[112,113,114,115,116]
theorem QUe : osg Tryz.prog (List.toArray L17) QH1 (QN3) = true:=by kernel_rfl
def QTS : Array Bool:=mrk QH1 (QN3)
theorem sgN : QfN Tryz.prog (List.toArray L17) [] QTS = true:=by kernel_rfl
theorem QOI : QfN Tryz.prog (List.toArray L17) (aa0 ++ (aa1 ++ (aa2 ++ (aa3 ++ (aa4 ++ (aa5 ++ (aa6 ++ (aa7 ++ (aa8 ++ (aa9 ++ (QF4 ++ (QFp ++ (QIx ++ (QG9 ++ (QH1 ++ ([])))))))))))))))) (Array.replicate 117 false) = true :=
 QaA _ _ _ sg0 (QaA _ _ _ sg1 (QaA _ _ _ sg2 (QaA _ _ _ sg3 (QaA _ _ _ sg4 (QaA _ _ _ sg5 (QaA _ _ _ sg6 (QaA _ _ _ sg7 (QaA _ _ _ sg8 (QaA _ _ _ sg9 (QaA _ _ _ QV5 (QaA _ _ _ QVu (QaA _ _ _ QRP (QaA _ _ _ QVf (QaA _ _ _ QUe (sgN)))))))))))))))
theorem QPI : cOK Tryz.prog Tryz.f4.ntmps An4 C17 = true:=by
 rw [QyR]
 have h1 : L17.all (JQ Tryz.f4.ntmps) = true:=by kernel_rfl
 have h2 : jOK An4 17 (QnG (List.toArray L17) (lk An4.ord 17)) = true:=by kernel_rfl
 have h3 : Nat.ble (Qk9 (List.toArray L17) (lk An4.ord 17)).length (List.toArray L17).size = true:=by kernel_rfl
 have h4 : dOK Tryz.prog An4 17 (List.toArray L17) = true:=by
  show (QfN Tryz.prog (List.toArray L17) (Qk9 (List.toArray L17) (lk An4.ord 17)) (Array.replicate (List.toArray L17).size false) && Nat.ble (Qk9 (List.toArray L17) (lk An4.ord 17)).length (List.toArray L17).size && jOK An4 17 (QnG (List.toArray L17) (lk An4.ord 17))) = true
  rw [h2,h3,Bool.and_true,Bool.and_true]
  exact QOI
 show ((List.toArray L17).toList.all (JQ Tryz.f4.ntmps) && dOK Tryz.prog An4 17 (List.toArray L17)) = true
 rw [h4,Bool.and_true]
 exact h1
theorem QUK : cOK Tryz.prog Tryz.f4.ntmps An4 B4 = true:=QGn (t:=17) B4 (fun r hr=>by
  have e : frs 17 B4 = [C17]:=by kernel_rfl
  rw [e] at hr
  rw [List.mem_singleton.1 hr]; exact QPI) (by kernel_rfl)
theorem ok4 : fOK T.P 4 An4 = true:=by
 have e : T.P.funcs[4]? = some Tryz.f4:=Tryz.func4
 have eb : Tryz.f4.body = some B4:=rfl
 unfold fOK
 rw [e]
 show ((Tryz.f4.name != "runtime.NumGoroutine") && (match Tryz.f4.body with | some c=>cOK T.P Tryz.f4.ntmps An4 c && (ndB ((Q6 c).map tag) && decide (An4.ak = List.range An4.ak.length)) | none=>false)) = true
 rw [eb]
 show ((Tryz.f4.name != "runtime.NumGoroutine") && (cOK Tryz.prog Tryz.f4.ntmps An4 B4 && (ndB ((Q6 B4).map tag) && decide (An4.ak = List.range An4.ak.length)))) = true
 rw [QUK]
 kernel_rfl
theorem ok5 : fOK T.P 5 An5 = true:=by kernel_rfl
theorem ok8 : fOK T.P 8 An8 = true:=by kernel_rfl
theorem QVx : fOK T.P 10 QBz = true:=by kernel_rfl
theorem QVG : fOK T.P 11 QAc = true:=by kernel_rfl
theorem QS3 : fOK T.P 14 QyO = true:=by kernel_rfl
theorem QUX : fOK T.P 18 QDv = true:=by kernel_rfl
theorem QTk : fOK T.P 19 QCN = true:=by kernel_rfl
theorem QUb : fOK T.P 20 QDt = true:=by kernel_rfl
theorem QRK : fOK T.P 21 QCx = true:=by kernel_rfl
theorem QRX : fOK T.P 22 QCq = true:=by kernel_rfl
theorem QRy : fOK T.P 23 QCa = true:=by kernel_rfl
theorem QVq : fOK T.P 24 QB6 = true:=by kernel_rfl
theorem QVi : fOK T.P 25 QAx = true:=by kernel_rfl
theorem QSp : fOK T.P 26 QBW = true:=by kernel_rfl
theorem QWm : fOK T.P 27 QBu = true:=by kernel_rfl
theorem QV2 : fOK T.P 28 QBJ = true:=by kernel_rfl
theorem QVp : fOK T.P 29 QDB = true:=by kernel_rfl
theorem QUS : fOK T.P 30 QAL = true:=by kernel_rfl
theorem QSl : fOK T.P 31 QCh = true:=by kernel_rfl
theorem QWF : fOK T.P 32 QCK = true:=by kernel_rfl
theorem QU4 : fOK T.P 33 QyX = true:=by kernel_rfl
theorem QTD : fOK T.P 34 QBI = true:=by kernel_rfl
theorem QR9 : fOK T.P 35 QAI = true:=by kernel_rfl
theorem QVb : fOK T.P 36 QyW = true:=by kernel_rfl
theorem QSb : fOK T.P 37 QA3 = true:=by kernel_rfl
theorem QSr : fOK T.P 38 QCD = true:=by kernel_rfl
theorem QU6 : fOK T.P 40 Qz5 = true:=by kernel_rfl
theorem QUE : fOK T.P 41 QC7 = true:=by kernel_rfl
theorem QTc : fOK T.P 42 QDg = true:=by kernel_rfl
theorem QTB : fOK T.P 43 QDf = true:=by kernel_rfl
theorem QWr : fOK T.P 44 Qy2 = true:=by kernel_rfl
theorem QSu : fOK T.P 45 Qx5 = true:=by kernel_rfl
theorem QSC : fOK T.P 46 Qwp = true:=by kernel_rfl
theorem QS5 : fOK T.P 47 QAg = true:=by kernel_rfl
theorem QVT : fOK T.P 48 QyM = true:=by kernel_rfl
theorem QUC : fOK T.P 49 Qs9 = true:=by kernel_rfl
theorem QVL : fOK T.P 50 Qya = true:=by kernel_rfl
theorem QRV : fOK T.P 51 Qr7 = true:=by kernel_rfl
theorem QWO : fOK T.P 52 QCn = true:=by kernel_rfl
theorem QRu : fOK T.P 54 Qze = true:=by kernel_rfl
theorem QSw : fOK T.P 57 QBM = true:=by kernel_rfl
theorem QWp : fOK T.P 59 QA6 = true:=by kernel_rfl
theorem QTr : fOK T.P 60 Qyz = true:=by kernel_rfl
theorem QUO : fOK T.P 61 QC4 = true:=by kernel_rfl
theorem QTt : fOK T.P 62 Qzv = true:=by kernel_rfl
theorem QSs : fOK T.P 63 Qxz = true:=by kernel_rfl
theorem QRO : fOK T.P 64 QyP = true:=by kernel_rfl
theorem QRN : fOK T.P 65 Qym = true:=by kernel_rfl
theorem QWt : fOK T.P 66 Qys = true:=by kernel_rfl
theorem QUF : fOK T.P 67 Qwm = true:=by kernel_rfl
theorem QVn : fOK T.P 68 QBY = true:=by kernel_rfl
theorem QWg : fOK T.P 69 QAr = true:=by kernel_rfl
theorem QSY : fOK T.P 70 QCg = true:=by kernel_rfl
theorem QUx : fOK T.P 71 QB4 = true:=by kernel_rfl
theorem QTw : fOK T.P 72 QzL = true:=by kernel_rfl
theorem QWT : fOK T.P 73 Qyl = true:=by kernel_rfl
theorem QSg : fOK T.P 74 QCl = true:=by kernel_rfl
theorem QWX : fOK T.P 75 QDw = true:=by kernel_rfl
theorem QWC : fOK T.P 76 Qw0 = true:=by kernel_rfl
theorem QVy : fOK T.P 77 Qxl = true:=by kernel_rfl
theorem QRB : fOK T.P 79 QCu = true:=by kernel_rfl
theorem QWz : fOK T.P 80 QCG = true:=by kernel_rfl
theorem QU2 : fOK T.P 81 QAT = true:=by kernel_rfl
theorem QVE : fOK T.P 82 QDD = true:=by kernel_rfl
theorem QVP : fOK T.P 83 QCJ = true:=by kernel_rfl
theorem QVJ : fOK T.P 84 QCA = true:=by kernel_rfl
theorem QTp : fOK T.P 85 QBf = true:=by kernel_rfl
theorem QUm : fOK T.P 86 Qyv = true:=by kernel_rfl
theorem QVt : fOK T.P 87 QBm = true:=by kernel_rfl
theorem QWY : fOK T.P 88 QBZ = true:=by kernel_rfl
theorem QTT : fOK T.P 89 QCE = true:=by kernel_rfl
theorem QW2 : fOK T.P 90 QxU = true:=by kernel_rfl
theorem QRW : fOK T.P 91 QCc = true:=by kernel_rfl
theorem QWH : fOK T.P 92 QAF = true:=by kernel_rfl
theorem QWj : fOK T.P 93 QAP = true:=by kernel_rfl
theorem QWk : fOK T.P 94 QDc = true:=by kernel_rfl
theorem QSi : fOK T.P 95 Qz1 = true:=by kernel_rfl
theorem QWb : fOK T.P 96 Qz6 = true:=by kernel_rfl
theorem QVe : fOK T.P 99 QBX = true:=by kernel_rfl
theorem QOG : fOK T.P 100 QqO = true:=by kernel_rfl
theorem QPE : fOK T.P 101 QtK = true:=by kernel_rfl
theorem QJk : fOK T.P 102 Qt0 = true:=by kernel_rfl
theorem QL9 : fOK T.P 103 Qvh = true:=by kernel_rfl
theorem QQJ : fOK T.P 104 QuC = true:=by kernel_rfl
theorem QQB : fOK T.P 105 Qve = true:=by kernel_rfl
theorem QP1 : fOK T.P 106 Qq7 = true:=by kernel_rfl
theorem QP2 : fOK T.P 107 Qt5 = true:=by kernel_rfl
theorem QJD : fOK T.P 110 Que = true:=by kernel_rfl
theorem QKl : fOK T.P 116 Quu = true:=by kernel_rfl
theorem QKp : fOK T.P 119 QrC = true:=by kernel_rfl
theorem QPN : fOK T.P 120 Qqs = true:=by kernel_rfl
theorem QOr : fOK T.P 121 QuX = true:=by kernel_rfl
theorem QQi : fOK T.P 122 Qse = true:=by kernel_rfl
theorem QNe : fOK T.P 123 Quq = true:=by kernel_rfl
theorem QIY : fOK T.P 124 QqV = true:=by kernel_rfl
theorem QJ8 : fOK T.P 125 Qub = true:=by kernel_rfl
theorem QPw : fOK T.P 126 Qu7 = true:=by kernel_rfl
theorem QN4 : fOK T.P 127 Qt9 = true:=by kernel_rfl
theorem QLe : fOK T.P 128 QuP = true:=by kernel_rfl
theorem QQ7 : fOK T.P 129 QrY = true:=by kernel_rfl
theorem QJJ : fOK T.P 130 QtM = true:=by kernel_rfl
theorem QOH : fOK T.P 131 QqI = true:=by kernel_rfl
theorem QJF : fOK T.P 132 Qux = true:=by kernel_rfl
theorem QJj : fOK T.P 133 QtW = true:=by kernel_rfl
theorem QPz : fOK T.P 134 Qvk = true:=by kernel_rfl
theorem QM7 : fOK T.P 135 QvE = true:=by kernel_rfl
theorem QNB : fOK T.P 137 QtU = true:=by kernel_rfl
theorem QKN : fOK T.P 138 QtV = true:=by kernel_rfl
theorem QJ9 : fOK T.P 140 Qr1 = true:=by kernel_rfl
theorem QNO : fOK T.P 141 Quj = true:=by kernel_rfl
theorem QKB : fOK T.P 142 Qu3 = true:=by kernel_rfl
theorem QNX : fOK T.P 143 Qqg = true:=by kernel_rfl
theorem QLx : fOK T.P 144 Qvm = true:=by kernel_rfl
theorem QKZ : fOK T.P 148 QjQ = true:=by kernel_rfl
theorem QRk : fOK T.P 149 Qu0 = true:=by kernel_rfl
theorem QJr : fOK T.P 150 QqY = true:=by kernel_rfl
theorem QO3 : fOK T.P 151 Qqf = true:=by kernel_rfl
theorem QQe : fOK T.P 152 Qui = true:=by kernel_rfl
theorem QRp : fOK T.P 153 QqF = true:=by kernel_rfl
theorem QNS : fOK T.P 154 QtZ = true:=by kernel_rfl
theorem QKt : fOK T.P 155 Qvv = true:=by kernel_rfl
theorem QM5 : fOK T.P 156 Qry = true:=by kernel_rfl
theorem QMx : fOK T.P 157 Qut = true:=by kernel_rfl
theorem QPQ : fOK T.P 158 Qu6 = true:=by kernel_rfl
theorem QJU : fOK T.P 159 Qvq = true:=by kernel_rfl
theorem QPh : fOK T.P 160 QqD = true:=by kernel_rfl
theorem QNP : fOK T.P 161 Qvi = true:=by kernel_rfl
theorem QPc : fOK T.P 162 Qt1 = true:=by kernel_rfl
theorem QNv : fOK T.P 163 Qvu = true:=by kernel_rfl
theorem QIW : fOK T.P 164 Qm4 = true:=by kernel_rfl
theorem QMU : fOK T.P 165 QqE = true:=by kernel_rfl
theorem QKJ : fOK T.P 166 Qp3 = true:=by kernel_rfl
theorem QRh : fOK T.P 167 Qqk = true:=by kernel_rfl
theorem QI0 : fOK T.P 168 Qq8 = true:=by kernel_rfl
theorem QMG : fOK T.P 169 Qu8 = true:=by kernel_rfl
theorem QPJ : fOK T.P 181 Qvt = true:=by kernel_rfl
theorem QLn : fOK T.P 182 QrF = true:=by kernel_rfl
theorem QMg : fOK T.P 187 QvF = true:=by kernel_rfl
theorem QMk : fOK T.P 188 QuZ = true:=by kernel_rfl
theorem QLf : fOK T.P 189 Qu1 = true:=by kernel_rfl
theorem QLS : fOK T.P 190 Qre = true:=by kernel_rfl
theorem QO5 : fOK T.P 191 Qvn = true:=by kernel_rfl
theorem QKV : fOK T.P 192 Qr0 = true:=by kernel_rfl
theorem QKn : fOK T.P 193 Quk = true:=by kernel_rfl
theorem QN9 : fOK T.P 194 QrU = true:=by kernel_rfl
theorem QOU : fOK T.P 195 Qqx = true:=by kernel_rfl
theorem QQw : fOK T.P 196 QuF = true:=by kernel_rfl
theorem QIR : fOK T.P 197 QuV = true:=by kernel_rfl
theorem QLG : fOK T.P 198 QuH = true:=by kernel_rfl
theorem QNW : fOK T.P 199 QuN = true:=by kernel_rfl
theorem QJK : fOK T.P 200 QuK = true:=by kernel_rfl
theorem QO1 : fOK T.P 201 Qt2 = true:=by kernel_rfl
theorem QPW : fOK T.P 202 Qrz = true:=by kernel_rfl
theorem QJq : fOK T.P 205 Qrh = true:=by kernel_rfl
theorem QKo : fOK T.P 206 QvG = true:=by kernel_rfl
theorem QNQ : fOK T.P 209 QrL = true:=by kernel_rfl
theorem QIX : fOK T.P 213 Qrw = true:=by kernel_rfl
theorem QOe : fOK T.P 214 QtD = true:=by kernel_rfl
theorem QPg : fOK T.P 215 QvH = true:=by kernel_rfl
theorem QLm : fOK T.P 216 QqP = true:=by kernel_rfl
theorem QOt : fOK T.P 217 Qum = true:=by kernel_rfl
theorem QPf : fOK T.P 218 QtH = true:=by kernel_rfl
theorem QKH : fOK T.P 219 QvB = true:=by kernel_rfl
theorem QKM : fOK T.P 220 QtN = true:=by kernel_rfl
theorem QPe : fOK T.P 221 Qvb = true:=by kernel_rfl
theorem QRd : fOK T.P 222 QuO = true:=by kernel_rfl
theorem QOD : fOK T.P 223 Qvr = true:=by kernel_rfl
theorem QKW : fOK T.P 224 Qua = true:=by kernel_rfl
theorem QOW : fOK T.P 225 Qqj = true:=by kernel_rfl
theorem QLd : fOK T.P 226 Qn7 = true:=by kernel_rfl
theorem QRf : fOK T.P 227 Quc = true:=by kernel_rfl
theorem QQ9 : fOK T.P 228 QtJ = true:=by kernel_rfl
theorem QNH : fOK T.P 234 Qt4 = true:=by kernel_rfl
theorem QN5 : fOK T.P 235 Qr4 = true:=by kernel_rfl
theorem QJv : fOK T.P 236 QqZ = true:=by kernel_rfl
theorem QLN : fOK T.P 237 QoY = true:=by kernel_rfl
theorem QM2 : fOK T.P 238 Qqe = true:=by kernel_rfl
theorem QMa : fOK T.P 239 Qrd = true:=by kernel_rfl
theorem QNN : fOK T.P 240 Qnx = true:=by kernel_rfl
theorem QRl : fOK T.P 241 QrM = true:=by kernel_rfl
theorem QJ6 : fOK T.P 242 Quz = true:=by kernel_rfl
theorem QN0 : fOK T.P 244 QrX = true:=by kernel_rfl
theorem QPT : fOK T.P 245 QqR = true:=by kernel_rfl
theorem QNF : fOK T.P 246 Qr3 = true:=by kernel_rfl
theorem QKE : fOK T.P 247 QvD = true:=by kernel_rfl
theorem QPs : fOK T.P 248 QrW = true:=by kernel_rfl
theorem QJe : fOK T.P 249 Qvf = true:=by kernel_rfl
theorem QLL : fOK T.P 254 QuB = true:=by kernel_rfl
theorem QPG : fOK T.P 255 QrT = true:=by kernel_rfl
theorem QPx : fOK T.P 256 QmJ = true:=by kernel_rfl
theorem QOJ : fOK T.P 257 Quy = true:=by kernel_rfl
theorem QNY : fOK T.P 258 QvI = true:=by kernel_rfl
theorem QMs : fOK T.P 260 Quv = true:=by kernel_rfl
theorem QJl : fOK T.P 261 QuD = true:=by kernel_rfl
theorem QJC : fOK T.P 262 Qq0 = true:=by kernel_rfl
theorem QLA : fOK T.P 263 QqN = true:=by kernel_rfl
theorem QI2 : fOK T.P 264 Qrk = true:=by kernel_rfl
theorem QNm : fOK T.P 268 QoG = true:=by kernel_rfl
theorem QQV : fOK T.P 270 QrN = true:=by kernel_rfl
theorem QWc : T.ok = true:=by
 unfold Tld.ok
 exact okc ok4 (okc ok5 (okc ok8 (okc QVx (okc QVG (okc QS3 (okc QUX (okc QTk (okc QUb (okc QRK (okc QRX (okc QRy (okc QVq (okc QVi (okc QSp (okc QWm (okc QV2 (okc QVp (okc QUS (okc QSl (okc QWF (okc QU4 (okc QTD (okc QR9 (okc QVb (okc QSb (okc QSr (okc QU6 (okc QUE (okc QTc (okc QTB (okc QWr (okc QSu (okc QSC (okc QS5 (okc QVT (okc QUC (okc QVL (okc QRV (okc QWO (okc QRu (okc QSw (okc QWp (okc QTr (okc QUO (okc QTt (okc QSs (okc QRO (okc QRN (okc QWt (okc QUF (okc QVn (okc QWg (okc QSY (okc QUx (okc QTw (okc QWT (okc QSg (okc QWX (okc QWC (okc QVy (okc QRB (okc QWz (okc QU2 (okc QVE (okc QVP (okc QVJ (okc QTp (okc QUm (okc QVt (okc QWY (okc QTT (okc QW2 (okc QRW (okc QWH (okc QWj (okc QWk (okc QSi (okc QWb (okc QVe (okc QOG (okc QPE (okc QJk (okc QL9 (okc QQJ (okc QQB (okc QP1 (okc QP2 (okc QJD (okc QKl (okc QKp (okc QPN (okc QOr (okc QQi (okc QNe (okc QIY (okc QJ8 (okc QPw (okc QN4 (okc QLe (okc QQ7 (okc QJJ (okc QOH (okc QJF (okc QJj (okc QPz (okc QM7 (okc QNB (okc QKN (okc QJ9 (okc QNO (okc QKB (okc QNX (okc QLx (okc QKZ (okc QRk (okc QJr (okc QO3 (okc QQe (okc QRp (okc QNS (okc QKt (okc QM5 (okc QMx (okc QPQ (okc QJU (okc QPh (okc QNP (okc QPc (okc QNv (okc QIW (okc QMU (okc QKJ (okc QRh (okc QI0 (okc QMG (okc QPJ (okc QLn (okc QMg (okc QMk (okc QLf (okc QLS (okc QO5 (okc QKV (okc QKn (okc QN9 (okc QOU (okc QQw (okc QIR (okc QLG (okc QNW (okc QJK (okc QO1 (okc QPW (okc QJq (okc QKo (okc QNQ (okc QIX (okc QOe (okc QPg (okc QLm (okc QOt (okc QPf (okc QKH (okc QKM (okc QPe (okc QRd (okc QOD (okc QKW (okc QOW (okc QLd (okc QRf (okc QQ9 (okc QNH (okc QN5 (okc QJv (okc QLN (okc QM2 (okc QMa (okc QNN (okc QRl (okc QJ6 (okc QN0 (okc QPT (okc QNF (okc QKE (okc QPs (okc QJe (okc QLL (okc QPG (okc QPx (okc QOJ (okc QNY (okc QMs (okc QJl (okc QJC (okc QLA (okc QI2 (okc QNm (okc QQV (rfl))))))))))))))))))))))))))))))))))))))))))))))))))))))))))))))))))))))))))))))))))))))))))))))))))))))))))))))))))))))))))))))))))))))))))))))))))))))))))))))))))))))))))))))))))))))))))))))))))))))))
end Go.Proofs.YtncpklppoancgaaGreat
