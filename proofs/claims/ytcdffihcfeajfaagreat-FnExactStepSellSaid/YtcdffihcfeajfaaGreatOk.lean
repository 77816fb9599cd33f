import Derived.Test.YtcdffihcfeajfaaGreatEc
import Derived.Test.YtcdffihcfeajfaaGreatEvD
namespace Go.Proofs.YtcdffihcfeajfaaGreat
open Go Go.Proofs Go.Proofs.YtcdffihcfeajfaaGreat.Am
set_option maxRecDepth 100000
theorem okc {P : Program} {g : FuncId} {a : Ann} {l : List (FuncId × Ann)} (h : fOK P g a = true) (t : (l.all fun p => fOK P p.1 p.2) = true) : (((g, a) :: l).all fun p => fOK P p.1 p.2) = true := by rw [List.all_cons, t, Bool.and_true]; exact h
theorem QMm : fOK T.P 10 { ac := [(19, 0), (20, 0), (24, 0)], jn := [(12, (57, 49, 57)), (21, (86, 74, 86)), (32, (115, 107, 115))] } = true := by kernel_rfl
theorem QLR : fOK T.P 13 {} = true := by kernel_rfl
theorem QMa : fOK T.P 15 { lp := [(3, ⟨[0, 3, 4], [.s 3 3], [3], [.s 3 3]⟩)], sh := [.z 3] } = true := by kernel_rfl
theorem QNm : fOK T.P 17 {} = true := by kernel_rfl
theorem QLf : fOK T.P 18 { lp := [(4, ⟨[0, 1, 5], [], [], []⟩)], rt := ⟨[4], [], [], []⟩ } = true := by kernel_rfl
theorem QPZ : fOK T.P 19 { ak := [0], lp := [(2, ⟨[0, 1, 5], [.s 0 3], [0, 1], [.s 0 3]⟩)] } = true := by kernel_rfl
theorem QQN : fOK T.P 20 { ak := [0, 1, 2, 3, 4, 5, 6], ac := [(1, 0), (2, 0), (3, 0), (4, 0), (5, 0), (6, 0), (7, 0)] } = true := by kernel_rfl
theorem QOO : fOK T.P 21 {} = true := by kernel_rfl
theorem QOl : fOK T.P 22 {} = true := by kernel_rfl
theorem QQ9 : fOK T.P 24 { sh := [.a [0, 8, 3, 3, 5, 4, 5, 4, 0]] } = true := by kernel_rfl
theorem QPV : fOK T.P 34 {} = true := by kernel_rfl
theorem QOa : fOK T.P 36 {} = true := by kernel_rfl
theorem QNz : fOK T.P 37 { lp := [(3, ⟨[0, 3, 4], [.s 3 2], [3], [.s 3 2]⟩)], sh := [.z 2] } = true := by kernel_rfl
theorem QLh : fOK T.P 39 { lp := [(4, ⟨[0, 1, 5], [], [], []⟩)], rt := ⟨[4], [], [], []⟩ } = true := by kernel_rfl
theorem QNj : fOK T.P 40 { ak := [0], lp := [(2, ⟨[0, 1, 5], [.s 0 2], [0, 1], [.s 0 2]⟩)] } = true := by kernel_rfl
theorem QNH : fOK T.P 41 {} = true := by kernel_rfl
theorem QP5 : fOK T.P 42 { ot := [(9, .one 0 (.one 1 (.one 2 (.one 3 (.one 4 (.one 5 (.one 6 (.one 7 (.one 8 (.alt (.one 9 (.one 10 (.one 11 (.one 12 (.one 13 (.one 14 (.one 15 (.done)))))))) (.one 13 (.one 9 (.one 10 (.one 11 (.one 12 (.one 14 (.one 15 (.done))))))))))))))))))], av := [(6, [120]), (9, [120]), (10, [92]), (11, [92])], jn := [(3, (50, 27, 50))], sh := [.a [0, 8, 3, 3, 5, 4, 5, 4, 0], .n] } = true := by kernel_rfl
theorem QQJ : fOK T.P 43 { lp := [(3, ⟨[0, 3, 4], [.s 3 3], [3], [.s 3 3]⟩)], sh := [.z 3] } = true := by kernel_rfl
theorem QMC : fOK T.P 44 { av := [(11, [100])], jn := [(3, (42, 28, 42)), (9, (80, 68, 80))], sh := [.a [0, 8, 3, 3, 5, 4, 5, 4, 0], .n] } = true := by kernel_rfl
theorem QLT : fOK T.P 45 { lp := [(4, ⟨[0, 1, 5], [], [], []⟩)], rt := ⟨[4], [], [], []⟩ } = true := by kernel_rfl
theorem QLx : fOK T.P 46 { ak := [0], lp := [(2, ⟨[0, 1, 5], [.s 0 3], [0, 1], [.s 0 3]⟩)] } = true := by kernel_rfl
theorem QMT : fOK T.P 59 { ord := [(1, [0, 1, 2, 3, 4, 6, 7, 9, 10, 11, 13, 14, 15, 17, 18, 19, 21, 22, 23, 25, 26, 27, 29, 30, 5, 8, 12, 16, 20, 24, 28, 31, 32])], eb := [(1, [5, 12, 16, 20, 24, 28])], sh := [.a [0, 8, 3, 3, 5, 4, 5, 4, 0]] } = true := by kernel_rfl
theorem QMl : fOK T.P 60 { jn := [(1, (48, 3, 48)), (3, (86, 49, 86)), (5, (2, 87, 93))] } = true := by kernel_rfl
theorem QNT : fOK T.P 62 {} = true := by kernel_rfl
theorem QLM : fOK T.P 63 { sh := [.z 3] } = true := by kernel_rfl
theorem QO8 : fOK T.P 64 { ord := [(1, [0, 1, 2, 3, 4, 5, 6, 7, 8, 9, 10, 11, 12, 13, 14, 15, 16, 17, 18, 19, 20, 21, 22, 23, 24, 25, 26, 27, 28, 29, 30, 31, 32, 33, 34, 35, 36, 37, 38, 39, 40, 41, 42, 44, 45, 43, 46, 47, 48, 49, 50, 51, 52, 53])], jn := [(1, (2, 3, 56))] } = true := by kernel_rfl
theorem QQ4 : fOK T.P 65 { lp := [(4, ⟨[0, 1, 5], [], [], []⟩)], rt := ⟨[4], [], [], []⟩ } = true := by kernel_rfl
theorem QNK : fOK T.P 66 { lp := [(4, ⟨[0, 1, 5], [], [], []⟩)], rt := ⟨[4], [], [], []⟩ } = true := by kernel_rfl
theorem QMw : fOK T.P 67 { lp := [(4, ⟨[0, 1, 5], [], [], []⟩)], rt := ⟨[4], [], [], []⟩ } = true := by kernel_rfl
theorem QOM : fOK T.P 68 { lp := [(4, ⟨[0, 1, 5], [], [], []⟩)], rt := ⟨[4], [], [], []⟩ } = true := by kernel_rfl
theorem QPB : fOK T.P 69 { lp := [(4, ⟨[0, 1, 5], [], [], []⟩)], rt := ⟨[4], [], [], []⟩ } = true := by kernel_rfl
theorem QRb : fOK T.P 70 { lp := [(4, ⟨[0, 1, 5], [], [], []⟩)], rt := ⟨[4], [], [], []⟩ } = true := by kernel_rfl
theorem QPQ : fOK T.P 71 {} = true := by kernel_rfl
theorem QQM : fOK T.P 72 { ak := [0], lp := [(2, ⟨[0, 1, 5], [.s 0 8], [0, 1], [.s 0 8]⟩)] } = true := by kernel_rfl
theorem QNs : fOK T.P 73 { an := [(6, [0, 0, 0, 0])], ak := [0], lp := [(2, ⟨[0, 1, 5], [.s 0 3], [0, 1], [.s 0 3]⟩)] } = true := by kernel_rfl
theorem QL7 : fOK T.P 74 { ak := [0], lp := [(2, ⟨[0, 1, 5], [.s 0 5], [0, 1], [.s 0 5]⟩)] } = true := by kernel_rfl
theorem QPG : fOK T.P 75 { ak := [0], lp := [(2, ⟨[0, 1, 5], [.s 0 4], [0, 1], [.s 0 4]⟩)] } = true := by kernel_rfl
theorem QOb : fOK T.P 76 { ak := [0], lp := [(2, ⟨[0, 1, 5], [.s 0 5], [0, 1], [.s 0 5]⟩)] } = true := by kernel_rfl
theorem QO6 : fOK T.P 77 { ak := [0], lp := [(2, ⟨[0, 1, 5], [.s 0 4], [0, 1], [.s 0 4]⟩)] } = true := by kernel_rfl
theorem QLr : fOK T.P 78 { lp := [(2, ⟨[0, 1, 5], [], [1], []⟩)], rt := ⟨[4], [], [], []⟩ } = true := by kernel_rfl
theorem QON : fOK T.P 79 { lp := [(2, ⟨[0, 1, 5], [], [1], []⟩)], rt := ⟨[4], [], [], []⟩ } = true := by kernel_rfl
theorem QMW : fOK T.P 80 { lp := [(2, ⟨[0, 1, 5], [], [1], []⟩)], rt := ⟨[4], [], [], []⟩ } = true := by kernel_rfl
theorem QO3 : fOK T.P 81 { lp := [(2, ⟨[0, 1, 5], [], [1], []⟩)], rt := ⟨[4], [], [], []⟩ } = true := by kernel_rfl
theorem QNP : fOK T.P 82 { lp := [(2, ⟨[0, 1, 5], [], [1], []⟩)], rt := ⟨[4], [], [], []⟩ } = true := by kernel_rfl
theorem QQH : fOK T.P 83 { lp := [(2, ⟨[0, 1, 5], [], [1], []⟩)], rt := ⟨[4], [], [], []⟩ } = true := by kernel_rfl
theorem QL5 : fOK T.P 84 { lp := [(2, ⟨[0, 1, 5], [], [1], []⟩)], rt := ⟨[4], [], [], []⟩ } = true := by kernel_rfl
theorem QNF : fOK T.P 85 {} = true := by kernel_rfl
theorem QLw : fOK T.P 86 { lp := [(5, ⟨[0, 1, 5], [], [1], []⟩)], rt := ⟨[4], [], [], []⟩ } = true := by kernel_rfl
theorem QPr : fOK T.P 87 {} = true := by kernel_rfl
theorem QPD : fOK T.P 88 {} = true := by kernel_rfl
theorem QPd : fOK T.P 89 {} = true := by kernel_rfl
theorem QNW : fOK T.P 90 {} = true := by kernel_rfl
theorem QOL : fOK T.P 91 { jn := [(1, (6, 7, 15))] } = true := by kernel_rfl
theorem QPW : fOK T.P 92 { jn := [(1, (19, 8, 19))], sh := [.a [0, 8, 3, 3, 5, 4, 5, 4, 0], .n] } = true := by kernel_rfl
theorem QOd : fOK T.P 93 { lp := [(3, ⟨[0, 3, 4], [.s 3 8], [3], [.s 3 8]⟩)], sh := [.z 8] } = true := by kernel_rfl
theorem QPw : fOK T.P 94 { lp := [(3, ⟨[0, 3, 4], [.s 3 3], [3], [.s 3 3]⟩)], sh := [.z 3] } = true := by kernel_rfl
theorem QQ0 : fOK T.P 95 { lp := [(3, ⟨[0, 3, 4], [.s 3 5], [3], [.s 3 5]⟩)], sh := [.z 5] } = true := by kernel_rfl
theorem QPX : fOK T.P 96 { lp := [(3, ⟨[0, 3, 4], [.s 3 4], [3], [.s 3 4]⟩)], sh := [.z 4] } = true := by kernel_rfl
theorem QPc : fOK T.P 97 { lp := [(3, ⟨[0, 3, 4], [.s 3 5], [3], [.s 3 5]⟩)], sh := [.z 5] } = true := by kernel_rfl
theorem QLG : fOK T.P 98 { lp := [(3, ⟨[0, 3, 4], [.s 3 4], [3], [.s 3 4]⟩)], sh := [.z 4] } = true := by kernel_rfl
theorem QPp : fOK T.P 99 { ord := [(1, [0, 1, 3, 4, 6, 7, 9, 10, 2, 12, 5, 8, 11, 13, 14, 15, 16, 17, 18, 19]), (2, [0, 1, 3, 4, 6, 7, 2, 9, 5, 8, 10, 11, 12, 13, 14])], sh := [.a [0, 8, 3, 3, 5, 4, 5, 4, 0]] } = true := by kernel_rfl
theorem QCd : fOK T.P 100 { jn := [(1, (19, 8, 19))], sh := [.a [0, 8, 3, 3, 5, 4, 5, 4, 0], .n] } = true := by kernel_rfl
theorem QFg : fOK T.P 101 { jn := [(1, (6, 7, 15))] } = true := by kernel_rfl
theorem QJi : fOK T.P 103 { sh := [.z 2] } = true := by kernel_rfl
theorem QHX : fOK T.P 105 { jn := [(1, (5, 6, 19)), (3, (19, 20, 30))] } = true := by kernel_rfl
theorem QKx : fOK T.P 107 { sh := [.z 2] } = true := by kernel_rfl
theorem QC8 : fOK T.P 109 { jn := [(1, (5, 6, 19)), (3, (19, 20, 30))] } = true := by kernel_rfl
theorem QGP : fOK T.P 112 { jn := [(4, (22, 12, 22))], lp := [(2, ⟨[0, 1, 5], [], [], []⟩)], rt := ⟨[4], [], [], []⟩ } = true := by kernel_rfl
theorem QEI : fOK T.P 114 {} = true := by kernel_rfl
theorem QEf : fOK T.P 116 { jn := [(5, (44, 13, 44))], lp := [(3, ⟨[0, 1, 5, 6], [], [0, 5], []⟩)] } = true := by kernel_rfl
theorem QEo : fOK T.P 117 { lp := [(2, ⟨[0, 1, 5], [], [], []⟩)], rt := ⟨[4], [], [], []⟩ } = true := by kernel_rfl
theorem QIj : fOK T.P 118 { sh := [.a [0, 8, 3, 3, 5, 4, 5, 4, 0], .n] } = true := by kernel_rfl
theorem QDl : fOK T.P 120 { sh := [.a [0, 8, 3, 3, 5, 4, 5, 4, 0], .n] } = true := by kernel_rfl
theorem QCl : fOK T.P 122 { jn := [(2, (24, 11, 24))] } = true := by kernel_rfl
theorem QEY : fOK T.P 123 { jn := [(6, (35, 16, 35))], lp := [(4, ⟨[1, 5, 6, 10, 11, 12], [.s 5 0], [5], [.s 5 0]⟩)] } = true := by kernel_rfl
theorem QCh : fOK T.P 124 { sh := [.a [0, 8, 3, 3, 5, 4, 5, 4, 0], .n] } = true := by kernel_rfl
theorem QFD : fOK T.P 126 { ot := [(1, .one 0 (.one 2 (.alt (.one 1 (.one 3 (.one 4 (.one 5 (.done))))) (.one 3 (.one 1 (.one 4 (.one 5 (.done))))))))], sh := [.z 4, .n] } = true := by kernel_rfl
theorem QE0 : fOK T.P 127 { jn := [(6, (36, 20, 36)), (10, (42, 43, 53))], lp := [(4, ⟨[1, 2, 3, 7], [.s 3 0], [2, 3], [.s 3 0]⟩)], rt := ⟨[6], [], [], []⟩ } = true := by kernel_rfl
theorem QJY : fOK T.P 128 { jn := [(4, (16, 17, 26)), (6, (26, 27, 35)), (8, (35, 36, 44))] } = true := by kernel_rfl
theorem QD2 : fOK T.P 132 { ot := [(5, .one 1 (.alt (.one 0 (.alt (.one 2 (.one 3 (.one 4 (.one 5 (.one 6 (.done)))))) (.one 3 (.alt (.one 2 (.one 4 (.one 5 (.one 6 (.done))))) (.one 4 (.one 2 (.one 5 (.one 6 (.done))))))))) (.one 3 (.alt (.one 0 (.alt (.one 2 (.one 4 (.one 5 (.one 6 (.done))))) (.one 4 (.one 2 (.one 5 (.one 6 (.done))))))) (.one 4 (.one 0 (.one 2 (.one 5 (.one 6 (.done))))))))))], sh := [.z 5, .n] } = true := by kernel_rfl
theorem QKH : fOK T.P 133 {} = true := by kernel_rfl
theorem QHn : fOK T.P 134 {} = true := by kernel_rfl
theorem QHk : fOK T.P 138 { ot := [(5, .one 0 (.one 2 (.alt (.one 1 (.one 3 (.one 4 (.one 5 (.done))))) (.one 3 (.one 1 (.one 4 (.one 5 (.done))))))))], sh := [.z 5, .n] } = true := by kernel_rfl
theorem QEy : fOK T.P 139 {} = true := by kernel_rfl
theorem QJd : fOK T.P 140 { jn := [(1, (12, 5, 12))] } = true := by kernel_rfl
theorem QJC : fOK T.P 141 { sh := [.z 2] } = true := by kernel_rfl
theorem QJw : fOK T.P 142 {} = true := by kernel_rfl
theorem QIg : fOK T.P 143 { jn := [(1, (12, 5, 12))] } = true := by kernel_rfl
theorem QBI : fOK T.P 144 { sh := [.z 2] } = true := by kernel_rfl
theorem QGS : fOK T.P 145 {} = true := by kernel_rfl
theorem QFs : fOK T.P 146 {} = true := by kernel_rfl
theorem QGA : fOK T.P 147 { ord := [(5, [0, 1, 2, 3, 4, 5, 6, 7, 8, 9, 10, 11, 13, 14, 15, 16, 17, 12, 18, 19, 20, 21])], eb := [(5, [18])], lp := [(3, ⟨[0, 3, 4], [.s 3 3], [3], [.s 3 3]⟩)], sh := [.z 3] } = true := by kernel_rfl
theorem QDn : fOK T.P 148 { jn := [(4, (35, 10, 35))], lp := [(2, ⟨[0, 3], [], [0], []⟩)], rt := ⟨[2], [], [], []⟩ } = true := by kernel_rfl
theorem QGX : fOK T.P 149 { jn := [(4, (61, 10, 61))], lp := [(2, ⟨[0, 3], [], [0], []⟩)], rt := ⟨[2], [], [], []⟩ } = true := by kernel_rfl
theorem QGi : fOK T.P 150 { jn := [(4, (53, 11, 53)), (9, (77, 59, 77))], lp := [(2, ⟨[0, 3], [], [0], []⟩), (7, ⟨[0, 3, 4], [], [0, 3], []⟩)], rt := ⟨[2], [], [], []⟩ } = true := by kernel_rfl
theorem QG2 : fOK T.P 151 { jn := [(5, (58, 16, 58)), (10, (84, 64, 84))], lp := [(2, ⟨[0, 3], [], [0], []⟩), (8, ⟨[0, 3, 4, 5], [.s 4 0], [0, 3], []⟩)], rt := ⟨[2], [], [], []⟩ } = true := by kernel_rfl
theorem QIR : fOK T.P 152 { jn := [(3, (15, 7, 15)), (7, (67, 25, 67)), (10, (96, 73, 96))], lp := [(3, ⟨[0, 3, 4], [], [0], []⟩)], rt := ⟨[2], [], [], []⟩ } = true := by kernel_rfl
theorem QCD : fOK T.P 153 { jn := [(5, (58, 15, 58))], lp := [(2, ⟨[0, 3], [], [0], []⟩)], rt := ⟨[2], [], [], []⟩ } = true := by kernel_rfl
theorem QHm : fOK T.P 154 { ord := [(13, [0, 1, 2, 3, 4, 5, 6, 7, 8, 9, 10, 11, 14, 15, 12, 13, 16, 17, 18, 19, 20, 21, 22, 23, 24, 25, 26, 27, 28, 29])], jn := [(13, (77, 48, 77)), (18, (103, 85, 103))], lp := [(5, ⟨[1, 3, 4], [.s 1 0, .s 3 1], [1, 3], [.s 1 0, .s 3 1]⟩), (10, ⟨[1, 3, 5], [.s 1 0, .s 3 1], [1], [.s 1 0]⟩), (16, ⟨[1, 7], [.s 1 0], [], []⟩)], rt := ⟨[2], [], [], []⟩ } = true := by kernel_rfl
theorem QDs : fOK T.P 155 { ord := [(8, [0, 1, 2, 3, 4, 5, 6, 7, 8, 9, 10, 11, 12, 13, 14, 15, 16, 17, 18, 19, 20, 21, 22, 23, 24, 25, 26, 27, 28, 29, 30, 32, 33, 34, 35, 36, 38, 31, 37, 39, 40, 41, 42, 43, 44, 45, 46, 47])], jn := [(8, (77, 30, 77))], lp := [(4, ⟨[1, 3], [.s 1 0], [], []⟩)], rt := ⟨[2], [], [], []⟩ } = true := by kernel_rfl
theorem QBQ : fOK T.P 156 { jn := [(6, (34, 15, 34))], lp := [(4, ⟨[0, 8, 9, 10], [], [], []⟩)], rt := ⟨[2], [], [], []⟩ } = true := by kernel_rfl
theorem QI4 : fOK T.P 157 { jn := [(6, (51, 15, 51))], lp := [(4, ⟨[0, 8, 9, 10], [], [], []⟩)], rt := ⟨[2], [], [], []⟩ } = true := by kernel_rfl
theorem QBT : fOK T.P 158 { jn := [(6, (54, 15, 54))], lp := [(4, ⟨[0, 8, 9, 10], [], [], []⟩)], rt := ⟨[2], [], [], []⟩ } = true := by kernel_rfl
theorem QCx : fOK T.P 159 { jn := [(6, (59, 17, 59)), (11, (82, 68, 82))], lp := [(4, ⟨[0, 10, 11, 12], [], [], []⟩), (9, ⟨[0, 4, 10, 11, 12, 62, 63, 64], [.s 4 0], [0, 10, 11, 12], []⟩)], rt := ⟨[2], [], [], []⟩ } = true := by kernel_rfl
theorem QIS : fOK T.P 160 { jn := [(7, (61, 17, 61)), (13, (83, 73, 83))], lp := [(5, ⟨[0, 3, 10, 11, 12], [], [], []⟩)], rt := ⟨[2], [], [], []⟩ } = true := by kernel_rfl
theorem QFr : fOK T.P 161 { jn := [(6, (58, 15, 58))], lp := [(4, ⟨[0, 8, 9, 10], [], [], []⟩)], rt := ⟨[2], [], [], []⟩ } = true := by kernel_rfl
theorem QE4 : fOK T.P 162 { ord := [(7, [0, 1, 2, 3, 4, 5, 6, 7, 8, 9, 10, 11, 12, 13, 14, 15, 18, 19, 20, 21, 16, 17, 22, 23, 24])], jn := [(7, (54, 30, 54)), (13, (73, 63, 73))], lp := [(5, ⟨[1, 3, 23, 24, 25], [.s 1 0, .s 3 1], [1, 3], [.s 1 0, .s 3 1]⟩), (11, ⟨[1, 3, 57, 58, 59], [.s 1 0, .s 3 1], [1, 3], [.s 1 0, .s 3 1]⟩), (17, ⟨[1, 75, 76, 77], [.s 1 0, .s 75 1], [], []⟩)], rt := ⟨[2], [], [], []⟩ } = true := by kernel_rfl
theorem QIv : fOK T.P 163 { ord := [(7, [0, 1, 2, 3, 4, 5, 6, 7, 8, 9, 10, 11, 12, 13, 14, 15, 16, 17, 18, 19, 20, 21, 22, 24, 26, 27, 23, 25, 28, 29, 30])], jn := [(7, (56, 26, 56))], lp := [(4, ⟨[1, 14, 15, 16], [.s 1 0], [], []⟩)], rt := ⟨[2], [], [], []⟩ } = true := by kernel_rfl
theorem QBu : fOK T.P 164 { lp := [(3, ⟨[1, 3, 13, 14, 15], [.s 1 0], [1, 3], [.s 1 0]⟩), (8, ⟨[1, 3, 25, 26, 27], [.s 1 0], [1, 3], [.s 1 0]⟩), (13, ⟨[1, 3, 37, 38, 39], [.s 1 0], [1, 3], [.s 1 0]⟩), (18, ⟨[3, 49, 50, 51], [], [3], []⟩)] } = true := by kernel_rfl
theorem QDu : fOK T.P 165 {} = true := by kernel_rfl
theorem QCt : fOK T.P 166 {} = true := by kernel_rfl
theorem QJ7 : fOK T.P 167 {} = true := by kernel_rfl
theorem QDg : fOK T.P 168 {} = true := by kernel_rfl
theorem QGf : fOK T.P 169 {} = true := by kernel_rfl
theorem QEJ : fOK T.P 170 { lp := [(2, ⟨[0, 1, 5], [], [1], []⟩)], rt := ⟨[4], [], [], []⟩ } = true := by kernel_rfl
theorem QI5 : fOK T.P 171 {} = true := by kernel_rfl
theorem QKl : fOK T.P 172 { sh := [.a [0, 2, 0]] } = true := by kernel_rfl
theorem QG0 : fOK T.P 173 {} = true := by kernel_rfl
theorem QEa : fOK T.P 174 {} = true := by kernel_rfl
theorem QIw : fOK T.P 175 {} = true := by kernel_rfl
theorem QCF : fOK T.P 176 {} = true := by kernel_rfl
theorem QJU : fOK T.P 177 { sh := [.z 8] } = true := by kernel_rfl
theorem QBU : fOK T.P 178 { lp := [(3, ⟨[3, 7, 8, 9], [.s 3 3], [3], [.s 3 3]⟩)], sh := [.z 3] } = true := by kernel_rfl
theorem QFa : fOK T.P 179 { sh := [.z 5] } = true := by kernel_rfl
theorem QJH : fOK T.P 180 { sh := [.z 4] } = true := by kernel_rfl
theorem QGW : fOK T.P 181 { sh := [.z 5] } = true := by kernel_rfl
theorem QEw : fOK T.P 182 { sh := [.z 4] } = true := by kernel_rfl
theorem QI9 : fOK T.P 183 {} = true := by kernel_rfl
theorem QIN : fOK T.P 184 { lp := [(2, ⟨[0, 1, 5], [], [], []⟩)], rt := ⟨[4], [], [], []⟩ } = true := by kernel_rfl
theorem QH5 : fOK T.P 187 { jn := [(1, (2, 3, 26))] } = true := by kernel_rfl
theorem QEu : fOK T.P 188 { jn := [(4, (43, 10, 43))], lp := [(2, ⟨[0, 3], [], [0], []⟩)], rt := ⟨[2], [], [], []⟩ } = true := by kernel_rfl
theorem QCi : fOK T.P 189 {} = true := by kernel_rfl
theorem QHC : fOK T.P 190 { lp := [(2, ⟨[0, 1, 7, 8], [], [], []⟩)], rt := ⟨[4], [], [], []⟩ } = true := by kernel_rfl
theorem QGM : fOK T.P 192 {} = true := by kernel_rfl
theorem QEF : fOK T.P 193 { sh := [.z 2] } = true := by kernel_rfl
theorem QI6 : fOK T.P 196 { jn := [(1, (2, 3, 26))] } = true := by kernel_rfl
theorem QIF : fOK T.P 197 { jn := [(6, (39, 15, 39))], lp := [(4, ⟨[0, 8, 9, 10], [], [], []⟩)], rt := ⟨[2], [], [], []⟩ } = true := by kernel_rfl
theorem QFV : fOK T.P 198 {} = true := by kernel_rfl
theorem QEP : fOK T.P 199 {} = true := by kernel_rfl
theorem QIm : fOK T.P 202 { lp := [(2, ⟨[0, 1, 7, 8], [], [], []⟩)], rt := ⟨[4], [], [], []⟩ } = true := by kernel_rfl
theorem QEp : fOK T.P 203 {} = true := by kernel_rfl
theorem QCN : fOK T.P 206 { jn := [(3, (21, 15, 21))], lp := [(6, ⟨[6, 7, 8], [.s 6 3], [6], [.s 6 3]⟩)], sh := [.z 3, .n] } = true := by kernel_rfl
theorem QCT : fOK T.P 207 { ot := [(1, .one 1 (.alt (.one 0 (.alt (.one 2 (.one 3 (.one 4 (.one 5 (.one 6 (.done)))))) (.one 3 (.alt (.one 2 (.one 4 (.one 5 (.one 6 (.done))))) (.one 4 (.one 2 (.one 5 (.one 6 (.done))))))))) (.one 3 (.alt (.one 0 (.alt (.one 2 (.one 4 (.one 5 (.one 6 (.done))))) (.one 4 (.one 2 (.one 5 (.one 6 (.done))))))) (.one 4 (.one 0 (.one 2 (.one 5 (.one 6 (.done))))))))))], sh := [.z 4, .n] } = true := by kernel_rfl
theorem QCM : fOK T.P 208 { jn := [(1, (2, 3, 26))] } = true := by kernel_rfl
theorem QGo : fOK T.P 209 {} = true := by kernel_rfl
theorem QCK : fOK T.P 210 {} = true := by kernel_rfl
theorem QGN : fOK T.P 211 { jn := [(3, (19, 13, 19))], sh := [.z 3, .n] } = true := by kernel_rfl
theorem QJZ : fOK T.P 212 { jn := [(1, (2, 3, 26))] } = true := by kernel_rfl
theorem QF2 : fOK T.P 213 { jn := [(1, (4, 5, 13))] } = true := by kernel_rfl
theorem QJx : fOK T.P 214 { jn := [(1, (4, 5, 13))] } = true := by kernel_rfl
theorem QJv : fOK T.P 215 { jn := [(1, (3, 4, 14))] } = true := by kernel_rfl
theorem QCU : fOK T.P 217 {} = true := by kernel_rfl
theorem QKk : fOK T.P 221 {} = true := by kernel_rfl
theorem QE1 : fOK T.P 222 { jn := [(4, (26, 11, 26))], lp := [(2, ⟨[0, 3], [], [0], []⟩), (7, ⟨[0, 3, 4], [], [0, 3], []⟩)], rt := ⟨[2], [], [], []⟩ } = true := by kernel_rfl
theorem QFJ : fOK T.P 223 { ot := [(8, .one 1 (.one 2 (.one 3 (.one 5 (.one 6 (.one 11 (.one 12 (.one 13 (.alt (.one 0 (.alt (.one 4 (.one 7 (.one 8 (.one 9 (.one 10 (.one 14 (.one 15 (.done)))))))) (.one 7 (.alt (.one 4 (.one 8 (.one 9 (.one 10 (.one 14 (.one 15 (.done))))))) (.one 8 (.alt (.one 4 (.one 9 (.one 10 (.one 14 (.one 15 (.done)))))) (.one 9 (.one 4 (.one 10 (.one 14 (.one 15 (.done)))))))))))) (.one 7 (.alt (.one 0 (.alt (.one 4 (.one 8 (.one 9 (.one 10 (.one 14 (.one 15 (.done))))))) (.one 8 (.alt (.one 4 (.one 9 (.one 10 (.one 14 (.one 15 (.done)))))) (.one 9 (.one 4 (.one 10 (.one 14 (.one 15 (.done)))))))))) (.one 8 (.alt (.one 0 (.alt (.one 4 (.one 9 (.one 10 (.one 14 (.one 15 (.done)))))) (.one 9 (.one 4 (.one 10 (.one 14 (.one 15 (.done)))))))) (.one 9 (.one 0 (.one 4 (.one 10 (.one 14 (.one 15 (.done))))))))))))))))))))], fz := [(8, [3])], jn := [(6, (30, 15, 30))], lp := [(3, ⟨[0, 3, 4], [.s 3 3], [3], [.s 3 3]⟩), (6, ⟨[0, 3, 4, 5], [.s 3 3], [0, 3, 4, 5], [.s 3 3]⟩)], sh := [.z 3] } = true := by kernel_rfl
theorem QBK : fOK T.P 224 { jn := [(9, (43, 31, 43))], lp := [(4, ⟨[0, 1, 5, 6, 7], [.s 5 1], [0, 1, 5, 6], [.s 5 1]⟩), (13, ⟨[0, 1, 5, 6, 8, 9], [.s 5 1], [5, 8], [.s 5 1]⟩), (18, ⟨[5, 8, 10], [.s 5 1], [5], [.s 5 1]⟩)], rt := ⟨[4], [.s 4 1], [], []⟩, sh := [.z 1] } = true := by kernel_rfl
theorem QJA : fOK T.P 225 { jn := [(6, (24, 15, 24))], lp := [(4, ⟨[0, 8, 9, 10], [], [], []⟩)], rt := ⟨[2], [], [], []⟩ } = true := by kernel_rfl
theorem QIG : fOK T.P 226 { ac := [(2, 0)], sh := [.z 3] } = true := by kernel_rfl
theorem QIV : fOK T.P 227 { jn := [(2, (23, 15, 23))], lp := [(6, ⟨[0, 1, 5, 6, 25, 26, 27], [.s 5 1], [0, 1, 5, 6], [.s 5 1]⟩), (16, ⟨[0, 5, 6, 9, 43, 44, 45], [.s 5 1], [5, 9], [.s 5 1]⟩), (23, ⟨[5, 9, 13], [.s 5 1], [5], [.s 5 1]⟩)], rt := ⟨[4], [.s 4 1], [], []⟩, sh := [.z 1] } = true := by kernel_rfl
theorem QHV : fOK T.P 228 {} = true := by kernel_rfl
theorem QDw : fOK T.P 229 { jn := [(1, (2, 3, 21))] } = true := by kernel_rfl
theorem QEk : fOK T.P 230 { lp := [(3, ⟨[0, 1, 2, 7, 8], [], [7], []⟩)] } = true := by kernel_rfl
theorem QBZ : fOK T.P 231 { jn := [(3, (16, 9, 16)), (6, (42, 28, 42))], lp := [(3, ⟨[0, 1, 5, 6], [.s 5 1], [5], [.s 5 1]⟩)], sh := [.z 1] } = true := by kernel_rfl
theorem QF6 : fOK T.P 232 { lp := [(2, ⟨[0, 1, 5], [], [], []⟩)], rt := ⟨[4], [], [], []⟩ } = true := by kernel_rfl
theorem QFM : fOK T.P 233 { jn := [(1, (2, 3, 21))] } = true := by kernel_rfl
theorem QCa : fOK T.P 234 {} = true := by kernel_rfl
theorem QCu : fOK T.P 235 { lp := [(2, ⟨[0, 1, 5], [], [], []⟩)], rt := ⟨[4], [], [], []⟩ } = true := by kernel_rfl
theorem QHH : fOK T.P 236 { ac := [(10, 0)], jn := [(7, (36, 20, 36))], lp := [(5, ⟨[0, 1, 5, 13, 14, 15], [.s 5 1], [5], [.s 5 1]⟩)], sh := [.z 1] } = true := by kernel_rfl
theorem QGz : fOK T.P 237 {} = true := by kernel_rfl
theorem QH4 : fOK T.P 238 {} = true := by kernel_rfl
theorem QHg : fOK T.P 239 { lp := [(2, ⟨[0, 1, 7, 8], [], [], []⟩)], rt := ⟨[4], [], [], []⟩ } = true := by kernel_rfl
theorem QI1 : fOK T.P 241 { lp := [(2, ⟨[0, 1, 7, 8], [], [], []⟩)], rt := ⟨[4], [], [], []⟩ } = true := by kernel_rfl
theorem QIy : fOK T.P 242 {} = true := by kernel_rfl
theorem QGZ : fOK T.P 247 { lp := [(2, ⟨[0, 1, 7, 8], [], [], []⟩)], rt := ⟨[4], [], [], []⟩ } = true := by kernel_rfl
theorem QJk : fOK T.P 248 {} = true := by kernel_rfl
theorem QJR : fOK T.P 249 {} = true := by kernel_rfl
theorem QJ5 : fOK T.P 250 {} = true := by kernel_rfl
theorem QIo : fOK T.P 251 { lp := [(3, ⟨[0, 3, 4], [], [3], []⟩)] } = true := by kernel_rfl
theorem QJ8 : fOK T.P 256 { lp := [(3, ⟨[3, 6, 7, 8], [], [3], []⟩)] } = true := by kernel_rfl
theorem QEr : fOK T.P 257 { jn := [(1, (2, 3, 11))] } = true := by kernel_rfl
theorem QHF : fOK T.P 258 {} = true := by kernel_rfl
theorem QB0 : fOK T.P 259 {} = true := by kernel_rfl
theorem QCb : fOK T.P 260 { sh := [.z 3] } = true := by kernel_rfl
theorem QHw : fOK T.P 261 { ak := [0], ac := [(0, 0)] } = true := by kernel_rfl
theorem QBy : fOK T.P 262 {} = true := by kernel_rfl
theorem QE2 : fOK T.P 263 {} = true := by kernel_rfl
theorem QDm : fOK T.P 264 { ot := [(6, .one 1 (.one 2 (.one 3 (.one 5 (.one 8 (.one 9 (.one 10 (.alt (.one 0 (.alt (.one 4 (.one 6 (.one 7 (.one 11 (.one 12 (.done)))))) (.one 6 (.one 4 (.one 7 (.one 11 (.one 12 (.done)))))))) (.one 6 (.one 0 (.one 4 (.one 7 (.one 11 (.one 12 (.done)))))))))))))))], jn := [(2, (17, 6, 17)), (4, (31, 20, 31))], lp := [(2, ⟨[0, 1, 5], [], [0, 1, 5], []⟩)], sh := [.z 1] } = true := by kernel_rfl
theorem QDd : fOK T.P 266 { lp := [(2, ⟨[0, 1, 7, 8], [], [], []⟩)], rt := ⟨[4], [], [], []⟩ } = true := by kernel_rfl
theorem QFC : fOK T.P 267 {} = true := by kernel_rfl
theorem QDG : fOK T.P 270 { jn := [(5, (10, 11, 17))] } = true := by kernel_rfl
theorem QIq : fOK T.P 271 {} = true := by kernel_rfl
theorem QEO : fOK T.P 274 {} = true := by kernel_rfl
theorem QDY : fOK T.P 275 { lp := [(2, ⟨[0, 1, 7, 8], [], [], []⟩)], rt := ⟨[4], [], [], []⟩ } = true := by kernel_rfl
theorem QDh : fOK T.P 276 { ak := [0], ac := [(3, 0), (6, 0)], lp := [(2, ⟨[0, 1, 2, 6, 7, 8], [.s 0 3], [0, 1, 2, 6, 7], [.s 0 3]⟩), (7, ⟨[0, 1, 2, 6], [.s 0 3], [0], [.s 0 3]⟩), (9, ⟨[0, 1, 2, 6, 7, 8], [.s 0 3], [0, 1, 2, 6, 7], [.s 0 3]⟩)] } = true := by kernel_rfl
theorem QJt : fOK T.P 277 {} = true := by kernel_rfl
theorem QB3 : fOK T.P 283 {} = true := by kernel_rfl
theorem QDr : fOK T.P 284 { ak := [0], jn := [(4, (34, 18, 34))], lp := [(1, ⟨[0, 1, 2, 3, 8], [.s 0 3], [0], [.s 0 3]⟩), (4, ⟨[0, 1, 2, 3, 8, 9], [.s 0 3], [0, 1, 2, 3, 8], [.s 0 3]⟩)] } = true := by kernel_rfl
theorem QPR : T.ok = true := by
 unfold Tld.ok
 exact okc QMm (okc QLR (okc QMa (okc QNm (okc QLf (okc QPZ (okc QQN (okc QOO (okc QOl (okc QQ9 (okc QPV (okc QOa (okc QNz (okc QLh (okc QNj (okc QNH (okc QP5 (okc QQJ (okc QMC (okc QLT (okc QLx (okc QMT (okc QMl (okc QNT (okc QLM (okc QO8 (okc QQ4 (okc QNK (okc QMw (okc QOM (okc QPB (okc QRb (okc QPQ (okc QQM (okc QNs (okc QL7 (okc QPG (okc QOb (okc QO6 (okc QLr (okc QON (okc QMW (okc QO3 (okc QNP (okc QQH (okc QL5 (okc QNF (okc QLw (okc QPr (okc QPD (okc QPd (okc QNW (okc QOL (okc QPW (okc QOd (okc QPw (okc QQ0 (okc QPX (okc QPc (okc QLG (okc QPp (okc QCd (okc QFg (okc QJi (okc QHX (okc QKx (okc QC8 (okc QGP (okc QEI (okc QEf (okc QEo (okc QIj (okc QDl (okc QCl (okc QEY (okc QCh (okc QFD (okc QE0 (okc QJY (okc QD2 (okc QKH (okc QHn (okc QHk (okc QEy (okc QJd (okc QJC (okc QJw (okc QIg (okc QBI (okc QGS (okc QFs (okc QGA (okc QDn (okc QGX (okc QGi (okc QG2 (okc QIR (okc QCD (okc QHm (okc QDs (okc QBQ (okc QI4 (okc QBT (okc QCx (okc QIS (okc QFr (okc QE4 (okc QIv (okc QBu (okc QDu (okc QCt (okc QJ7 (okc QDg (okc QGf (okc QEJ (okc QI5 (okc QKl (okc QG0 (okc QEa (okc QIw (okc QCF (okc QJU (okc QBU (okc QFa (okc QJH (okc QGW (okc QEw (okc QI9 (okc QIN (okc QH5 (okc QEu (okc QCi (okc QHC (okc QGM (okc QEF (okc QI6 (okc QIF (okc QFV (okc QEP (okc QIm (okc QEp (okc QCN (okc QCT (okc QCM (okc QGo (okc QCK (okc QGN (okc QJZ (okc QF2 (okc QJx (okc QJv (okc QCU (okc QKk (okc QE1 (okc QFJ (okc QBK (okc QJA (okc QIG (okc QIV (okc QHV (okc QDw (okc QEk (okc QBZ (okc QF6 (okc QFM (okc QCa (okc QCu (okc QHH (okc QGz (okc QH4 (okc QHg (okc QI1 (okc QIy (okc QGZ (okc QJk (okc QJR (okc QJ5 (okc QIo (okc QJ8 (okc QEr (okc QHF (okc QB0 (okc QCb (okc QHw (okc QBy (okc QE2 (okc QDm (okc QDd (okc QFC (okc QDG (okc QIq (okc QEO (okc QDY (okc QDh (okc QJt (okc QB3 (okc QDr (rfl)))))))))))))))))))))))))))))))))))))))))))))))))))))))))))))))))))))))))))))))))))))))))))))))))))))))))))))))))))))))))))))))))))))))))))))))))))))))))))))))))))))))))))))))))))))))))))))))))))))
end Go.Proofs.YtcdffihcfeajfaaGreat
