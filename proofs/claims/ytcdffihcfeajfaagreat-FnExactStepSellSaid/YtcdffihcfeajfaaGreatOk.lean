import Derived.Test.YtcdffihcfeajfaaGreatEc
import Derived.Test.YtcdffihcfeajfaaGreatEvD
namespace Go.Proofs.YtcdffihcfeajfaaGreat
open Go Go.Proofs Go.Proofs.YtcdffihcfeajfaaGreat.Am
set_option maxRecDepth 100000
theorem okc {P : Program} {g : FuncId} {a : Ann} {l : List (FuncId × Ann)} (h : fOK P g a = true) (t : (l.all fun p => fOK P p.1 p.2) = true) : (((g, a) :: l).all fun p => fOK P p.1 p.2) = true := by rw [List.all_cons, t, Bool.and_true]; exact h
theorem QQt : fOK T.P 10 { ac := [(19, 0), (20, 0), (24, 0)], jn := [(12, (57, 49, 57)), (21, (86, 74, 86)), (32, (115, 107, 115))] } = true := by kernel_rfl
theorem QQV : fOK T.P 13 {} = true := by kernel_rfl
theorem QMx : fOK T.P 15 { lp := [(3, ⟨[0, 3, 4], [.s 3 3], [3], [.s 3 3]⟩)], sh := [.z 3] } = true := by kernel_rfl
theorem QOE : fOK T.P 17 {} = true := by kernel_rfl
theorem QP1 : fOK T.P 18 { lp := [(4, ⟨[0, 1, 5], [], [], []⟩)], rt := ⟨[4], [], [], []⟩ } = true := by kernel_rfl
theorem QLo : fOK T.P 19 { ak := [0], lp := [(2, ⟨[0, 1, 5], [.s 0 3], [0, 1], [.s 0 3]⟩)] } = true := by kernel_rfl
theorem QQL : fOK T.P 20 { ak := [0, 1, 2, 3, 4, 5, 6], ac := [(1, 0), (2, 0), (3, 0), (4, 0), (5, 0), (6, 0), (7, 0)] } = true := by kernel_rfl
theorem QOA : fOK T.P 21 {} = true := by kernel_rfl
theorem QPU : fOK T.P 22 {} = true := by kernel_rfl
theorem QQG : fOK T.P 24 { sh := [.a [0, 8, 3, 3, 5, 4, 5, 4, 0]] } = true := by kernel_rfl
theorem QNk : fOK T.P 34 {} = true := by kernel_rfl
theorem QM3 : fOK T.P 36 {} = true := by kernel_rfl
theorem QP5 : fOK T.P 37 { lp := [(3, ⟨[0, 3, 4], [.s 3 2], [3], [.s 3 2]⟩)], sh := [.z 2] } = true := by kernel_rfl
theorem QLa : fOK T.P 39 { lp := [(4, ⟨[0, 1, 5], [], [], []⟩)], rt := ⟨[4], [], [], []⟩ } = true := by kernel_rfl
theorem QM5 : fOK T.P 40 { ak := [0], lp := [(2, ⟨[0, 1, 5], [.s 0 2], [0, 1], [.s 0 2]⟩)] } = true := by kernel_rfl
theorem QNN : fOK T.P 41 {} = true := by kernel_rfl
theorem QLp : fOK T.P 42 { ot := [(9, .one 0 (.one 1 (.one 2 (.one 3 (.one 4 (.one 5 (.one 6 (.one 7 (.one 8 (.alt (.one 9 (.one 10 (.one 11 (.one 12 (.one 13 (.one 14 (.one 15 (.done)))))))) (.one 13 (.one 9 (.one 10 (.one 11 (.one 12 (.one 14 (.one 15 (.done))))))))))))))))))], av := [(6, [120]), (9, [120]), (10, [92]), (11, [92])], jn := [(3, (50, 27, 50))], sh := [.a [0, 8, 3, 3, 5, 4, 5, 4, 0], .n] } = true := by kernel_rfl
theorem QLk : fOK T.P 43 { lp := [(3, ⟨[0, 3, 4], [.s 3 3], [3], [.s 3 3]⟩)], sh := [.z 3] } = true := by kernel_rfl
theorem QQX : fOK T.P 44 { av := [(11, [100])], jn := [(3, (42, 28, 42)), (9, (80, 68, 80))], sh := [.a [0, 8, 3, 3, 5, 4, 5, 4, 0], .n] } = true := by kernel_rfl
theorem QNO : fOK T.P 45 { lp := [(4, ⟨[0, 1, 5], [], [], []⟩)], rt := ⟨[4], [], [], []⟩ } = true := by kernel_rfl
theorem QMM : fOK T.P 46 { ak := [0], lp := [(2, ⟨[0, 1, 5], [.s 0 3], [0, 1], [.s 0 3]⟩)] } = true := by kernel_rfl
theorem QMu : fOK T.P 59 { ord := [(1, [0, 1, 2, 3, 4, 6, 7, 9, 10, 11, 13, 14, 15, 17, 18, 19, 21, 22, 23, 25, 26, 27, 29, 30, 5, 8, 12, 16, 20, 24, 28, 31, 32])], eb := [(1, [5, 12, 16, 20, 24, 28])], sh := [.a [0, 8, 3, 3, 5, 4, 5, 4, 0]] } = true := by kernel_rfl
theorem QPI : fOK T.P 60 { jn := [(1, (48, 3, 48)), (3, (86, 49, 86)), (5, (2, 87, 93))] } = true := by kernel_rfl
theorem QKK : fOK T.P 62 {} = true := by kernel_rfl
theorem QQp : fOK T.P 63 { sh := [.z 3] } = true := by kernel_rfl
theorem QMX : fOK T.P 64 { ord := [(1, [0, 1, 2, 3, 4, 5, 6, 7, 8, 9, 10, 11, 12, 13, 14, 15, 16, 17, 18, 19, 20, 21, 22, 23, 24, 25, 26, 27, 28, 29, 30, 31, 32, 33, 34, 35, 36, 37, 38, 39, 40, 41, 42, 44, 45, 43, 46, 47, 48, 49, 50, 51, 52, 53])], jn := [(1, (2, 3, 56))] } = true := by kernel_rfl
theorem QLT : fOK T.P 65 { lp := [(4, ⟨[0, 1, 5], [], [], []⟩)], rt := ⟨[4], [], [], []⟩ } = true := by kernel_rfl
theorem QQ7 : fOK T.P 66 { lp := [(4, ⟨[0, 1, 5], [], [], []⟩)], rt := ⟨[4], [], [], []⟩ } = true := by kernel_rfl
theorem QKZ : fOK T.P 67 { lp := [(4, ⟨[0, 1, 5], [], [], []⟩)], rt := ⟨[4], [], [], []⟩ } = true := by kernel_rfl
theorem QLK : fOK T.P 68 { lp := [(4, ⟨[0, 1, 5], [], [], []⟩)], rt := ⟨[4], [], [], []⟩ } = true := by kernel_rfl
theorem QPu : fOK T.P 69 { lp := [(4, ⟨[0, 1, 5], [], [], []⟩)], rt := ⟨[4], [], [], []⟩ } = true := by kernel_rfl
theorem QLR : fOK T.P 70 { lp := [(4, ⟨[0, 1, 5], [], [], []⟩)], rt := ⟨[4], [], [], []⟩ } = true := by kernel_rfl
theorem QMt : fOK T.P 71 {} = true := by kernel_rfl
theorem QO8 : fOK T.P 72 { ak := [0], lp := [(2, ⟨[0, 1, 5], [.s 0 8], [0, 1], [.s 0 8]⟩)] } = true := by kernel_rfl
theorem QLf : fOK T.P 73 { an := [(6, [0, 0, 0, 0])], ak := [0], lp := [(2, ⟨[0, 1, 5], [.s 0 3], [0, 1], [.s 0 3]⟩)] } = true := by kernel_rfl
theorem QP8 : fOK T.P 74 { ak := [0], lp := [(2, ⟨[0, 1, 5], [.s 0 5], [0, 1], [.s 0 5]⟩)] } = true := by kernel_rfl
theorem QKU : fOK T.P 75 { ak := [0], lp := [(2, ⟨[0, 1, 5], [.s 0 4], [0, 1], [.s 0 4]⟩)] } = true := by kernel_rfl
theorem QME : fOK T.P 76 { ak := [0], lp := [(2, ⟨[0, 1, 5], [.s 0 5], [0, 1], [.s 0 5]⟩)] } = true := by kernel_rfl
theorem QL5 : fOK T.P 77 { ak := [0], lp := [(2, ⟨[0, 1, 5], [.s 0 4], [0, 1], [.s 0 4]⟩)] } = true := by kernel_rfl
theorem QO3 : fOK T.P 78 { lp := [(2, ⟨[0, 1, 5], [], [1], []⟩)], rt := ⟨[4], [], [], []⟩ } = true := by kernel_rfl
theorem QNV : fOK T.P 79 { lp := [(2, ⟨[0, 1, 5], [], [1], []⟩)], rt := ⟨[4], [], [], []⟩ } = true := by kernel_rfl
theorem QNS : fOK T.P 80 { lp := [(2, ⟨[0, 1, 5], [], [1], []⟩)], rt := ⟨[4], [], [], []⟩ } = true := by kernel_rfl
theorem QNE : fOK T.P 81 { lp := [(2, ⟨[0, 1, 5], [], [1], []⟩)], rt := ⟨[4], [], [], []⟩ } = true := by kernel_rfl
theorem QOn : fOK T.P 82 { lp := [(2, ⟨[0, 1, 5], [], [1], []⟩)], rt := ⟨[4], [], [], []⟩ } = true := by kernel_rfl
theorem QOB : fOK T.P 83 { lp := [(2, ⟨[0, 1, 5], [], [1], []⟩)], rt := ⟨[4], [], [], []⟩ } = true := by kernel_rfl
theorem QP9 : fOK T.P 84 { lp := [(2, ⟨[0, 1, 5], [], [1], []⟩)], rt := ⟨[4], [], [], []⟩ } = true := by kernel_rfl
theorem QPX : fOK T.P 85 {} = true := by kernel_rfl
theorem QKP : fOK T.P 86 { lp := [(5, ⟨[0, 1, 5], [], [1], []⟩)], rt := ⟨[4], [], [], []⟩ } = true := by kernel_rfl
theorem QNI : fOK T.P 87 {} = true := by kernel_rfl
theorem QPq : fOK T.P 88 {} = true := by kernel_rfl
theorem QPY : fOK T.P 89 {} = true := by kernel_rfl
theorem QLJ : fOK T.P 90 {} = true := by kernel_rfl
theorem QNW : fOK T.P 91 { jn := [(1, (6, 7, 15))] } = true := by kernel_rfl
theorem QMq : fOK T.P 92 { jn := [(1, (19, 8, 19))], sh := [.a [0, 8, 3, 3, 5, 4, 5, 4, 0], .n] } = true := by kernel_rfl
theorem QNJ : fOK T.P 93 { lp := [(3, ⟨[0, 3, 4], [.s 3 8], [3], [.s 3 8]⟩)], sh := [.z 8] } = true := by kernel_rfl
theorem QLV : fOK T.P 94 { lp := [(3, ⟨[0, 3, 4], [.s 3 3], [3], [.s 3 3]⟩)], sh := [.z 3] } = true := by kernel_rfl
theorem QQC : fOK T.P 95 { lp := [(3, ⟨[0, 3, 4], [.s 3 5], [3], [.s 3 5]⟩)], sh := [.z 5] } = true := by kernel_rfl
theorem QPb : fOK T.P 96 { lp := [(3, ⟨[0, 3, 4], [.s 3 4], [3], [.s 3 4]⟩)], sh := [.z 4] } = true := by kernel_rfl
theorem QLh : fOK T.P 97 { lp := [(3, ⟨[0, 3, 4], [.s 3 5], [3], [.s 3 5]⟩)], sh := [.z 5] } = true := by kernel_rfl
theorem QOZ : fOK T.P 98 { lp := [(3, ⟨[0, 3, 4], [.s 3 4], [3], [.s 3 4]⟩)], sh := [.z 4] } = true := by kernel_rfl
theorem QMU : fOK T.P 99 { ord := [(1, [0, 1, 3, 4, 6, 7, 9, 10, 2, 12, 5, 8, 11, 13, 14, 15, 16, 17, 18, 19]), (2, [0, 1, 3, 4, 6, 7, 2, 9, 5, 8, 10, 11, 12, 13, 14])], sh := [.a [0, 8, 3, 3, 5, 4, 5, 4, 0]] } = true := by kernel_rfl
theorem QDH : fOK T.P 100 { jn := [(1, (19, 8, 19))], sh := [.a [0, 8, 3, 3, 5, 4, 5, 4, 0], .n] } = true := by kernel_rfl
theorem QFQ : fOK T.P 101 { jn := [(1, (6, 7, 15))] } = true := by kernel_rfl
theorem QDR : fOK T.P 103 { sh := [.z 2] } = true := by kernel_rfl
theorem QH7 : fOK T.P 105 { jn := [(1, (5, 6, 19)), (3, (19, 20, 30))] } = true := by kernel_rfl
theorem QDr : fOK T.P 107 { sh := [.z 2] } = true := by kernel_rfl
theorem QEM : fOK T.P 109 { jn := [(1, (5, 6, 19)), (3, (19, 20, 30))] } = true := by kernel_rfl
theorem QFu : fOK T.P 112 { jn := [(4, (22, 12, 22))], lp := [(2, ⟨[0, 1, 5], [], [], []⟩)], rt := ⟨[4], [], [], []⟩ } = true := by kernel_rfl
theorem QDA : fOK T.P 114 {} = true := by kernel_rfl
theorem QD9 : fOK T.P 116 { jn := [(5, (44, 13, 44))], lp := [(3, ⟨[0, 1, 5, 6], [], [0, 5], []⟩)] } = true := by kernel_rfl
theorem QFA : fOK T.P 117 { lp := [(2, ⟨[0, 1, 5], [], [], []⟩)], rt := ⟨[4], [], [], []⟩ } = true := by kernel_rfl
theorem QCo : fOK T.P 118 { sh := [.a [0, 8, 3, 3, 5, 4, 5, 4, 0], .n] } = true := by kernel_rfl
theorem QDG : fOK T.P 120 { sh := [.a [0, 8, 3, 3, 5, 4, 5, 4, 0], .n] } = true := by kernel_rfl
theorem QI4 : fOK T.P 122 { jn := [(2, (24, 11, 24))] } = true := by kernel_rfl
theorem QD6 : fOK T.P 123 { jn := [(6, (35, 16, 35))], lp := [(4, ⟨[1, 5, 6, 10, 11, 12], [.s 5 0], [5], [.s 5 0]⟩)] } = true := by kernel_rfl
theorem QDV : fOK T.P 124 { sh := [.a [0, 8, 3, 3, 5, 4, 5, 4, 0], .n] } = true := by kernel_rfl
theorem QKw : fOK T.P 126 { ot := [(1, .one 0 (.one 2 (.alt (.one 1 (.one 3 (.one 4 (.one 5 (.done))))) (.one 3 (.one 1 (.one 4 (.one 5 (.done))))))))], sh := [.z 4, .n] } = true := by kernel_rfl
theorem QG9 : fOK T.P 127 { jn := [(6, (36, 20, 36)), (10, (42, 43, 53))], lp := [(4, ⟨[1, 2, 3, 7], [.s 3 0], [2, 3], [.s 3 0]⟩)], rt := ⟨[6], [], [], []⟩ } = true := by kernel_rfl
theorem QKg : fOK T.P 128 { jn := [(4, (16, 17, 26)), (6, (26, 27, 35)), (8, (35, 36, 44))] } = true := by kernel_rfl
theorem QB4 : fOK T.P 132 { ot := [(5, .one 1 (.alt (.one 0 (.alt (.one 2 (.one 3 (.one 4 (.one 5 (.one 6 (.done)))))) (.one 3 (.alt (.one 2 (.one 4 (.one 5 (.one 6 (.done))))) (.one 4 (.one 2 (.one 5 (.one 6 (.done))))))))) (.one 3 (.alt (.one 0 (.alt (.one 2 (.one 4 (.one 5 (.one 6 (.done))))) (.one 4 (.one 2 (.one 5 (.one 6 (.done))))))) (.one 4 (.one 0 (.one 2 (.one 5 (.one 6 (.done))))))))))], sh := [.z 5, .n] } = true := by kernel_rfl
theorem QIW : fOK T.P 133 {} = true := by kernel_rfl
theorem QFT : fOK T.P 134 {} = true := by kernel_rfl
theorem QBD : fOK T.P 138 { ot := [(5, .one 0 (.one 2 (.alt (.one 1 (.one 3 (.one 4 (.one 5 (.done))))) (.one 3 (.one 1 (.one 4 (.one 5 (.done))))))))], sh := [.z 5, .n] } = true := by kernel_rfl
theorem QC2 : fOK T.P 139 {} = true := by kernel_rfl
theorem QEa : fOK T.P 140 { jn := [(1, (12, 5, 12))] } = true := by kernel_rfl
theorem QEJ : fOK T.P 141 { sh := [.z 2] } = true := by kernel_rfl
theorem QJq : fOK T.P 142 {} = true := by kernel_rfl
theorem QIl : fOK T.P 143 { jn := [(1, (12, 5, 12))] } = true := by kernel_rfl
theorem QGY : fOK T.P 144 { sh := [.z 2] } = true := by kernel_rfl
theorem QEV : fOK T.P 145 {} = true := by kernel_rfl
theorem QD5 : fOK T.P 146 {} = true := by kernel_rfl
theorem QBx : fOK T.P 147 { ord := [(5, [0, 1, 2, 3, 4, 5, 6, 7, 8, 9, 10, 11, 13, 14, 15, 16, 17, 12, 18, 19, 20, 21])], eb := [(5, [18])], lp := [(3, ⟨[0, 3, 4], [.s 3 3], [3], [.s 3 3]⟩)], sh := [.z 3] } = true := by kernel_rfl
theorem QHC : fOK T.P 148 { jn := [(4, (35, 10, 35))], lp := [(2, ⟨[0, 3], [], [0], []⟩)], rt := ⟨[2], [], [], []⟩ } = true := by kernel_rfl
theorem QCV : fOK T.P 149 { jn := [(4, (61, 10, 61))], lp := [(2, ⟨[0, 3], [], [0], []⟩)], rt := ⟨[2], [], [], []⟩ } = true := by kernel_rfl
theorem QCl : fOK T.P 150 { jn := [(4, (53, 11, 53)), (9, (77, 59, 77))], lp := [(2, ⟨[0, 3], [], [0], []⟩), (7, ⟨[0, 3, 4], [], [0, 3], []⟩)], rt := ⟨[2], [], [], []⟩ } = true := by kernel_rfl
theorem QG1 : fOK T.P 151 { jn := [(5, (58, 16, 58)), (10, (84, 64, 84))], lp := [(2, ⟨[0, 3], [], [0], []⟩), (8, ⟨[0, 3, 4, 5], [.s 4 0], [0, 3], []⟩)], rt := ⟨[2], [], [], []⟩ } = true := by kernel_rfl
theorem QEQ : fOK T.P 152 { jn := [(3, (15, 7, 15)), (7, (67, 25, 67)), (10, (96, 73, 96))], lp := [(3, ⟨[0, 3, 4], [], [0], []⟩)], rt := ⟨[2], [], [], []⟩ } = true := by kernel_rfl
theorem QFc : fOK T.P 153 { jn := [(5, (58, 15, 58))], lp := [(2, ⟨[0, 3], [], [0], []⟩)], rt := ⟨[2], [], [], []⟩ } = true := by kernel_rfl
theorem QEu : fOK T.P 154 { ord := [(13, [0, 1, 2, 3, 4, 5, 6, 7, 8, 9, 10, 11, 14, 15, 12, 13, 16, 17, 18, 19, 20, 21, 22, 23, 24, 25, 26, 27, 28, 29])], jn := [(13, (77, 48, 77)), (18, (103, 85, 103))], lp := [(5, ⟨[1, 3, 4], [.s 1 0, .s 3 1], [1, 3], [.s 1 0, .s 3 1]⟩), (10, ⟨[1, 3, 5], [.s 1 0, .s 3 1], [1], [.s 1 0]⟩), (16, ⟨[1, 7], [.s 1 0], [], []⟩)], rt := ⟨[2], [], [], []⟩ } = true := by kernel_rfl
theorem QF3 : fOK T.P 155 { ord := [(8, [0, 1, 2, 3, 4, 5, 6, 7, 8, 9, 10, 11, 12, 13, 14, 15, 16, 17, 18, 19, 20, 21, 22, 23, 24, 25, 26, 27, 28, 29, 30, 32, 33, 34, 35, 36, 38, 31, 37, 39, 40, 41, 42, 43, 44, 45, 46, 47])], jn := [(8, (77, 30, 77))], lp := [(4, ⟨[1, 3], [.s 1 0], [], []⟩)], rt := ⟨[2], [], [], []⟩ } = true := by kernel_rfl
theorem QGy : fOK T.P 156 { jn := [(6, (34, 15, 34))], lp := [(4, ⟨[0, 8, 9, 10], [], [], []⟩)], rt := ⟨[2], [], [], []⟩ } = true := by kernel_rfl
theorem QCm : fOK T.P 157 { jn := [(6, (51, 15, 51))], lp := [(4, ⟨[0, 8, 9, 10], [], [], []⟩)], rt := ⟨[2], [], [], []⟩ } = true := by kernel_rfl
theorem QJe : fOK T.P 158 { jn := [(6, (54, 15, 54))], lp := [(4, ⟨[0, 8, 9, 10], [], [], []⟩)], rt := ⟨[2], [], [], []⟩ } = true := by kernel_rfl
theorem QF5 : fOK T.P 159 { jn := [(6, (59, 17, 59)), (11, (82, 68, 82))], lp := [(4, ⟨[0, 10, 11, 12], [], [], []⟩), (9, ⟨[0, 4, 10, 11, 12, 62, 63, 64], [.s 4 0], [0, 10, 11, 12], []⟩)], rt := ⟨[2], [], [], []⟩ } = true := by kernel_rfl
theorem QBE : fOK T.P 160 { jn := [(7, (61, 17, 61)), (13, (83, 73, 83))], lp := [(5, ⟨[0, 3, 10, 11, 12], [], [], []⟩)], rt := ⟨[2], [], [], []⟩ } = true := by kernel_rfl
theorem QB8 : fOK T.P 161 { jn := [(6, (58, 15, 58))], lp := [(4, ⟨[0, 8, 9, 10], [], [], []⟩)], rt := ⟨[2], [], [], []⟩ } = true := by kernel_rfl
theorem QFE : fOK T.P 162 { ord := [(7, [0, 1, 2, 3, 4, 5, 6, 7, 8, 9, 10, 11, 12, 13, 14, 15, 18, 19, 20, 21, 16, 17, 22, 23, 24])], jn := [(7, (54, 30, 54)), (13, (73, 63, 73))], lp := [(5, ⟨[1, 3, 23, 24, 25], [.s 1 0, .s 3 1], [1, 3], [.s 1 0, .s 3 1]⟩), (11, ⟨[1, 3, 57, 58, 59], [.s 1 0, .s 3 1], [1, 3], [.s 1 0, .s 3 1]⟩), (17, ⟨[1, 75, 76, 77], [.s 1 0, .s 75 1], [], []⟩)], rt := ⟨[2], [], [], []⟩ } = true := by kernel_rfl
theorem QHc : fOK T.P 163 { ord := [(7, [0, 1, 2, 3, 4, 5, 6, 7, 8, 9, 10, 11, 12, 13, 14, 15, 16, 17, 18, 19, 20, 21, 22, 24, 26, 27, 23, 25, 28, 29, 30])], jn := [(7, (56, 26, 56))], lp := [(4, ⟨[1, 14, 15, 16], [.s 1 0], [], []⟩)], rt := ⟨[2], [], [], []⟩ } = true := by kernel_rfl
theorem QB0 : fOK T.P 164 { lp := [(3, ⟨[1, 3, 13, 14, 15], [.s 1 0], [1, 3], [.s 1 0]⟩), (8, ⟨[1, 3, 25, 26, 27], [.s 1 0], [1, 3], [.s 1 0]⟩), (13, ⟨[1, 3, 37, 38, 39], [.s 1 0], [1, 3], [.s 1 0]⟩), (18, ⟨[3, 49, 50, 51], [], [3], []⟩)] } = true := by kernel_rfl
theorem QBp : fOK T.P 165 {} = true := by kernel_rfl
theorem QIn : fOK T.P 166 {} = true := by kernel_rfl
theorem QHt : fOK T.P 167 {} = true := by kernel_rfl
theorem QCN : fOK T.P 168 {} = true := by kernel_rfl
theorem QId : fOK T.P 169 {} = true := by kernel_rfl
theorem QHi : fOK T.P 170 { lp := [(2, ⟨[0, 1, 5], [], [1], []⟩)], rt := ⟨[4], [], [], []⟩ } = true := by kernel_rfl
theorem QGf : fOK T.P 171 {} = true := by kernel_rfl
theorem QJf : fOK T.P 172 { sh := [.a [0, 2, 0]] } = true := by kernel_rfl
theorem QG5 : fOK T.P 173 {} = true := by kernel_rfl
theorem QGR : fOK T.P 174 {} = true := by kernel_rfl
theorem QJM : fOK T.P 175 {} = true := by kernel_rfl
theorem QDj : fOK T.P 176 {} = true := by kernel_rfl
theorem QCQ : fOK T.P 177 { sh := [.z 8] } = true := by kernel_rfl
theorem QFD : fOK T.P 178 { lp := [(3, ⟨[3, 7, 8, 9], [.s 3 3], [3], [.s 3 3]⟩)], sh := [.z 3] } = true := by kernel_rfl
theorem QHf : fOK T.P 179 { sh := [.z 5] } = true := by kernel_rfl
theorem QJE : fOK T.P 180 { sh := [.z 4] } = true := by kernel_rfl
theorem QGL : fOK T.P 181 { sh := [.z 5] } = true := by kernel_rfl
theorem QKt : fOK T.P 182 { sh := [.z 4] } = true := by kernel_rfl
theorem QBA : fOK T.P 183 {} = true := by kernel_rfl
theorem QGA : fOK T.P 184 { lp := [(2, ⟨[0, 1, 5], [], [], []⟩)], rt := ⟨[4], [], [], []⟩ } = true := by kernel_rfl
theorem QD4 : fOK T.P 187 { jn := [(1, (2, 3, 26))] } = true := by kernel_rfl
theorem QKv : fOK T.P 188 { jn := [(4, (43, 10, 43))], lp := [(2, ⟨[0, 3], [], [0], []⟩)], rt := ⟨[2], [], [], []⟩ } = true := by kernel_rfl
theorem QD7 : fOK T.P 189 {} = true := by kernel_rfl
theorem QCs : fOK T.P 190 { lp := [(2, ⟨[0, 1, 7, 8], [], [], []⟩)], rt := ⟨[4], [], [], []⟩ } = true := by kernel_rfl
theorem QCH : fOK T.P 192 {} = true := by kernel_rfl
theorem QIy : fOK T.P 193 { sh := [.z 2] } = true := by kernel_rfl
theorem QF0 : fOK T.P 196 { jn := [(1, (2, 3, 26))] } = true := by kernel_rfl
theorem QIR : fOK T.P 197 { jn := [(6, (39, 15, 39))], lp := [(4, ⟨[0, 8, 9, 10], [], [], []⟩)], rt := ⟨[2], [], [], []⟩ } = true := by kernel_rfl
theorem QGZ : fOK T.P 198 {} = true := by kernel_rfl
theorem QIQ : fOK T.P 199 {} = true := by kernel_rfl
theorem QCX : fOK T.P 202 { lp := [(2, ⟨[0, 1, 7, 8], [], [], []⟩)], rt := ⟨[4], [], [], []⟩ } = true := by kernel_rfl
theorem QCi : fOK T.P 203 {} = true := by kernel_rfl
theorem QGH : fOK T.P 206 { jn := [(3, (21, 15, 21))], lp := [(6, ⟨[6, 7, 8], [.s 6 3], [6], [.s 6 3]⟩)], sh := [.z 3, .n] } = true := by kernel_rfl
theorem QDT : fOK T.P 207 { ot := [(1, .one 1 (.alt (.one 0 (.alt (.one 2 (.one 3 (.one 4 (.one 5 (.one 6 (.done)))))) (.one 3 (.alt (.one 2 (.one 4 (.one 5 (.one 6 (.done))))) (.one 4 (.one 2 (.one 5 (.one 6 (.done))))))))) (.one 3 (.alt (.one 0 (.alt (.one 2 (.one 4 (.one 5 (.one 6 (.done))))) (.one 4 (.one 2 (.one 5 (.one 6 (.done))))))) (.one 4 (.one 0 (.one 2 (.one 5 (.one 6 (.done))))))))))], sh := [.z 4, .n] } = true := by kernel_rfl
theorem QKz : fOK T.P 208 { jn := [(1, (2, 3, 26))] } = true := by kernel_rfl
theorem QJv : fOK T.P 209 {} = true := by kernel_rfl
theorem QGh : fOK T.P 210 {} = true := by kernel_rfl
theorem QBr : fOK T.P 211 { jn := [(3, (19, 13, 19))], sh := [.z 3, .n] } = true := by kernel_rfl
theorem QG0 : fOK T.P 212 { jn := [(1, (2, 3, 26))] } = true := by kernel_rfl
theorem QHh : fOK T.P 213 { jn := [(1, (4, 5, 13))] } = true := by kernel_rfl
theorem QFS : fOK T.P 214 { jn := [(1, (4, 5, 13))] } = true := by kernel_rfl
theorem QEW : fOK T.P 215 { jn := [(1, (3, 4, 14))] } = true := by kernel_rfl
theorem QEb : fOK T.P 217 {} = true := by kernel_rfl
theorem QHd : fOK T.P 221 {} = true := by kernel_rfl
theorem QF7 : fOK T.P 222 { jn := [(4, (26, 11, 26))], lp := [(2, ⟨[0, 3], [], [0], []⟩), (7, ⟨[0, 3, 4], [], [0, 3], []⟩)], rt := ⟨[2], [], [], []⟩ } = true := by kernel_rfl
theorem QCY : fOK T.P 223 { ot := [(8, .one 1 (.one 2 (.one 3 (.one 5 (.one 6 (.one 11 (.one 12 (.one 13 (.alt (.one 0 (.alt (.one 4 (.one 7 (.one 8 (.one 9 (.one 10 (.one 14 (.one 15 (.done)))))))) (.one 7 (.alt (.one 4 (.one 8 (.one 9 (.one 10 (.one 14 (.one 15 (.done))))))) (.one 8 (.alt (.one 4 (.one 9 (.one 10 (.one 14 (.one 15 (.done)))))) (.one 9 (.one 4 (.one 10 (.one 14 (.one 15 (.done)))))))))))) (.one 7 (.alt (.one 0 (.alt (.one 4 (.one 8 (.one 9 (.one 10 (.one 14 (.one 15 (.done))))))) (.one 8 (.alt (.one 4 (.one 9 (.one 10 (.one 14 (.one 15 (.done)))))) (.one 9 (.one 4 (.one 10 (.one 14 (.one 15 (.done)))))))))) (.one 8 (.alt (.one 0 (.alt (.one 4 (.one 9 (.one 10 (.one 14 (.one 15 (.done)))))) (.one 9 (.one 4 (.one 10 (.one 14 (.one 15 (.done)))))))) (.one 9 (.one 0 (.one 4 (.one 10 (.one 14 (.one 15 (.done))))))))))))))))))))], fz := [(8, [3])], jn := [(6, (30, 15, 30))], lp := [(3, ⟨[0, 3, 4], [.s 3 3], [3], [.s 3 3]⟩), (6, ⟨[0, 3, 4, 5], [.s 3 3], [0, 3, 4, 5], [.s 3 3]⟩)], sh := [.z 3] } = true := by kernel_rfl
theorem QHT : fOK T.P 224 { jn := [(9, (43, 31, 43))], lp := [(4, ⟨[0, 1, 5, 6, 7], [.s 5 1], [0, 1, 5, 6], [.s 5 1]⟩), (13, ⟨[0, 1, 5, 6, 8, 9], [.s 5 1], [5, 8], [.s 5 1]⟩), (18, ⟨[5, 8, 10], [.s 5 1], [5], [.s 5 1]⟩)], rt := ⟨[4], [.s 4 1], [], []⟩, sh := [.z 1] } = true := by kernel_rfl
theorem QBs : fOK T.P 225 { jn := [(6, (24, 15, 24))], lp := [(4, ⟨[0, 8, 9, 10], [], [], []⟩)], rt := ⟨[2], [], [], []⟩ } = true := by kernel_rfl
theorem QEd : fOK T.P 226 { ac := [(2, 0)], sh := [.z 3] } = true := by kernel_rfl
theorem QH1 : fOK T.P 227 { jn := [(2, (23, 15, 23))], lp := [(6, ⟨[0, 1, 5, 6, 25, 26, 27], [.s 5 1], [0, 1, 5, 6], [.s 5 1]⟩), (16, ⟨[0, 5, 6, 9, 43, 44, 45], [.s 5 1], [5, 9], [.s 5 1]⟩), (23, ⟨[5, 9, 13], [.s 5 1], [5], [.s 5 1]⟩)], rt := ⟨[4], [.s 4 1], [], []⟩, sh := [.z 1] } = true := by kernel_rfl
theorem QHU : fOK T.P 228 {} = true := by kernel_rfl
theorem QJF : fOK T.P 229 { jn := [(1, (2, 3, 21))] } = true := by kernel_rfl
theorem QKr : fOK T.P 230 { lp := [(3, ⟨[0, 1, 2, 7, 8], [], [7], []⟩)] } = true := by kernel_rfl
theorem QC3 : fOK T.P 231 { jn := [(3, (16, 9, 16)), (6, (42, 28, 42))], lp := [(3, ⟨[0, 1, 5, 6], [.s 5 1], [5], [.s 5 1]⟩)], sh := [.z 1] } = true := by kernel_rfl
theorem QCO : fOK T.P 232 { lp := [(2, ⟨[0, 1, 5], [], [], []⟩)], rt := ⟨[4], [], [], []⟩ } = true := by kernel_rfl
theorem QFR : fOK T.P 233 { jn := [(1, (2, 3, 21))] } = true := by kernel_rfl
theorem QDq : fOK T.P 234 {} = true := by kernel_rfl
theorem QEK : fOK T.P 235 { lp := [(2, ⟨[0, 1, 5], [], [], []⟩)], rt := ⟨[4], [], [], []⟩ } = true := by kernel_rfl
theorem QHM : fOK T.P 236 { ac := [(10, 0)], jn := [(7, (36, 20, 36))], lp := [(5, ⟨[0, 1, 5, 13, 14, 15], [.s 5 1], [5], [.s 5 1]⟩)], sh := [.z 1] } = true := by kernel_rfl
theorem QFs : fOK T.P 237 {} = true := by kernel_rfl
theorem QJg : fOK T.P 238 {} = true := by kernel_rfl
theorem QBP : fOK T.P 239 { lp := [(2, ⟨[0, 1, 7, 8], [], [], []⟩)], rt := ⟨[4], [], [], []⟩ } = true := by kernel_rfl
theorem QIa : fOK T.P 241 { lp := [(2, ⟨[0, 1, 7, 8], [], [], []⟩)], rt := ⟨[4], [], [], []⟩ } = true := by kernel_rfl
theorem QEz : fOK T.P 242 {} = true := by kernel_rfl
theorem QHH : fOK T.P 247 { lp := [(2, ⟨[0, 1, 7, 8], [], [], []⟩)], rt := ⟨[4], [], [], []⟩ } = true := by kernel_rfl
theorem QIS : fOK T.P 248 {} = true := by kernel_rfl
theorem QBu : fOK T.P 249 {} = true := by kernel_rfl
theorem QG7 : fOK T.P 250 {} = true := by kernel_rfl
theorem QBT : fOK T.P 251 { lp := [(3, ⟨[0, 3, 4], [], [3], []⟩)] } = true := by kernel_rfl
theorem QHV : fOK T.P 256 { lp := [(3, ⟨[3, 6, 7, 8], [], [3], []⟩)] } = true := by kernel_rfl
theorem QIc : fOK T.P 257 { jn := [(1, (2, 3, 11))] } = true := by kernel_rfl
theorem QKx : fOK T.P 258 {} = true := by kernel_rfl
theorem QET : fOK T.P 259 {} = true := by kernel_rfl
theorem QD1 : fOK T.P 260 { sh := [.z 3] } = true := by kernel_rfl
theorem QFL : fOK T.P 261 { ak := [0], ac := [(0, 0)] } = true := by kernel_rfl
theorem QFz : fOK T.P 262 {} = true := by kernel_rfl
theorem QH5 : fOK T.P 263 {} = true := by kernel_rfl
theorem QHz : fOK T.P 264 { ot := [(6, .one 1 (.one 2 (.one 3 (.one 5 (.one 8 (.one 9 (.one 10 (.alt (.one 0 (.alt (.one 4 (.one 6 (.one 7 (.one 11 (.one 12 (.done)))))) (.one 6 (.one 4 (.one 7 (.one 11 (.one 12 (.done)))))))) (.one 6 (.one 0 (.one 4 (.one 7 (.one 11 (.one 12 (.done)))))))))))))))], jn := [(2, (17, 6, 17)), (4, (31, 20, 31))], lp := [(2, ⟨[0, 1, 5], [], [0, 1, 5], []⟩)], sh := [.z 1] } = true := by kernel_rfl
theorem QIJ : fOK T.P 266 { lp := [(2, ⟨[0, 1, 7, 8], [], [], []⟩)], rt := ⟨[4], [], [], []⟩ } = true := by kernel_rfl
theorem QDF : fOK T.P 267 {} = true := by kernel_rfl
theorem QHm : fOK T.P 270 { jn := [(5, (10, 11, 17))] } = true := by kernel_rfl
theorem QDN : fOK T.P 271 {} = true := by kernel_rfl
theorem QE2 : fOK T.P 274 {} = true := by kernel_rfl
theorem QDo : fOK T.P 275 { lp := [(2, ⟨[0, 1, 7, 8], [], [], []⟩)], rt := ⟨[4], [], [], []⟩ } = true := by kernel_rfl
theorem QHX : fOK T.P 276 { ak := [0], ac := [(3, 0), (6, 0)], lp := [(2, ⟨[0, 1, 2, 6, 7, 8], [.s 0 3], [0, 1, 2, 6, 7], [.s 0 3]⟩), (7, ⟨[0, 1, 2, 6], [.s 0 3], [0], [.s 0 3]⟩), (9, ⟨[0, 1, 2, 6, 7, 8], [.s 0 3], [0, 1, 2, 6, 7], [.s 0 3]⟩)] } = true := by kernel_rfl
theorem QEo : fOK T.P 277 {} = true := by kernel_rfl
theorem QDQ : fOK T.P 283 {} = true := by kernel_rfl
theorem QJd : fOK T.P 284 { ak := [0], jn := [(4, (34, 18, 34))], lp := [(1, ⟨[0, 1, 2, 3, 8], [.s 0 3], [0], [.s 0 3]⟩), (4, ⟨[0, 1, 2, 3, 8, 9], [.s 0 3], [0, 1, 2, 3, 8], [.s 0 3]⟩)] } = true := by kernel_rfl
theorem QKR : T.ok = true := by
 unfold Tld.ok
 exact okc QQt (okc QQV (okc QMx (okc QOE (okc QP1 (okc QLo (okc QQL (okc QOA (okc QPU (okc QQG (okc QNk (okc QM3 (okc QP5 (okc QLa (okc QM5 (okc QNN (okc QLp (okc QLk (okc QQX (okc QNO (okc QMM (okc QMu (okc QPI (okc QKK (okc QQp (okc QMX (okc QLT (okc QQ7 (okc QKZ (okc QLK (okc QPu (okc QLR (okc QMt (okc QO8 (okc QLf (okc QP8 (okc QKU (okc QME (okc QL5 (okc QO3 (okc QNV (okc QNS (okc QNE (okc QOn (okc QOB (okc QP9 (okc QPX (okc QKP (okc QNI (okc QPq (okc QPY (okc QLJ (okc QNW (okc QMq (okc QNJ (okc QLV (okc QQC (okc QPb (okc QLh (okc QOZ (okc QMU (okc QDH (okc QFQ (okc QDR (okc QH7 (okc QDr (okc QEM (okc QFu (okc QDA (okc QD9 (okc QFA (okc QCo (okc QDG (okc QI4 (okc QD6 (okc QDV (okc QKw (okc QG9 (okc QKg (okc QB4 (okc QIW (okc QFT (okc QBD (okc QC2 (okc QEa (okc QEJ (okc QJq (okc QIl (okc QGY (okc QEV (okc QD5 (okc QBx (okc QHC (okc QCV (okc QCl (okc QG1 (okc QEQ (okc QFc (okc QEu (okc QF3 (okc QGy (okc QCm (okc QJe (okc QF5 (okc QBE (okc QB8 (okc QFE (okc QHc (okc QB0 (okc QBp (okc QIn (okc QHt (okc QCN (okc QId (okc QHi (okc QGf (okc QJf (okc QG5 (okc QGR (okc QJM (okc QDj (okc QCQ (okc QFD (okc QHf (okc QJE (okc QGL (okc QKt (okc QBA (okc QGA (okc QD4 (okc QKv (okc QD7 (okc QCs (okc QCH (okc QIy (okc QF0 (okc QIR (okc QGZ (okc QIQ (okc QCX (okc QCi (okc QGH (okc QDT (okc QKz (okc QJv (okc QGh (okc QBr (okc QG0 (okc QHh (okc QFS (okc QEW (okc QEb (okc QHd (okc QF7 (okc QCY (okc QHT (okc QBs (okc QEd (okc QH1 (okc QHU (okc QJF (okc QKr (okc QC3 (okc QCO (okc QFR (okc QDq (okc QEK (okc QHM (okc QFs (okc QJg (okc QBP (okc QIa (okc QEz (okc QHH (okc QIS (okc QBu (okc QG7 (okc QBT (okc QHV (okc QIc (okc QKx (okc QET (okc QD1 (okc QFL (okc QFz (okc QH5 (okc QHz (okc QIJ (okc QDF (okc QHm (okc QDN (okc QE2 (okc QDo (okc QHX (okc QEo (okc QDQ (okc QJd (rfl)))))))))))))))))))))))))))))))))))))))))))))))))))))))))))))))))))))))))))))))))))))))))))))))))))))))))))))))))))))))))))))))))))))))))))))))))))))))))))))))))))))))))))))))))))))))))))))))))))))
end Go.Proofs.YtcdffihcfeajfaaGreat
