/- What is told of each function passes its check, one by one. No condition. -/
import Derived.Test.YtcdffihcfeajfaaGreatEc
import Derived.Test.YtcdffihcfeajfaaGreatEvD
namespace Go.Proofs.YtcdffihcfeajfaaGreat
open Go Go.Proofs Go.Proofs.YtcdffihcfeajfaaGreat.Am
set_option maxRecDepth 100000
theorem okc {P : Program} {g : FuncId} {a : Ann} {l : List (FuncId × Ann)} (h : fOK P g a = true) (t : (l.all fun p => fOK P p.1 p.2) = true) : (((g, a) :: l).all fun p => fOK P p.1 p.2) = true := by rw [List.all_cons, t, Bool.and_true]; exact h
theorem ok6 : fOK T.P 6 { ac := [(13, 0), (17, 0)], jn := [(8, (52, 44, 52)), (14, (73, 61, 73)), (25, (102, 94, 102))] } = true := by kernel_rfl
theorem ok13 : fOK T.P 13 {} = true := by kernel_rfl
theorem ok15 : fOK T.P 15 { lp := [(3, ⟨[0, 3, 4], [.s 3 3], [3], [.s 3 3]⟩)], sh := [.z 3] } = true := by kernel_rfl
theorem ok17 : fOK T.P 17 {} = true := by kernel_rfl
theorem ok18 : fOK T.P 18 { lp := [(4, ⟨[0, 1, 5], [], [], []⟩)], rt := ⟨[4], [], [], []⟩ } = true := by kernel_rfl
theorem ok19 : fOK T.P 19 { ak := [0], lp := [(2, ⟨[0, 1, 5], [.s 0 3], [0, 1], [.s 0 3]⟩)] } = true := by kernel_rfl
theorem ok20 : fOK T.P 20 { ak := [0, 1, 2, 3, 4, 5, 6], ac := [(1, 0), (2, 0), (3, 0), (4, 0), (5, 0), (6, 0), (7, 0)] } = true := by kernel_rfl
theorem ok21 : fOK T.P 21 {} = true := by kernel_rfl
theorem ok22 : fOK T.P 22 {} = true := by kernel_rfl
theorem ok24 : fOK T.P 24 { sh := [.a [0, 8, 3, 3, 5, 4, 5, 4, 0]] } = true := by kernel_rfl
theorem ok28 : fOK T.P 28 { ot := [(7, .one 0 (.one 1 (.one 2 (.one 3 (.one 4 (.one 6 (.one 7 (.one 12 (.alt (.one 5 (.alt (.one 8 (.alt (.one 9 (.one 10 (.one 11 (.one 13 (.one 14 (.one 15 (.one 16 (.done)))))))) (.one 10 (.alt (.one 9 (.one 11 (.one 13 (.one 14 (.one 15 (.one 16 (.done))))))) (.one 11 (.one 13 (.one 9 (.one 14 (.one 15 (.one 16 (.done))))))))))) (.one 10 (.alt (.one 8 (.alt (.one 9 (.one 11 (.one 13 (.one 14 (.one 15 (.one 16 (.done))))))) (.one 11 (.one 13 (.one 9 (.one 14 (.one 15 (.one 16 (.done))))))))) (.one 11 (.one 13 (.one 8 (.one 9 (.one 14 (.one 15 (.one 16 (.done)))))))))))) (.alt (.one 8 (.alt (.one 5 (.alt (.one 9 (.one 10 (.one 11 (.one 13 (.one 14 (.one 15 (.one 16 (.done)))))))) (.one 10 (.alt (.one 9 (.one 11 (.one 13 (.one 14 (.one 15 (.one 16 (.done))))))) (.one 11 (.one 13 (.one 9 (.one 14 (.one 15 (.one 16 (.done))))))))))) (.one 10 (.alt (.one 5 (.alt (.one 9 (.one 11 (.one 13 (.one 14 (.one 15 (.one 16 (.done))))))) (.one 11 (.one 13 (.one 9 (.one 14 (.one 15 (.one 16 (.done))))))))) (.one 11 (.one 13 (.one 5 (.one 9 (.one 14 (.one 15 (.one 16 (.done)))))))))))) (.one 10 (.alt (.one 5 (.alt (.one 8 (.alt (.one 9 (.one 11 (.one 13 (.one 14 (.one 15 (.one 16 (.done))))))) (.one 11 (.one 13 (.one 9 (.one 14 (.one 15 (.one 16 (.done))))))))) (.one 11 (.one 13 (.one 8 (.one 9 (.one 14 (.one 15 (.one 16 (.done)))))))))) (.alt (.one 8 (.alt (.one 5 (.alt (.one 9 (.one 11 (.one 13 (.one 14 (.one 15 (.one 16 (.done))))))) (.one 11 (.one 13 (.one 9 (.one 14 (.one 15 (.one 16 (.done))))))))) (.one 11 (.one 13 (.one 5 (.one 9 (.one 14 (.one 15 (.one 16 (.done)))))))))) (.one 11 (.one 13 (.alt (.one 5 (.one 8 (.one 9 (.one 14 (.one 15 (.one 16 (.done))))))) (.one 8 (.one 5 (.one 9 (.one 14 (.one 15 (.one 16 (.done)))))))))))))))))))))))], eb := [(7, [47])], av := [(8, [92])], jn := [(5, (44, 30, 44))], lp := [(5, ⟨[1, 3, 4, 8, 10, 12, 13], [.s 4 0, .s 8 0, .s 10 0, .c 2 1 8, .c 2 2 3, .c 2 3 3, .c 2 4 5, .c 2 5 4, .c 2 6 5, .c 2 7 4], [1, 3, 4, 8, 10, 12, 13], [.s 4 0, .s 8 0, .s 10 0, .c 2 1 8, .c 2 2 3, .c 2 3 3, .c 2 4 5, .c 2 5 4, .c 2 6 5, .c 2 7 4]⟩)], sh := [.a [0, 8, 3, 3, 5, 4, 5, 4, 0], .n] } = true := by kernel_rfl
theorem ok29 : fOK T.P 29 { ot := [(5, .one 0 (.one 1 (.one 2 (.one 3 (.one 4 (.one 6 (.one 7 (.alt (.one 5 (.one 8 (.one 9 (.one 10 (.one 11 (.done)))))) (.one 8 (.one 5 (.one 9 (.one 10 (.one 11 (.done))))))))))))))], av := [(5, [115]), (6, [100])], jn := [(3, (40, 27, 40))], sh := [.a [0, 8, 3, 3, 5, 4, 5, 4, 0], .n] } = true := by kernel_rfl
theorem ok34 : fOK T.P 34 {} = true := by kernel_rfl
theorem ok36 : fOK T.P 36 {} = true := by kernel_rfl
theorem ok37 : fOK T.P 37 { lp := [(3, ⟨[0, 3, 4], [.s 3 2], [3], [.s 3 2]⟩)], sh := [.z 2] } = true := by kernel_rfl
theorem ok39 : fOK T.P 39 { lp := [(4, ⟨[0, 1, 5], [], [], []⟩)], rt := ⟨[4], [], [], []⟩ } = true := by kernel_rfl
theorem ok40 : fOK T.P 40 { ak := [0], lp := [(2, ⟨[0, 1, 5], [.s 0 2], [0, 1], [.s 0 2]⟩)] } = true := by kernel_rfl
theorem ok59 : fOK T.P 59 { ord := [(1, [0, 1, 2, 3, 4, 6, 7, 9, 10, 11, 13, 14, 15, 17, 18, 19, 21, 22, 23, 25, 26, 27, 29, 30, 5, 8, 12, 16, 20, 24, 28, 31, 32])], eb := [(1, [5, 12, 16, 20, 24, 28])], sh := [.a [0, 8, 3, 3, 5, 4, 5, 4, 0]] } = true := by kernel_rfl
theorem ok60 : fOK T.P 60 { jn := [(1, (48, 3, 48)), (3, (86, 49, 86)), (5, (2, 87, 93))] } = true := by kernel_rfl
theorem ok62 : fOK T.P 62 {} = true := by kernel_rfl
theorem ok63 : fOK T.P 63 { sh := [.z 3] } = true := by kernel_rfl
theorem ok64 : fOK T.P 64 { ord := [(1, [0, 1, 2, 3, 4, 5, 6, 7, 8, 9, 10, 11, 12, 13, 14, 15, 16, 17, 18, 19, 20, 21, 22, 23, 24, 25, 26, 27, 28, 29, 30, 31, 32, 33, 34, 35, 36, 37, 38, 39, 40, 41, 42, 44, 45, 43, 46, 47, 48, 49, 50, 51, 52, 53])], jn := [(1, (2, 3, 56))] } = true := by kernel_rfl
theorem ok65 : fOK T.P 65 { lp := [(4, ⟨[0, 1, 5], [], [], []⟩)], rt := ⟨[4], [], [], []⟩ } = true := by kernel_rfl
theorem ok66 : fOK T.P 66 { lp := [(4, ⟨[0, 1, 5], [], [], []⟩)], rt := ⟨[4], [], [], []⟩ } = true := by kernel_rfl
theorem ok67 : fOK T.P 67 { lp := [(4, ⟨[0, 1, 5], [], [], []⟩)], rt := ⟨[4], [], [], []⟩ } = true := by kernel_rfl
theorem ok68 : fOK T.P 68 { lp := [(4, ⟨[0, 1, 5], [], [], []⟩)], rt := ⟨[4], [], [], []⟩ } = true := by kernel_rfl
theorem ok69 : fOK T.P 69 { lp := [(4, ⟨[0, 1, 5], [], [], []⟩)], rt := ⟨[4], [], [], []⟩ } = true := by kernel_rfl
theorem ok70 : fOK T.P 70 { lp := [(4, ⟨[0, 1, 5], [], [], []⟩)], rt := ⟨[4], [], [], []⟩ } = true := by kernel_rfl
theorem ok71 : fOK T.P 71 {} = true := by kernel_rfl
theorem ok72 : fOK T.P 72 { ak := [0], lp := [(2, ⟨[0, 1, 5], [.s 0 8], [0, 1], [.s 0 8]⟩)] } = true := by kernel_rfl
theorem ok73 : fOK T.P 73 { an := [(6, [0, 0, 0, 0])], ak := [0], lp := [(2, ⟨[0, 1, 5], [.s 0 3], [0, 1], [.s 0 3]⟩)] } = true := by kernel_rfl
theorem ok74 : fOK T.P 74 { ak := [0], lp := [(2, ⟨[0, 1, 5], [.s 0 5], [0, 1], [.s 0 5]⟩)] } = true := by kernel_rfl
theorem ok75 : fOK T.P 75 { ak := [0], lp := [(2, ⟨[0, 1, 5], [.s 0 4], [0, 1], [.s 0 4]⟩)] } = true := by kernel_rfl
theorem ok76 : fOK T.P 76 { ak := [0], lp := [(2, ⟨[0, 1, 5], [.s 0 5], [0, 1], [.s 0 5]⟩)] } = true := by kernel_rfl
theorem ok77 : fOK T.P 77 { ak := [0], lp := [(2, ⟨[0, 1, 5], [.s 0 4], [0, 1], [.s 0 4]⟩)] } = true := by kernel_rfl
theorem ok78 : fOK T.P 78 { lp := [(2, ⟨[0, 1, 5], [], [1], []⟩)], rt := ⟨[4], [], [], []⟩ } = true := by kernel_rfl
theorem ok79 : fOK T.P 79 { lp := [(2, ⟨[0, 1, 5], [], [1], []⟩)], rt := ⟨[4], [], [], []⟩ } = true := by kernel_rfl
theorem ok80 : fOK T.P 80 { lp := [(2, ⟨[0, 1, 5], [], [1], []⟩)], rt := ⟨[4], [], [], []⟩ } = true := by kernel_rfl
theorem ok81 : fOK T.P 81 { lp := [(2, ⟨[0, 1, 5], [], [1], []⟩)], rt := ⟨[4], [], [], []⟩ } = true := by kernel_rfl
theorem ok82 : fOK T.P 82 { lp := [(2, ⟨[0, 1, 5], [], [1], []⟩)], rt := ⟨[4], [], [], []⟩ } = true := by kernel_rfl
theorem ok83 : fOK T.P 83 { lp := [(2, ⟨[0, 1, 5], [], [1], []⟩)], rt := ⟨[4], [], [], []⟩ } = true := by kernel_rfl
theorem ok84 : fOK T.P 84 { lp := [(2, ⟨[0, 1, 5], [], [1], []⟩)], rt := ⟨[4], [], [], []⟩ } = true := by kernel_rfl
theorem ok85 : fOK T.P 85 {} = true := by kernel_rfl
theorem ok86 : fOK T.P 86 { lp := [(5, ⟨[0, 1, 5], [], [1], []⟩)], rt := ⟨[4], [], [], []⟩ } = true := by kernel_rfl
theorem ok87 : fOK T.P 87 {} = true := by kernel_rfl
theorem ok88 : fOK T.P 88 {} = true := by kernel_rfl
theorem ok89 : fOK T.P 89 {} = true := by kernel_rfl
theorem ok90 : fOK T.P 90 {} = true := by kernel_rfl
theorem ok91 : fOK T.P 91 { jn := [(1, (6, 7, 15))] } = true := by kernel_rfl
theorem ok92 : fOK T.P 92 { jn := [(1, (19, 8, 19))], sh := [.a [0, 8, 3, 3, 5, 4, 5, 4, 0], .n] } = true := by kernel_rfl
theorem ok93 : fOK T.P 93 { lp := [(3, ⟨[0, 3, 4], [.s 3 8], [3], [.s 3 8]⟩)], sh := [.z 8] } = true := by kernel_rfl
theorem ok94 : fOK T.P 94 { lp := [(3, ⟨[0, 3, 4], [.s 3 3], [3], [.s 3 3]⟩)], sh := [.z 3] } = true := by kernel_rfl
theorem ok95 : fOK T.P 95 { lp := [(3, ⟨[0, 3, 4], [.s 3 5], [3], [.s 3 5]⟩)], sh := [.z 5] } = true := by kernel_rfl
theorem ok96 : fOK T.P 96 { lp := [(3, ⟨[0, 3, 4], [.s 3 4], [3], [.s 3 4]⟩)], sh := [.z 4] } = true := by kernel_rfl
theorem ok97 : fOK T.P 97 { lp := [(3, ⟨[0, 3, 4], [.s 3 5], [3], [.s 3 5]⟩)], sh := [.z 5] } = true := by kernel_rfl
theorem ok98 : fOK T.P 98 { lp := [(3, ⟨[0, 3, 4], [.s 3 4], [3], [.s 3 4]⟩)], sh := [.z 4] } = true := by kernel_rfl
theorem ok99 : fOK T.P 99 { ord := [(1, [0, 1, 3, 4, 6, 7, 9, 10, 2, 12, 5, 8, 11, 13, 14, 15, 16, 17, 18, 19]), (2, [0, 1, 3, 4, 6, 7, 2, 9, 5, 8, 10, 11, 12, 13, 14])], sh := [.a [0, 8, 3, 3, 5, 4, 5, 4, 0]] } = true := by kernel_rfl
theorem ok100 : fOK T.P 100 { jn := [(1, (19, 8, 19))], sh := [.a [0, 8, 3, 3, 5, 4, 5, 4, 0], .n] } = true := by kernel_rfl
theorem ok101 : fOK T.P 101 { jn := [(1, (6, 7, 15))] } = true := by kernel_rfl
theorem ok103 : fOK T.P 103 { sh := [.z 2] } = true := by kernel_rfl
theorem ok105 : fOK T.P 105 { jn := [(1, (5, 6, 19)), (3, (19, 20, 30))] } = true := by kernel_rfl
theorem ok106 : fOK T.P 106 {} = true := by kernel_rfl
theorem ok107 : fOK T.P 107 { sh := [.z 2] } = true := by kernel_rfl
theorem ok109 : fOK T.P 109 { jn := [(1, (5, 6, 19)), (3, (19, 20, 30))] } = true := by kernel_rfl
theorem ok111 : fOK T.P 111 { ot := [(9, .one 1 (.one 2 (.one 3 (.one 8 (.one 9 (.one 10 (.alt (.one 0 (.alt (.one 4 (.one 5 (.one 6 (.one 7 (.one 11 (.one 12 (.done))))))) (.one 5 (.alt (.one 4 (.one 6 (.one 7 (.one 11 (.one 12 (.done)))))) (.one 6 (.one 4 (.one 7 (.one 11 (.one 12 (.done)))))))))) (.one 5 (.alt (.one 0 (.alt (.one 4 (.one 6 (.one 7 (.one 11 (.one 12 (.done)))))) (.one 6 (.one 4 (.one 7 (.one 11 (.one 12 (.done)))))))) (.one 6 (.one 0 (.one 4 (.one 7 (.one 11 (.one 12 (.done))))))))))))))))], jn := [(6, (7, 19, 40)), (10, (67, 62, 67))], lp := [(4, ⟨[0, 3, 6, 7, 8], [.s 3 0], [0, 3, 6, 7], [.s 3 0]⟩)], sh := [.z 5, .n] } = true := by kernel_rfl
theorem ok112 : fOK T.P 112 { jn := [(4, (22, 12, 22))], lp := [(2, ⟨[0, 1, 5], [], [], []⟩)], rt := ⟨[4], [], [], []⟩ } = true := by kernel_rfl
theorem ok113 : fOK T.P 113 { av := [(7, [201])], jn := [(2, (24, 10, 24)), (5, (39, 26, 39))], lp := [(5, ⟨[0, 3, 6, 7], [.s 3 0, .s 6 5], [0, 3, 6, 7], [.s 3 0, .s 6 5]⟩)], sh := [.z 5, .n] } = true := by kernel_rfl
theorem ok114 : fOK T.P 114 {} = true := by kernel_rfl
theorem ok117 : fOK T.P 117 { lp := [(2, ⟨[0, 1, 5], [], [], []⟩)], rt := ⟨[4], [], [], []⟩ } = true := by kernel_rfl
theorem ok133 : fOK T.P 133 {} = true := by kernel_rfl
theorem ok134 : fOK T.P 134 {} = true := by kernel_rfl
theorem ok139 : fOK T.P 139 {} = true := by kernel_rfl
theorem ok146 : fOK T.P 146 {} = true := by kernel_rfl
theorem ok147 : fOK T.P 147 { ord := [(5, [0, 1, 2, 3, 4, 5, 6, 7, 8, 9, 10, 11, 13, 14, 15, 16, 17, 12, 18, 19, 20, 21])], eb := [(5, [18])], lp := [(3, ⟨[0, 3, 4], [.s 3 3], [3], [.s 3 3]⟩)], sh := [.z 3] } = true := by kernel_rfl
theorem ok148 : fOK T.P 148 { jn := [(4, (35, 10, 35))], lp := [(2, ⟨[0, 3], [], [0], []⟩)], rt := ⟨[2], [], [], []⟩ } = true := by kernel_rfl
theorem ok149 : fOK T.P 149 { jn := [(4, (61, 10, 61))], lp := [(2, ⟨[0, 3], [], [0], []⟩)], rt := ⟨[2], [], [], []⟩ } = true := by kernel_rfl
theorem ok150 : fOK T.P 150 { jn := [(4, (53, 11, 53)), (9, (77, 59, 77))], lp := [(2, ⟨[0, 3], [], [0], []⟩), (7, ⟨[0, 3, 4], [], [0, 3], []⟩)], rt := ⟨[2], [], [], []⟩ } = true := by kernel_rfl
theorem ok151 : fOK T.P 151 { jn := [(5, (58, 16, 58)), (10, (84, 64, 84))], lp := [(2, ⟨[0, 3], [], [0], []⟩), (8, ⟨[0, 3, 4, 5], [.s 4 0], [0, 3], []⟩)], rt := ⟨[2], [], [], []⟩ } = true := by kernel_rfl
theorem ok152 : fOK T.P 152 { jn := [(3, (15, 7, 15)), (7, (67, 25, 67)), (10, (96, 73, 96))], lp := [(3, ⟨[0, 3, 4], [], [0], []⟩)], rt := ⟨[2], [], [], []⟩ } = true := by kernel_rfl
theorem ok153 : fOK T.P 153 { jn := [(5, (58, 15, 58))], lp := [(2, ⟨[0, 3], [], [0], []⟩)], rt := ⟨[2], [], [], []⟩ } = true := by kernel_rfl
theorem ok154 : fOK T.P 154 { ord := [(13, [0, 1, 2, 3, 4, 5, 6, 7, 8, 9, 10, 11, 14, 15, 12, 13, 16, 17, 18, 19, 20, 21, 22, 23, 24, 25, 26, 27, 28, 29])], jn := [(13, (77, 48, 77)), (18, (103, 85, 103))], lp := [(5, ⟨[1, 3, 4], [.s 1 0, .s 3 1], [1, 3], [.s 1 0, .s 3 1]⟩), (10, ⟨[1, 3, 5], [.s 1 0, .s 3 1], [1], [.s 1 0]⟩), (16, ⟨[1, 7], [.s 1 0], [], []⟩)], rt := ⟨[2], [], [], []⟩ } = true := by kernel_rfl
theorem ok155 : fOK T.P 155 { ord := [(8, [0, 1, 2, 3, 4, 5, 6, 7, 8, 9, 10, 11, 12, 13, 14, 15, 16, 17, 18, 19, 20, 21, 22, 23, 24, 25, 26, 27, 28, 29, 30, 32, 33, 34, 35, 36, 38, 31, 37, 39, 40, 41, 42, 43, 44, 45, 46, 47])], jn := [(8, (77, 30, 77))], lp := [(4, ⟨[1, 3], [.s 1 0], [], []⟩)], rt := ⟨[2], [], [], []⟩ } = true := by kernel_rfl
theorem ok156 : fOK T.P 156 { jn := [(6, (34, 15, 34))], lp := [(4, ⟨[0, 8, 9, 10], [], [], []⟩)], rt := ⟨[2], [], [], []⟩ } = true := by kernel_rfl
theorem ok157 : fOK T.P 157 { jn := [(6, (51, 15, 51))], lp := [(4, ⟨[0, 8, 9, 10], [], [], []⟩)], rt := ⟨[2], [], [], []⟩ } = true := by kernel_rfl
theorem ok158 : fOK T.P 158 { jn := [(6, (54, 15, 54))], lp := [(4, ⟨[0, 8, 9, 10], [], [], []⟩)], rt := ⟨[2], [], [], []⟩ } = true := by kernel_rfl
theorem ok159 : fOK T.P 159 { jn := [(6, (59, 17, 59)), (11, (82, 68, 82))], lp := [(4, ⟨[0, 10, 11, 12], [], [], []⟩), (9, ⟨[0, 4, 10, 11, 12, 62, 63, 64], [.s 4 0], [0, 10, 11, 12], []⟩)], rt := ⟨[2], [], [], []⟩ } = true := by kernel_rfl
theorem ok160 : fOK T.P 160 { jn := [(7, (61, 17, 61)), (13, (83, 73, 83))], lp := [(5, ⟨[0, 3, 10, 11, 12], [], [], []⟩)], rt := ⟨[2], [], [], []⟩ } = true := by kernel_rfl
theorem ok161 : fOK T.P 161 { jn := [(6, (58, 15, 58))], lp := [(4, ⟨[0, 8, 9, 10], [], [], []⟩)], rt := ⟨[2], [], [], []⟩ } = true := by kernel_rfl
theorem ok162 : fOK T.P 162 { ord := [(7, [0, 1, 2, 3, 4, 5, 6, 7, 8, 9, 10, 11, 12, 13, 14, 15, 18, 19, 20, 21, 16, 17, 22, 23, 24])], jn := [(7, (54, 30, 54)), (13, (73, 63, 73))], lp := [(5, ⟨[1, 3, 23, 24, 25], [.s 1 0, .s 3 1], [1, 3], [.s 1 0, .s 3 1]⟩), (11, ⟨[1, 3, 57, 58, 59], [.s 1 0, .s 3 1], [1, 3], [.s 1 0, .s 3 1]⟩), (17, ⟨[1, 75, 76, 77], [.s 1 0, .s 75 1], [], []⟩)], rt := ⟨[2], [], [], []⟩ } = true := by kernel_rfl
theorem ok163 : fOK T.P 163 { ord := [(7, [0, 1, 2, 3, 4, 5, 6, 7, 8, 9, 10, 11, 12, 13, 14, 15, 16, 17, 18, 19, 20, 21, 22, 24, 26, 27, 23, 25, 28, 29, 30])], jn := [(7, (56, 26, 56))], lp := [(4, ⟨[1, 14, 15, 16], [.s 1 0], [], []⟩)], rt := ⟨[2], [], [], []⟩ } = true := by kernel_rfl
theorem ok164 : fOK T.P 164 { lp := [(3, ⟨[1, 3, 13, 14, 15], [.s 1 0], [1, 3], [.s 1 0]⟩), (8, ⟨[1, 3, 25, 26, 27], [.s 1 0], [1, 3], [.s 1 0]⟩), (13, ⟨[1, 3, 37, 38, 39], [.s 1 0], [1, 3], [.s 1 0]⟩), (18, ⟨[3, 49, 50, 51], [], [3], []⟩)] } = true := by kernel_rfl
theorem ok165 : fOK T.P 165 {} = true := by kernel_rfl
theorem ok166 : fOK T.P 166 {} = true := by kernel_rfl
theorem ok167 : fOK T.P 167 {} = true := by kernel_rfl
theorem ok168 : fOK T.P 168 {} = true := by kernel_rfl
theorem ok169 : fOK T.P 169 {} = true := by kernel_rfl
theorem ok170 : fOK T.P 170 { lp := [(2, ⟨[0, 1, 5], [], [1], []⟩)], rt := ⟨[4], [], [], []⟩ } = true := by kernel_rfl
theorem ok171 : fOK T.P 171 {} = true := by kernel_rfl
theorem ok172 : fOK T.P 172 { sh := [.a [0, 2, 0]] } = true := by kernel_rfl
theorem ok173 : fOK T.P 173 {} = true := by kernel_rfl
theorem ok174 : fOK T.P 174 {} = true := by kernel_rfl
theorem ok175 : fOK T.P 175 {} = true := by kernel_rfl
theorem ok176 : fOK T.P 176 {} = true := by kernel_rfl
theorem ok177 : fOK T.P 177 { sh := [.z 8] } = true := by kernel_rfl
theorem ok178 : fOK T.P 178 { lp := [(3, ⟨[3, 7, 8, 9], [.s 3 3], [3], [.s 3 3]⟩)], sh := [.z 3] } = true := by kernel_rfl
theorem ok179 : fOK T.P 179 { sh := [.z 5] } = true := by kernel_rfl
theorem ok180 : fOK T.P 180 { sh := [.z 4] } = true := by kernel_rfl
theorem ok181 : fOK T.P 181 { sh := [.z 5] } = true := by kernel_rfl
theorem ok182 : fOK T.P 182 { sh := [.z 4] } = true := by kernel_rfl
theorem ok183 : fOK T.P 183 {} = true := by kernel_rfl
theorem ok184 : fOK T.P 184 { lp := [(2, ⟨[0, 1, 5], [], [], []⟩)], rt := ⟨[4], [], [], []⟩ } = true := by kernel_rfl
theorem ok187 : fOK T.P 187 { jn := [(1, (2, 3, 26))] } = true := by kernel_rfl
theorem ok188 : fOK T.P 188 { jn := [(4, (43, 10, 43))], lp := [(2, ⟨[0, 3], [], [0], []⟩)], rt := ⟨[2], [], [], []⟩ } = true := by kernel_rfl
theorem ok189 : fOK T.P 189 {} = true := by kernel_rfl
theorem ok190 : fOK T.P 190 { lp := [(2, ⟨[0, 1, 7, 8], [], [], []⟩)], rt := ⟨[4], [], [], []⟩ } = true := by kernel_rfl
theorem ok191 : fOK T.P 191 {} = true := by kernel_rfl
theorem ok192 : fOK T.P 192 {} = true := by kernel_rfl
theorem ok193 : fOK T.P 193 { sh := [.z 2] } = true := by kernel_rfl
theorem ok196 : fOK T.P 196 { jn := [(1, (2, 3, 26))] } = true := by kernel_rfl
theorem ok197 : fOK T.P 197 { jn := [(6, (39, 15, 39))], lp := [(4, ⟨[0, 8, 9, 10], [], [], []⟩)], rt := ⟨[2], [], [], []⟩ } = true := by kernel_rfl
theorem ok198 : fOK T.P 198 {} = true := by kernel_rfl
theorem ok199 : fOK T.P 199 {} = true := by kernel_rfl
theorem ok200 : fOK T.P 200 { jn := [(1, (3, 4, 16))] } = true := by kernel_rfl
theorem ok202 : fOK T.P 202 { lp := [(2, ⟨[0, 1, 7, 8], [], [], []⟩)], rt := ⟨[4], [], [], []⟩ } = true := by kernel_rfl
theorem ok203 : fOK T.P 203 {} = true := by kernel_rfl
theorem ok208 : fOK T.P 208 { jn := [(1, (2, 3, 26))] } = true := by kernel_rfl
theorem ok209 : fOK T.P 209 {} = true := by kernel_rfl
theorem ok210 : fOK T.P 210 {} = true := by kernel_rfl
theorem ok212 : fOK T.P 212 { jn := [(1, (2, 3, 26))] } = true := by kernel_rfl
theorem ok217 : fOK T.P 217 {} = true := by kernel_rfl
theorem ok221 : fOK T.P 221 {} = true := by kernel_rfl
theorem ok228 : fOK T.P 228 {} = true := by kernel_rfl
theorem ok229 : fOK T.P 229 { jn := [(1, (2, 3, 21))] } = true := by kernel_rfl
theorem ok230 : fOK T.P 230 { lp := [(3, ⟨[0, 1, 2, 7, 8], [], [7], []⟩)] } = true := by kernel_rfl
theorem ok231 : fOK T.P 231 { jn := [(3, (16, 9, 16)), (6, (42, 28, 42))], lp := [(3, ⟨[0, 1, 5, 6], [.s 5 1], [5], [.s 5 1]⟩)], sh := [.z 1] } = true := by kernel_rfl
theorem ok232 : fOK T.P 232 { lp := [(2, ⟨[0, 1, 5], [], [], []⟩)], rt := ⟨[4], [], [], []⟩ } = true := by kernel_rfl
theorem ok233 : fOK T.P 233 { jn := [(1, (2, 3, 21))] } = true := by kernel_rfl
theorem ok234 : fOK T.P 234 {} = true := by kernel_rfl
theorem ok235 : fOK T.P 235 { lp := [(2, ⟨[0, 1, 5], [], [], []⟩)], rt := ⟨[4], [], [], []⟩ } = true := by kernel_rfl
theorem ok236 : fOK T.P 236 { ac := [(10, 0)], jn := [(7, (36, 20, 36))], lp := [(5, ⟨[0, 1, 5, 13, 14, 15], [.s 5 1], [5], [.s 5 1]⟩)], sh := [.z 1] } = true := by kernel_rfl
theorem ok237 : fOK T.P 237 {} = true := by kernel_rfl
theorem ok238 : fOK T.P 238 {} = true := by kernel_rfl
theorem ok239 : fOK T.P 239 { lp := [(2, ⟨[0, 1, 7, 8], [], [], []⟩)], rt := ⟨[4], [], [], []⟩ } = true := by kernel_rfl
theorem ok241 : fOK T.P 241 { lp := [(2, ⟨[0, 1, 7, 8], [], [], []⟩)], rt := ⟨[4], [], [], []⟩ } = true := by kernel_rfl
theorem ok242 : fOK T.P 242 {} = true := by kernel_rfl
theorem ok247 : fOK T.P 247 { lp := [(2, ⟨[0, 1, 7, 8], [], [], []⟩)], rt := ⟨[4], [], [], []⟩ } = true := by kernel_rfl
theorem ok248 : fOK T.P 248 {} = true := by kernel_rfl
theorem ok251 : fOK T.P 251 { lp := [(3, ⟨[0, 3, 4], [], [3], []⟩)] } = true := by kernel_rfl
theorem ok256 : fOK T.P 256 { lp := [(3, ⟨[3, 6, 7, 8], [], [3], []⟩)] } = true := by kernel_rfl
theorem ok264 : fOK T.P 264 { ot := [(6, .one 1 (.one 2 (.one 3 (.one 5 (.one 8 (.one 9 (.one 10 (.alt (.one 0 (.alt (.one 4 (.one 6 (.one 7 (.one 11 (.one 12 (.done)))))) (.one 6 (.one 4 (.one 7 (.one 11 (.one 12 (.done)))))))) (.one 6 (.one 0 (.one 4 (.one 7 (.one 11 (.one 12 (.done)))))))))))))))], jn := [(2, (17, 6, 17)), (4, (31, 20, 31))], lp := [(2, ⟨[0, 1, 5], [], [0, 1, 5], []⟩)], sh := [.z 1] } = true := by kernel_rfl
theorem ok266 : fOK T.P 266 { lp := [(2, ⟨[0, 1, 7, 8], [], [], []⟩)], rt := ⟨[4], [], [], []⟩ } = true := by kernel_rfl
theorem ok267 : fOK T.P 267 {} = true := by kernel_rfl
theorem ok274 : fOK T.P 274 {} = true := by kernel_rfl
theorem ok283 : fOK T.P 283 {} = true := by kernel_rfl
theorem T_ok : T.ok = true := by
  unfold Tld.ok
  exact okc ok6 (okc ok13 (okc ok15 (okc ok17 (okc ok18 (okc ok19 (okc ok20 (okc ok21 (okc ok22 (okc ok24 (okc ok28 (okc ok29 (okc ok34 (okc ok36 (okc ok37 (okc ok39 (okc ok40 (okc ok59 (okc ok60 (okc ok62 (okc ok63 (okc ok64 (okc ok65 (okc ok66 (okc ok67 (okc ok68 (okc ok69 (okc ok70 (okc ok71 (okc ok72 (okc ok73 (okc ok74 (okc ok75 (okc ok76 (okc ok77 (okc ok78 (okc ok79 (okc ok80 (okc ok81 (okc ok82 (okc ok83 (okc ok84 (okc ok85 (okc ok86 (okc ok87 (okc ok88 (okc ok89 (okc ok90 (okc ok91 (okc ok92 (okc ok93 (okc ok94 (okc ok95 (okc ok96 (okc ok97 (okc ok98 (okc ok99 (okc ok100 (okc ok101 (okc ok103 (okc ok105 (okc ok106 (okc ok107 (okc ok109 (okc ok111 (okc ok112 (okc ok113 (okc ok114 (okc ok117 (okc ok133 (okc ok134 (okc ok139 (okc ok146 (okc ok147 (okc ok148 (okc ok149 (okc ok150 (okc ok151 (okc ok152 (okc ok153 (okc ok154 (okc ok155 (okc ok156 (okc ok157 (okc ok158 (okc ok159 (okc ok160 (okc ok161 (okc ok162 (okc ok163 (okc ok164 (okc ok165 (okc ok166 (okc ok167 (okc ok168 (okc ok169 (okc ok170 (okc ok171 (okc ok172 (okc ok173 (okc ok174 (okc ok175 (okc ok176 (okc ok177 (okc ok178 (okc ok179 (okc ok180 (okc ok181 (okc ok182 (okc ok183 (okc ok184 (okc ok187 (okc ok188 (okc ok189 (okc ok190 (okc ok191 (okc ok192 (okc ok193 (okc ok196 (okc ok197 (okc ok198 (okc ok199 (okc ok200 (okc ok202 (okc ok203 (okc ok208 (okc ok209 (okc ok210 (okc ok212 (okc ok217 (okc ok221 (okc ok228 (okc ok229 (okc ok230 (okc ok231 (okc ok232 (okc ok233 (okc ok234 (okc ok235 (okc ok236 (okc ok237 (okc ok238 (okc ok239 (okc ok241 (okc ok242 (okc ok247 (okc ok248 (okc ok251 (okc ok256 (okc ok264 (okc ok266 (okc ok267 (okc ok274 (okc ok283 (rfl))))))))))))))))))))))))))))))))))))))))))))))))))))))))))))))))))))))))))))))))))))))))))))))))))))))))))))))))))))))))))))))))))))))))))))))))))))))))))
end Go.Proofs.YtcdffihcfeajfaaGreat
