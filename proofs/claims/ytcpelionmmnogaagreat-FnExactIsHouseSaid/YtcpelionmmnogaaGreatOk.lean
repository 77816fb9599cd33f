/- What is told of each function passes its check, one by one. No condition. -/
import Derived.Test.YtcpelionmmnogaaGreatEc
import Derived.Test.YtcpelionmmnogaaGreatEv6
namespace Go.Proofs.YtcpelionmmnogaaGreat
open Go Go.Proofs Go.Proofs.YtcpelionmmnogaaGreat.Am
set_option maxRecDepth 100000
theorem okc {P : Program} {g : FuncId} {a : Ann} {l : List (FuncId × Ann)} (h : fOK P g a = true) (t : (l.all fun p => fOK P p.1 p.2) = true) : (((g, a) :: l).all fun p => fOK P p.1 p.2) = true := by rw [List.all_cons, t, Bool.and_true]; exact h
theorem ok3 : fOK T.P 3 {} = true := by kernel_rfl
theorem ok5 : fOK T.P 5 {} = true := by kernel_rfl
theorem ok6 : fOK T.P 6 { jn := [(1, (48, 3, 48)), (3, (86, 49, 86)), (5, (2, 87, 93))] } = true := by kernel_rfl
theorem ok7 : fOK T.P 7 { sh := [.a [0, 8, 3, 3, 5, 4, 5, 4, 0]] } = true := by kernel_rfl
theorem ok8 : fOK T.P 8 { ord := [(1, [0, 1, 2, 3, 4, 5, 6, 7, 8, 9, 10, 11, 12, 13, 14, 15, 16, 17, 18, 19, 20, 21, 22, 23, 24, 25, 26, 27, 28, 29, 30, 31, 32, 33, 34, 35, 36, 37, 38, 39, 40, 41, 42, 44, 45, 43, 46, 47, 48, 49, 50, 51, 52, 53])], jn := [(1, (2, 3, 56))] } = true := by kernel_rfl
theorem ok9 : fOK T.P 9 {} = true := by kernel_rfl
theorem ok10 : fOK T.P 10 {} = true := by kernel_rfl
theorem ok12 : fOK T.P 12 { lp := [(3, ⟨[0, 3, 4], [.s 3 3], [3], [.s 3 3]⟩)], sh := [.z 3] } = true := by kernel_rfl
theorem ok14 : fOK T.P 14 { lp := [(4, ⟨[0, 1, 5], [], [], []⟩)], rt := ⟨[4], [], [], []⟩ } = true := by kernel_rfl
theorem ok18 : fOK T.P 18 {} = true := by kernel_rfl
theorem ok19 : fOK T.P 19 { lp := [(5, ⟨[0, 1, 5], [], [1], []⟩)], rt := ⟨[4], [], [], []⟩ } = true := by kernel_rfl
theorem ok20 : fOK T.P 20 {} = true := by kernel_rfl
theorem ok21 : fOK T.P 21 {} = true := by kernel_rfl
theorem ok22 : fOK T.P 22 {} = true := by kernel_rfl
theorem ok23 : fOK T.P 23 {} = true := by kernel_rfl
theorem ok24 : fOK T.P 24 { jn := [(1, (6, 7, 15))] } = true := by kernel_rfl
theorem ok25 : fOK T.P 25 { jn := [(4, (35, 10, 35))], lp := [(2, ⟨[0, 3], [], [0], []⟩)], rt := ⟨[2], [], [], []⟩ } = true := by kernel_rfl
theorem ok26 : fOK T.P 26 { jn := [(4, (61, 10, 61))], lp := [(2, ⟨[0, 3], [], [0], []⟩)], rt := ⟨[2], [], [], []⟩ } = true := by kernel_rfl
theorem ok27 : fOK T.P 27 { jn := [(4, (53, 11, 53)), (9, (77, 59, 77))], lp := [(2, ⟨[0, 3], [], [0], []⟩), (7, ⟨[0, 3, 4], [], [0, 3], []⟩)], rt := ⟨[2], [], [], []⟩ } = true := by kernel_rfl
theorem ok28 : fOK T.P 28 { jn := [(5, (58, 16, 58)), (10, (84, 64, 84))], lp := [(2, ⟨[0, 3], [], [0], []⟩), (8, ⟨[0, 3, 4, 5], [.s 4 0], [0, 3], []⟩)], rt := ⟨[2], [], [], []⟩ } = true := by kernel_rfl
theorem ok29 : fOK T.P 29 { jn := [(3, (15, 7, 15)), (7, (67, 25, 67)), (10, (96, 73, 96))], lp := [(3, ⟨[0, 3, 4], [], [0], []⟩)], rt := ⟨[2], [], [], []⟩ } = true := by kernel_rfl
theorem ok30 : fOK T.P 30 { jn := [(5, (58, 15, 58))], lp := [(2, ⟨[0, 3], [], [0], []⟩)], rt := ⟨[2], [], [], []⟩ } = true := by kernel_rfl
theorem ok31 : fOK T.P 31 { ord := [(13, [0, 1, 2, 3, 4, 5, 6, 7, 8, 9, 10, 11, 14, 15, 12, 13, 16, 17, 18, 19, 20, 21, 22, 23, 24, 25, 26, 27, 28, 29])], jn := [(13, (77, 48, 77)), (18, (103, 85, 103))], lp := [(5, ⟨[1, 3, 4], [.s 1 0, .s 3 1], [1, 3], [.s 1 0, .s 3 1]⟩), (10, ⟨[1, 3, 5], [.s 1 0, .s 3 1], [1], [.s 1 0]⟩), (16, ⟨[1, 7], [.s 1 0], [], []⟩)], rt := ⟨[2], [], [], []⟩ } = true := by kernel_rfl
theorem ok32 : fOK T.P 32 { ord := [(8, [0, 1, 2, 3, 4, 5, 6, 7, 8, 9, 10, 11, 12, 13, 14, 15, 16, 17, 18, 19, 20, 21, 22, 23, 24, 25, 26, 27, 28, 29, 30, 32, 33, 34, 35, 36, 38, 31, 37, 39, 40, 41, 42, 43, 44, 45, 46, 47])], jn := [(8, (77, 30, 77))], lp := [(4, ⟨[1, 3], [.s 1 0], [], []⟩)], rt := ⟨[2], [], [], []⟩ } = true := by kernel_rfl
theorem ok33 : fOK T.P 33 { lp := [(3, ⟨[0, 3, 4], [.s 3 8], [3], [.s 3 8]⟩)], sh := [.z 8] } = true := by kernel_rfl
theorem ok34 : fOK T.P 34 { lp := [(3, ⟨[0, 3, 4], [.s 3 3], [3], [.s 3 3]⟩)], sh := [.z 3] } = true := by kernel_rfl
theorem ok35 : fOK T.P 35 { lp := [(3, ⟨[0, 3, 4], [.s 3 5], [3], [.s 3 5]⟩)], sh := [.z 5] } = true := by kernel_rfl
theorem ok36 : fOK T.P 36 { lp := [(3, ⟨[0, 3, 4], [.s 3 4], [3], [.s 3 4]⟩)], sh := [.z 4] } = true := by kernel_rfl
theorem ok37 : fOK T.P 37 { lp := [(3, ⟨[0, 3, 4], [.s 3 5], [3], [.s 3 5]⟩)], sh := [.z 5] } = true := by kernel_rfl
theorem ok38 : fOK T.P 38 { lp := [(3, ⟨[0, 3, 4], [.s 3 4], [3], [.s 3 4]⟩)], sh := [.z 4] } = true := by kernel_rfl
theorem ok39 : fOK T.P 39 { jn := [(1, (6, 7, 15))] } = true := by kernel_rfl
theorem ok40 : fOK T.P 40 { jn := [(6, (34, 15, 34))], lp := [(4, ⟨[0, 8, 9, 10], [], [], []⟩)], rt := ⟨[2], [], [], []⟩ } = true := by kernel_rfl
theorem ok41 : fOK T.P 41 { jn := [(6, (51, 15, 51))], lp := [(4, ⟨[0, 8, 9, 10], [], [], []⟩)], rt := ⟨[2], [], [], []⟩ } = true := by kernel_rfl
theorem ok42 : fOK T.P 42 { jn := [(6, (54, 15, 54))], lp := [(4, ⟨[0, 8, 9, 10], [], [], []⟩)], rt := ⟨[2], [], [], []⟩ } = true := by kernel_rfl
theorem ok43 : fOK T.P 43 { jn := [(6, (59, 17, 59)), (11, (82, 68, 82))], lp := [(4, ⟨[0, 10, 11, 12], [], [], []⟩), (9, ⟨[0, 4, 10, 11, 12, 62, 63, 64], [.s 4 0], [0, 10, 11, 12], []⟩)], rt := ⟨[2], [], [], []⟩ } = true := by kernel_rfl
theorem ok44 : fOK T.P 44 { jn := [(7, (61, 17, 61)), (13, (83, 73, 83))], lp := [(5, ⟨[0, 3, 10, 11, 12], [], [], []⟩)], rt := ⟨[2], [], [], []⟩ } = true := by kernel_rfl
theorem ok45 : fOK T.P 45 { jn := [(6, (58, 15, 58))], lp := [(4, ⟨[0, 8, 9, 10], [], [], []⟩)], rt := ⟨[2], [], [], []⟩ } = true := by kernel_rfl
theorem ok46 : fOK T.P 46 { ord := [(7, [0, 1, 2, 3, 4, 5, 6, 7, 8, 9, 10, 11, 12, 13, 14, 15, 18, 19, 20, 21, 16, 17, 22, 23, 24])], jn := [(7, (54, 30, 54)), (13, (73, 63, 73))], lp := [(5, ⟨[1, 3, 23, 24, 25], [.s 1 0, .s 3 1], [1, 3], [.s 1 0, .s 3 1]⟩), (11, ⟨[1, 3, 57, 58, 59], [.s 1 0, .s 3 1], [1, 3], [.s 1 0, .s 3 1]⟩), (17, ⟨[1, 75, 76, 77], [.s 1 0, .s 75 1], [], []⟩)], rt := ⟨[2], [], [], []⟩ } = true := by kernel_rfl
theorem ok47 : fOK T.P 47 { ord := [(7, [0, 1, 2, 3, 4, 5, 6, 7, 8, 9, 10, 11, 12, 13, 14, 15, 16, 17, 18, 19, 20, 21, 22, 24, 26, 27, 23, 25, 28, 29, 30])], jn := [(7, (56, 26, 56))], lp := [(4, ⟨[1, 14, 15, 16], [.s 1 0], [], []⟩)], rt := ⟨[2], [], [], []⟩ } = true := by kernel_rfl
theorem ok48 : fOK T.P 48 { lp := [(3, ⟨[1, 3, 13, 14, 15], [.s 1 0], [1, 3], [.s 1 0]⟩), (8, ⟨[1, 3, 25, 26, 27], [.s 1 0], [1, 3], [.s 1 0]⟩), (13, ⟨[1, 3, 37, 38, 39], [.s 1 0], [1, 3], [.s 1 0]⟩), (18, ⟨[3, 49, 50, 51], [], [3], []⟩)] } = true := by kernel_rfl
theorem ok49 : fOK T.P 49 { lp := [(4, ⟨[0, 1, 5], [], [], []⟩)], rt := ⟨[4], [], [], []⟩ } = true := by kernel_rfl
theorem ok50 : fOK T.P 50 { lp := [(4, ⟨[0, 1, 5], [], [], []⟩)], rt := ⟨[4], [], [], []⟩ } = true := by kernel_rfl
theorem ok51 : fOK T.P 51 { lp := [(4, ⟨[0, 1, 5], [], [], []⟩)], rt := ⟨[4], [], [], []⟩ } = true := by kernel_rfl
theorem ok52 : fOK T.P 52 { lp := [(4, ⟨[0, 1, 5], [], [], []⟩)], rt := ⟨[4], [], [], []⟩ } = true := by kernel_rfl
theorem ok53 : fOK T.P 53 { lp := [(4, ⟨[0, 1, 5], [], [], []⟩)], rt := ⟨[4], [], [], []⟩ } = true := by kernel_rfl
theorem ok54 : fOK T.P 54 { lp := [(4, ⟨[0, 1, 5], [], [], []⟩)], rt := ⟨[4], [], [], []⟩ } = true := by kernel_rfl
theorem ok57 : fOK T.P 57 {} = true := by kernel_rfl
theorem ok59 : fOK T.P 59 {} = true := by kernel_rfl
theorem ok73 : fOK T.P 73 {} = true := by kernel_rfl
theorem ok74 : fOK T.P 74 { jn := [(1, (2, 3, 21))] } = true := by kernel_rfl
theorem ok75 : fOK T.P 75 { jn := [(4, (43, 10, 43))], lp := [(2, ⟨[0, 3], [], [0], []⟩)], rt := ⟨[2], [], [], []⟩ } = true := by kernel_rfl
theorem ok76 : fOK T.P 76 {} = true := by kernel_rfl
theorem ok77 : fOK T.P 77 { lp := [(3, ⟨[0, 1, 2, 7, 8], [], [7], []⟩)] } = true := by kernel_rfl
theorem ok78 : fOK T.P 78 { jn := [(3, (16, 9, 16)), (6, (42, 28, 42))], lp := [(3, ⟨[0, 1, 5, 6], [.s 5 1], [5], [.s 5 1]⟩)], sh := [.z 1] } = true := by kernel_rfl
theorem ok79 : fOK T.P 79 { lp := [(2, ⟨[0, 1, 5], [], [], []⟩)], rt := ⟨[4], [], [], []⟩ } = true := by kernel_rfl
theorem ok80 : fOK T.P 80 { jn := [(4, (22, 12, 22))], lp := [(2, ⟨[0, 1, 5], [], [], []⟩)], rt := ⟨[4], [], [], []⟩ } = true := by kernel_rfl
theorem ok81 : fOK T.P 81 { lp := [(2, ⟨[0, 1, 5], [], [], []⟩)], rt := ⟨[4], [], [], []⟩ } = true := by kernel_rfl
theorem ok82 : fOK T.P 82 { jn := [(1, (2, 3, 26))] } = true := by kernel_rfl
theorem ok83 : fOK T.P 83 { jn := [(1, (5, 6, 19)), (3, (19, 20, 30))] } = true := by kernel_rfl
theorem ok84 : fOK T.P 84 { sh := [.z 2] } = true := by kernel_rfl
theorem ok85 : fOK T.P 85 {} = true := by kernel_rfl
theorem ok86 : fOK T.P 86 { sh := [.a [0, 2, 0]] } = true := by kernel_rfl
theorem ok87 : fOK T.P 87 {} = true := by kernel_rfl
theorem ok88 : fOK T.P 88 {} = true := by kernel_rfl
theorem ok89 : fOK T.P 89 {} = true := by kernel_rfl
theorem ok90 : fOK T.P 90 {} = true := by kernel_rfl
theorem ok91 : fOK T.P 91 { jn := [(1, (2, 3, 21))] } = true := by kernel_rfl
theorem ok92 : fOK T.P 92 { jn := [(6, (39, 15, 39))], lp := [(4, ⟨[0, 8, 9, 10], [], [], []⟩)], rt := ⟨[2], [], [], []⟩ } = true := by kernel_rfl
theorem ok93 : fOK T.P 93 {} = true := by kernel_rfl
theorem ok94 : fOK T.P 94 {} = true := by kernel_rfl
theorem ok95 : fOK T.P 95 { lp := [(2, ⟨[0, 1, 5], [], [], []⟩)], rt := ⟨[4], [], [], []⟩ } = true := by kernel_rfl
theorem ok96 : fOK T.P 96 { ac := [(10, 0)], jn := [(7, (36, 20, 36))], lp := [(5, ⟨[0, 1, 5, 13, 14, 15], [.s 5 1], [5], [.s 5 1]⟩)], sh := [.z 1] } = true := by kernel_rfl
theorem ok97 : fOK T.P 97 {} = true := by kernel_rfl
theorem ok98 : fOK T.P 98 {} = true := by kernel_rfl
theorem ok99 : fOK T.P 99 {} = true := by kernel_rfl
theorem ok100 : fOK T.P 100 { jn := [(1, (2, 3, 26))] } = true := by kernel_rfl
theorem ok101 : fOK T.P 101 { jn := [(1, (5, 6, 19)), (3, (19, 20, 30))] } = true := by kernel_rfl
theorem ok102 : fOK T.P 102 { sh := [.z 2] } = true := by kernel_rfl
theorem ok103 : fOK T.P 103 {} = true := by kernel_rfl
theorem ok104 : fOK T.P 104 {} = true := by kernel_rfl
theorem ok105 : fOK T.P 105 {} = true := by kernel_rfl
theorem ok106 : fOK T.P 106 {} = true := by kernel_rfl
theorem ok107 : fOK T.P 107 {} = true := by kernel_rfl
theorem ok108 : fOK T.P 108 {} = true := by kernel_rfl
theorem ok109 : fOK T.P 109 {} = true := by kernel_rfl
theorem ok113 : fOK T.P 113 {} = true := by kernel_rfl
theorem ok114 : fOK T.P 114 { jn := [(1, (2, 3, 26))] } = true := by kernel_rfl
theorem ok115 : fOK T.P 115 { lp := [(3, ⟨[0, 3, 4], [], [3], []⟩)] } = true := by kernel_rfl
theorem ok116 : fOK T.P 116 { ot := [(6, .one 1 (.one 2 (.one 3 (.one 5 (.one 8 (.one 9 (.one 10 (.alt (.one 0 (.alt (.one 4 (.one 6 (.one 7 (.one 11 (.one 12 (.done)))))) (.one 6 (.one 4 (.one 7 (.one 11 (.one 12 (.done)))))))) (.one 6 (.one 0 (.one 4 (.one 7 (.one 11 (.one 12 (.done)))))))))))))))], jn := [(2, (17, 6, 17)), (4, (31, 20, 31))], lp := [(2, ⟨[0, 1, 5], [], [0, 1, 5], []⟩)], sh := [.z 1] } = true := by kernel_rfl
theorem ok117 : fOK T.P 117 {} = true := by kernel_rfl
theorem ok118 : fOK T.P 118 { lp := [(2, ⟨[0, 1, 5], [], [], []⟩)], rt := ⟨[4], [], [], []⟩ } = true := by kernel_rfl
theorem ok119 : fOK T.P 119 {} = true := by kernel_rfl
theorem ok120 : fOK T.P 120 { lp := [(3, ⟨[0, 3, 4], [.s 3 2], [3], [.s 3 2]⟩)], sh := [.z 2] } = true := by kernel_rfl
theorem ok121 : fOK T.P 121 { jn := [(1, (2, 3, 26))] } = true := by kernel_rfl
theorem ok122 : fOK T.P 122 { lp := [(3, ⟨[3, 6, 7, 8], [], [3], []⟩)] } = true := by kernel_rfl
theorem ok124 : fOK T.P 124 { lp := [(2, ⟨[0, 1, 7, 8], [], [], []⟩)], rt := ⟨[4], [], [], []⟩ } = true := by kernel_rfl
theorem ok125 : fOK T.P 125 {} = true := by kernel_rfl
theorem ok126 : fOK T.P 126 { lp := [(2, ⟨[0, 1, 7, 8], [], [], []⟩)], rt := ⟨[4], [], [], []⟩ } = true := by kernel_rfl
theorem ok127 : fOK T.P 127 { lp := [(2, ⟨[0, 1, 7, 8], [], [], []⟩)], rt := ⟨[4], [], [], []⟩ } = true := by kernel_rfl
theorem ok128 : fOK T.P 128 {} = true := by kernel_rfl
theorem ok129 : fOK T.P 129 {} = true := by kernel_rfl
theorem ok130 : fOK T.P 130 {} = true := by kernel_rfl
theorem ok131 : fOK T.P 131 { sh := [.z 2] } = true := by kernel_rfl
theorem ok132 : fOK T.P 132 {} = true := by kernel_rfl
theorem ok133 : fOK T.P 133 { lp := [(4, ⟨[0, 1, 5], [], [], []⟩)], rt := ⟨[4], [], [], []⟩ } = true := by kernel_rfl
theorem ok134 : fOK T.P 134 {} = true := by kernel_rfl
theorem ok135 : fOK T.P 135 {} = true := by kernel_rfl
theorem ok136 : fOK T.P 136 {} = true := by kernel_rfl
theorem ok137 : fOK T.P 137 {} = true := by kernel_rfl
theorem ok140 : fOK T.P 140 { lp := [(2, ⟨[0, 1, 7, 8], [], [], []⟩)], rt := ⟨[4], [], [], []⟩ } = true := by kernel_rfl
theorem ok141 : fOK T.P 141 {} = true := by kernel_rfl
theorem ok142 : fOK T.P 142 {} = true := by kernel_rfl
theorem ok143 : fOK T.P 143 {} = true := by kernel_rfl
theorem T_ok : T.ok = true := by
  unfold Tld.ok
  exact okc ok3 (okc ok5 (okc ok6 (okc ok7 (okc ok8 (okc ok9 (okc ok10 (okc ok12 (okc ok14 (okc ok18 (okc ok19 (okc ok20 (okc ok21 (okc ok22 (okc ok23 (okc ok24 (okc ok25 (okc ok26 (okc ok27 (okc ok28 (okc ok29 (okc ok30 (okc ok31 (okc ok32 (okc ok33 (okc ok34 (okc ok35 (okc ok36 (okc ok37 (okc ok38 (okc ok39 (okc ok40 (okc ok41 (okc ok42 (okc ok43 (okc ok44 (okc ok45 (okc ok46 (okc ok47 (okc ok48 (okc ok49 (okc ok50 (okc ok51 (okc ok52 (okc ok53 (okc ok54 (okc ok57 (okc ok59 (okc ok73 (okc ok74 (okc ok75 (okc ok76 (okc ok77 (okc ok78 (okc ok79 (okc ok80 (okc ok81 (okc ok82 (okc ok83 (okc ok84 (okc ok85 (okc ok86 (okc ok87 (okc ok88 (okc ok89 (okc ok90 (okc ok91 (okc ok92 (okc ok93 (okc ok94 (okc ok95 (okc ok96 (okc ok97 (okc ok98 (okc ok99 (okc ok100 (okc ok101 (okc ok102 (okc ok103 (okc ok104 (okc ok105 (okc ok106 (okc ok107 (okc ok108 (okc ok109 (okc ok113 (okc ok114 (okc ok115 (okc ok116 (okc ok117 (okc ok118 (okc ok119 (okc ok120 (okc ok121 (okc ok122 (okc ok124 (okc ok125 (okc ok126 (okc ok127 (okc ok128 (okc ok129 (okc ok130 (okc ok131 (okc ok132 (okc ok133 (okc ok134 (okc ok135 (okc ok136 (okc ok137 (okc ok140 (okc ok141 (okc ok142 (okc ok143 (rfl)))))))))))))))))))))))))))))))))))))))))))))))))))))))))))))))))))))))))))))))))))))))))))))))))))))))))))))))))
end Go.Proofs.YtcpelionmmnogaaGreat
