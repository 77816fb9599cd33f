/- What is told of each function passes its check, one by one. No condition. -/
import Derived.Test.YtlnajgoeoklioaaGreatEc
import Derived.Test.YtlnajgoeoklioaaGreatEv6
namespace Go.Proofs.YtlnajgoeoklioaaGreat
open Go Go.Proofs Go.Proofs.YtlnajgoeoklioaaGreat.Am
set_option maxRecDepth 100000
theorem okc {P : Program} {g : FuncId} {a : Ann} {l : List (FuncId × Ann)} (h : fOK P g a = true) (t : (l.all fun p => fOK P p.1 p.2) = true) : (((g, a) :: l).all fun p => fOK P p.1 p.2) = true := by rw [List.all_cons, t, Bool.and_true]; exact h
theorem ok3 : fOK T.P 3 {} = true := by kernel_rfl
theorem ok10 : fOK T.P 10 {} = true := by kernel_rfl
theorem ok11 : fOK T.P 11 {} = true := by kernel_rfl
theorem ok12 : fOK T.P 12 { sh := [.a [0, 8, 3, 3, 5, 4, 5, 4, 0]] } = true := by kernel_rfl
theorem ok13 : fOK T.P 13 {} = true := by kernel_rfl
theorem ok14 : fOK T.P 14 {} = true := by kernel_rfl
theorem ok27 : fOK T.P 27 {} = true := by kernel_rfl
theorem ok29 : fOK T.P 29 {} = true := by kernel_rfl
theorem ok30 : fOK T.P 30 { lp := [(3, ⟨[0, 3, 4], [.s 3 2], [3], [.s 3 2]⟩)], sh := [.z 2] } = true := by kernel_rfl
theorem ok32 : fOK T.P 32 { lp := [(4, ⟨[0, 1, 5], [], [], []⟩)], rt := ⟨[4], [], [], []⟩ } = true := by kernel_rfl
theorem ok34 : fOK T.P 34 {} = true := by kernel_rfl
theorem ok35 : fOK T.P 35 { lp := [(5, ⟨[0, 1, 5], [], [1], []⟩)], rt := ⟨[4], [], [], []⟩ } = true := by kernel_rfl
theorem ok36 : fOK T.P 36 {} = true := by kernel_rfl
theorem ok37 : fOK T.P 37 {} = true := by kernel_rfl
theorem ok38 : fOK T.P 38 {} = true := by kernel_rfl
theorem ok39 : fOK T.P 39 {} = true := by kernel_rfl
theorem ok40 : fOK T.P 40 {} = true := by kernel_rfl
theorem ok41 : fOK T.P 41 { jn := [(1, (48, 3, 48)), (3, (86, 49, 86)), (5, (2, 87, 93))] } = true := by kernel_rfl
theorem ok42 : fOK T.P 42 { jn := [(6, (42, 25, 42))], lp := [(3, ⟨[1, 3, 4], [.s 1 0, .s 3 1], [], []⟩)], rt := ⟨[2], [], [], []⟩ } = true := by kernel_rfl
theorem ok43 : fOK T.P 43 { jn := [(6, (46, 23, 46))], lp := [(2, ⟨[1, 3], [.s 1 0], [], []⟩)], rt := ⟨[2], [], [], []⟩ } = true := by kernel_rfl
theorem ok44 : fOK T.P 44 { jn := [(6, (35, 23, 35)), (7, (48, 36, 48))], lp := [(2, ⟨[1, 3], [.s 1 0], [], []⟩)], rt := ⟨[2], [], [], []⟩ } = true := by kernel_rfl
theorem ok45 : fOK T.P 45 { jn := [(7, (2, 24, 32))], lp := [(4, ⟨[1, 3, 4, 5], [.s 1 0, .s 4 1], [1, 3], [.s 1 0]⟩)] } = true := by kernel_rfl
theorem ok46 : fOK T.P 46 { lp := [(3, ⟨[0, 3, 4], [.s 3 8], [3], [.s 3 8]⟩)], sh := [.z 8] } = true := by kernel_rfl
theorem ok47 : fOK T.P 47 { lp := [(3, ⟨[0, 3, 4], [.s 3 3], [3], [.s 3 3]⟩)], sh := [.z 3] } = true := by kernel_rfl
theorem ok48 : fOK T.P 48 { lp := [(3, ⟨[0, 3, 4], [.s 3 3], [3], [.s 3 3]⟩)], sh := [.z 3] } = true := by kernel_rfl
theorem ok49 : fOK T.P 49 { lp := [(3, ⟨[0, 3, 4], [.s 3 5], [3], [.s 3 5]⟩)], sh := [.z 5] } = true := by kernel_rfl
theorem ok50 : fOK T.P 50 { lp := [(3, ⟨[0, 3, 4], [.s 3 4], [3], [.s 3 4]⟩)], sh := [.z 4] } = true := by kernel_rfl
theorem ok51 : fOK T.P 51 { lp := [(3, ⟨[0, 3, 4], [.s 3 5], [3], [.s 3 5]⟩)], sh := [.z 5] } = true := by kernel_rfl
theorem ok52 : fOK T.P 52 { lp := [(3, ⟨[0, 3, 4], [.s 3 4], [3], [.s 3 4]⟩)], sh := [.z 4] } = true := by kernel_rfl
theorem ok53 : fOK T.P 53 { ord := [(1, [0, 1, 2, 3, 4, 5, 6, 7, 8, 9, 10, 11, 12, 13, 14, 15, 16, 17, 18, 19, 20, 21, 22, 23, 24, 25, 26, 27, 28, 29, 30, 31, 32, 33, 34, 35, 36, 37, 38, 39, 40, 41, 42, 44, 45, 43, 46, 47, 48, 49, 50, 51, 52, 53])], jn := [(1, (2, 3, 56))] } = true := by kernel_rfl
theorem ok54 : fOK T.P 54 { jn := [(6, (38, 22, 38))], lp := [(3, ⟨[1, 3, 13, 14, 15], [.s 1 0, .s 3 1], [], []⟩)], rt := ⟨[2], [], [], []⟩ } = true := by kernel_rfl
theorem ok55 : fOK T.P 55 { jn := [(4, (20, 13, 20)), (6, (38, 26, 38))], lp := [(2, ⟨[1, 7, 8, 9], [.s 1 0], [], []⟩)], rt := ⟨[2], [], [], []⟩ } = true := by kernel_rfl
theorem ok56 : fOK T.P 56 { jn := [(4, (20, 13, 20)), (6, (38, 26, 38))], lp := [(2, ⟨[1, 7, 8, 9], [.s 1 0], [], []⟩)], rt := ⟨[2], [], [], []⟩ } = true := by kernel_rfl
theorem ok57 : fOK T.P 57 { jn := [(7, (2, 21, 29))], lp := [(3, ⟨[1, 3, 8, 9, 10], [.s 1 0, .s 8 1], [1, 3], [.s 1 0]⟩)] } = true := by kernel_rfl
theorem ok58 : fOK T.P 58 { lp := [(4, ⟨[0, 1, 5], [], [], []⟩)], rt := ⟨[4], [], [], []⟩ } = true := by kernel_rfl
theorem ok59 : fOK T.P 59 { lp := [(4, ⟨[0, 1, 5], [], [], []⟩)], rt := ⟨[4], [], [], []⟩ } = true := by kernel_rfl
theorem ok60 : fOK T.P 60 { lp := [(4, ⟨[0, 1, 5], [], [], []⟩)], rt := ⟨[4], [], [], []⟩ } = true := by kernel_rfl
theorem ok61 : fOK T.P 61 { lp := [(4, ⟨[0, 1, 5], [], [], []⟩)], rt := ⟨[4], [], [], []⟩ } = true := by kernel_rfl
theorem ok62 : fOK T.P 62 { lp := [(4, ⟨[0, 1, 5], [], [], []⟩)], rt := ⟨[4], [], [], []⟩ } = true := by kernel_rfl
theorem ok63 : fOK T.P 63 { lp := [(4, ⟨[0, 1, 5], [], [], []⟩)], rt := ⟨[4], [], [], []⟩ } = true := by kernel_rfl
theorem ok64 : fOK T.P 64 { lp := [(4, ⟨[0, 1, 5], [], [], []⟩)], rt := ⟨[4], [], [], []⟩ } = true := by kernel_rfl
theorem ok66 : fOK T.P 66 { jn := [(1, (6, 7, 15))] } = true := by kernel_rfl
theorem ok70 : fOK T.P 70 { jn := [(1, (6, 7, 15))] } = true := by kernel_rfl
theorem ok86 : fOK T.P 86 { sh := [.z 2] } = true := by kernel_rfl
theorem ok88 : fOK T.P 88 { jn := [(1, (5, 6, 19)), (3, (19, 20, 30))] } = true := by kernel_rfl
theorem ok90 : fOK T.P 90 { sh := [.z 2] } = true := by kernel_rfl
theorem ok92 : fOK T.P 92 { jn := [(1, (5, 6, 19)), (3, (19, 20, 30))] } = true := by kernel_rfl
theorem ok95 : fOK T.P 95 { jn := [(4, (22, 12, 22))], lp := [(2, ⟨[0, 1, 5], [], [], []⟩)], rt := ⟨[4], [], [], []⟩ } = true := by kernel_rfl
theorem ok97 : fOK T.P 97 {} = true := by kernel_rfl
theorem ok100 : fOK T.P 100 { lp := [(2, ⟨[0, 1, 5], [], [], []⟩)], rt := ⟨[4], [], [], []⟩ } = true := by kernel_rfl
theorem ok116 : fOK T.P 116 {} = true := by kernel_rfl
theorem ok117 : fOK T.P 117 {} = true := by kernel_rfl
theorem ok122 : fOK T.P 122 {} = true := by kernel_rfl
theorem ok123 : fOK T.P 123 {} = true := by kernel_rfl
theorem ok124 : fOK T.P 124 { jn := [(4, (35, 10, 35))], lp := [(2, ⟨[0, 3], [], [0], []⟩)], rt := ⟨[2], [], [], []⟩ } = true := by kernel_rfl
theorem ok125 : fOK T.P 125 { jn := [(4, (61, 10, 61))], lp := [(2, ⟨[0, 3], [], [0], []⟩)], rt := ⟨[2], [], [], []⟩ } = true := by kernel_rfl
theorem ok126 : fOK T.P 126 { jn := [(4, (53, 11, 53)), (9, (77, 59, 77))], lp := [(2, ⟨[0, 3], [], [0], []⟩), (7, ⟨[0, 3, 4], [], [0, 3], []⟩)], rt := ⟨[2], [], [], []⟩ } = true := by kernel_rfl
theorem ok127 : fOK T.P 127 { jn := [(5, (58, 16, 58)), (10, (84, 64, 84))], lp := [(2, ⟨[0, 3], [], [0], []⟩), (8, ⟨[0, 3, 4, 5], [.s 4 0], [0, 3], []⟩)], rt := ⟨[2], [], [], []⟩ } = true := by kernel_rfl
theorem ok128 : fOK T.P 128 { jn := [(3, (15, 7, 15)), (7, (67, 25, 67)), (10, (96, 73, 96))], lp := [(3, ⟨[0, 3, 4], [], [0], []⟩)], rt := ⟨[2], [], [], []⟩ } = true := by kernel_rfl
theorem ok129 : fOK T.P 129 { jn := [(5, (58, 15, 58))], lp := [(2, ⟨[0, 3], [], [0], []⟩)], rt := ⟨[2], [], [], []⟩ } = true := by kernel_rfl
theorem ok130 : fOK T.P 130 { ord := [(13, [0, 1, 2, 3, 4, 5, 6, 7, 8, 9, 10, 11, 14, 15, 12, 13, 16, 17, 18, 19, 20, 21, 22, 23, 24, 25, 26, 27, 28, 29])], jn := [(13, (77, 48, 77)), (18, (103, 85, 103))], lp := [(5, ⟨[1, 3, 4], [.s 1 0, .s 3 1], [1, 3], [.s 1 0, .s 3 1]⟩), (10, ⟨[1, 3, 5], [.s 1 0, .s 3 1], [1], [.s 1 0]⟩), (16, ⟨[1, 7], [.s 1 0], [], []⟩)], rt := ⟨[2], [], [], []⟩ } = true := by kernel_rfl
theorem ok131 : fOK T.P 131 { ord := [(8, [0, 1, 2, 3, 4, 5, 6, 7, 8, 9, 10, 11, 12, 13, 14, 15, 16, 17, 18, 19, 20, 21, 22, 23, 24, 25, 26, 27, 28, 29, 30, 32, 33, 34, 35, 36, 38, 31, 37, 39, 40, 41, 42, 43, 44, 45, 46, 47])], jn := [(8, (77, 30, 77))], lp := [(4, ⟨[1, 3], [.s 1 0], [], []⟩)], rt := ⟨[2], [], [], []⟩ } = true := by kernel_rfl
theorem ok132 : fOK T.P 132 { jn := [(3, (16, 9, 16)), (6, (42, 28, 42))], lp := [(3, ⟨[0, 1, 5, 6], [.s 5 1], [5], [.s 5 1]⟩)], sh := [.z 1] } = true := by kernel_rfl
theorem ok133 : fOK T.P 133 { lp := [(3, ⟨[0, 1, 5, 6], [.s 5 5], [5], [.s 5 5]⟩)], sh := [.z 5] } = true := by kernel_rfl
theorem ok134 : fOK T.P 134 { lp := [(2, ⟨[0, 1, 5], [], [], []⟩)], rt := ⟨[4], [], [], []⟩ } = true := by kernel_rfl
theorem ok135 : fOK T.P 135 { jn := [(4, (41, 13, 41))], lp := [(2, ⟨[2, 3, 5], [.s 2 0, .s 3 0], [], []⟩)], rt := ⟨[4], [], [], []⟩ } = true := by kernel_rfl
theorem ok136 : fOK T.P 136 { jn := [(1, (4, 5, 13))] } = true := by kernel_rfl
theorem ok137 : fOK T.P 137 { ord := [(5, [0, 1, 2, 3, 4, 5, 7, 8, 9, 10, 11, 6, 12, 13])], lp := [(3, ⟨[0, 3, 4], [.s 3 1], [3], [.s 3 1]⟩)], sh := [.z 1] } = true := by kernel_rfl
theorem ok138 : fOK T.P 138 { jn := [(3, (14, 7, 14))], lp := [(3, ⟨[0, 1, 5, 6], [], [5], []⟩)] } = true := by kernel_rfl
theorem ok139 : fOK T.P 139 { sh := [.a [0, 2, 0]] } = true := by kernel_rfl
theorem ok140 : fOK T.P 140 {} = true := by kernel_rfl
theorem ok141 : fOK T.P 141 {} = true := by kernel_rfl
theorem ok142 : fOK T.P 142 {} = true := by kernel_rfl
theorem ok143 : fOK T.P 143 {} = true := by kernel_rfl
theorem ok144 : fOK T.P 144 {} = true := by kernel_rfl
theorem ok145 : fOK T.P 145 { jn := [(6, (34, 15, 34))], lp := [(4, ⟨[0, 8, 9, 10], [], [], []⟩)], rt := ⟨[2], [], [], []⟩ } = true := by kernel_rfl
theorem ok146 : fOK T.P 146 { jn := [(6, (51, 15, 51))], lp := [(4, ⟨[0, 8, 9, 10], [], [], []⟩)], rt := ⟨[2], [], [], []⟩ } = true := by kernel_rfl
theorem ok147 : fOK T.P 147 { jn := [(6, (54, 15, 54))], lp := [(4, ⟨[0, 8, 9, 10], [], [], []⟩)], rt := ⟨[2], [], [], []⟩ } = true := by kernel_rfl
theorem ok148 : fOK T.P 148 { jn := [(6, (59, 17, 59)), (11, (82, 68, 82))], lp := [(4, ⟨[0, 10, 11, 12], [], [], []⟩), (9, ⟨[0, 4, 10, 11, 12, 62, 63, 64], [.s 4 0], [0, 10, 11, 12], []⟩)], rt := ⟨[2], [], [], []⟩ } = true := by kernel_rfl
theorem ok149 : fOK T.P 149 { jn := [(7, (61, 17, 61)), (13, (83, 73, 83))], lp := [(5, ⟨[0, 3, 10, 11, 12], [], [], []⟩)], rt := ⟨[2], [], [], []⟩ } = true := by kernel_rfl
theorem ok150 : fOK T.P 150 { jn := [(6, (58, 15, 58))], lp := [(4, ⟨[0, 8, 9, 10], [], [], []⟩)], rt := ⟨[2], [], [], []⟩ } = true := by kernel_rfl
theorem ok151 : fOK T.P 151 { ord := [(7, [0, 1, 2, 3, 4, 5, 6, 7, 8, 9, 10, 11, 12, 13, 14, 15, 18, 19, 20, 21, 16, 17, 22, 23, 24])], jn := [(7, (54, 30, 54)), (13, (73, 63, 73))], lp := [(5, ⟨[1, 3, 23, 24, 25], [.s 1 0, .s 3 1], [1, 3], [.s 1 0, .s 3 1]⟩), (11, ⟨[1, 3, 57, 58, 59], [.s 1 0, .s 3 1], [1, 3], [.s 1 0, .s 3 1]⟩), (17, ⟨[1, 75, 76, 77], [.s 1 0, .s 75 1], [], []⟩)], rt := ⟨[2], [], [], []⟩ } = true := by kernel_rfl
theorem ok152 : fOK T.P 152 { ord := [(7, [0, 1, 2, 3, 4, 5, 6, 7, 8, 9, 10, 11, 12, 13, 14, 15, 16, 17, 18, 19, 20, 21, 22, 24, 26, 27, 23, 25, 28, 29, 30])], jn := [(7, (56, 26, 56))], lp := [(4, ⟨[1, 14, 15, 16], [.s 1 0], [], []⟩)], rt := ⟨[2], [], [], []⟩ } = true := by kernel_rfl
theorem ok153 : fOK T.P 153 { lp := [(3, ⟨[1, 3, 13, 14, 15], [.s 1 0], [1, 3], [.s 1 0]⟩), (8, ⟨[1, 3, 25, 26, 27], [.s 1 0], [1, 3], [.s 1 0]⟩), (13, ⟨[1, 3, 37, 38, 39], [.s 1 0], [1, 3], [.s 1 0]⟩), (18, ⟨[3, 49, 50, 51], [], [3], []⟩)] } = true := by kernel_rfl
theorem ok154 : fOK T.P 154 { ac := [(10, 0)], jn := [(7, (36, 20, 36))], lp := [(5, ⟨[0, 1, 5, 13, 14, 15], [.s 5 1], [5], [.s 5 1]⟩)], sh := [.z 1] } = true := by kernel_rfl
theorem ok155 : fOK T.P 155 { lp := [(2, ⟨[0, 1, 5], [], [], []⟩)], rt := ⟨[4], [], [], []⟩ } = true := by kernel_rfl
theorem ok156 : fOK T.P 156 {} = true := by kernel_rfl
theorem ok157 : fOK T.P 157 { jn := [(1, (4, 5, 14))] } = true := by kernel_rfl
theorem ok158 : fOK T.P 158 {} = true := by kernel_rfl
theorem ok159 : fOK T.P 159 { jn := [(1, (4, 5, 13))] } = true := by kernel_rfl
theorem ok160 : fOK T.P 160 { lp := [(3, ⟨[3, 7, 8, 9], [.s 3 1], [3], [.s 3 1]⟩)], sh := [.z 1] } = true := by kernel_rfl
theorem ok161 : fOK T.P 161 {} = true := by kernel_rfl
theorem ok162 : fOK T.P 162 {} = true := by kernel_rfl
theorem ok163 : fOK T.P 163 {} = true := by kernel_rfl
theorem ok164 : fOK T.P 164 {} = true := by kernel_rfl
theorem ok165 : fOK T.P 165 {} = true := by kernel_rfl
theorem ok166 : fOK T.P 166 {} = true := by kernel_rfl
theorem ok167 : fOK T.P 167 {} = true := by kernel_rfl
theorem ok168 : fOK T.P 168 {} = true := by kernel_rfl
theorem ok179 : fOK T.P 179 { lp := [(2, ⟨[0, 1, 5], [], [], []⟩)], rt := ⟨[4], [], [], []⟩ } = true := by kernel_rfl
theorem ok182 : fOK T.P 182 { jn := [(1, (2, 3, 26))] } = true := by kernel_rfl
theorem ok183 : fOK T.P 183 { jn := [(4, (43, 10, 43))], lp := [(2, ⟨[0, 3], [], [0], []⟩)], rt := ⟨[2], [], [], []⟩ } = true := by kernel_rfl
theorem ok184 : fOK T.P 184 {} = true := by kernel_rfl
theorem ok185 : fOK T.P 185 { lp := [(2, ⟨[0, 1, 7, 8], [], [], []⟩)], rt := ⟨[4], [], [], []⟩ } = true := by kernel_rfl
theorem ok187 : fOK T.P 187 {} = true := by kernel_rfl
theorem ok188 : fOK T.P 188 { sh := [.z 2] } = true := by kernel_rfl
theorem ok191 : fOK T.P 191 { jn := [(1, (2, 3, 26))] } = true := by kernel_rfl
theorem ok192 : fOK T.P 192 { jn := [(6, (39, 15, 39))], lp := [(4, ⟨[0, 8, 9, 10], [], [], []⟩)], rt := ⟨[2], [], [], []⟩ } = true := by kernel_rfl
theorem ok193 : fOK T.P 193 {} = true := by kernel_rfl
theorem ok194 : fOK T.P 194 {} = true := by kernel_rfl
theorem ok197 : fOK T.P 197 { lp := [(2, ⟨[0, 1, 7, 8], [], [], []⟩)], rt := ⟨[4], [], [], []⟩ } = true := by kernel_rfl
theorem ok198 : fOK T.P 198 {} = true := by kernel_rfl
theorem ok203 : fOK T.P 203 { jn := [(1, (2, 3, 26))] } = true := by kernel_rfl
theorem ok204 : fOK T.P 204 {} = true := by kernel_rfl
theorem ok206 : fOK T.P 206 { jn := [(1, (2, 3, 26))] } = true := by kernel_rfl
theorem ok209 : fOK T.P 209 {} = true := by kernel_rfl
theorem ok213 : fOK T.P 213 {} = true := by kernel_rfl
theorem ok214 : fOK T.P 214 { jn := [(1, (2, 3, 21))] } = true := by kernel_rfl
theorem ok215 : fOK T.P 215 { lp := [(3, ⟨[0, 1, 2, 7, 8], [], [7], []⟩)] } = true := by kernel_rfl
theorem ok216 : fOK T.P 216 { ot := [(6, .one 1 (.one 2 (.one 3 (.one 5 (.one 8 (.one 9 (.one 10 (.alt (.one 0 (.alt (.one 4 (.one 6 (.one 7 (.one 11 (.one 12 (.done)))))) (.one 6 (.one 4 (.one 7 (.one 11 (.one 12 (.done)))))))) (.one 6 (.one 0 (.one 4 (.one 7 (.one 11 (.one 12 (.done)))))))))))))))], jn := [(2, (17, 6, 17)), (4, (31, 20, 31))], lp := [(2, ⟨[0, 1, 5], [], [0, 1, 5], []⟩)], sh := [.z 1] } = true := by kernel_rfl
theorem ok217 : fOK T.P 217 {} = true := by kernel_rfl
theorem ok218 : fOK T.P 218 { jn := [(1, (2, 3, 21))] } = true := by kernel_rfl
theorem ok219 : fOK T.P 219 {} = true := by kernel_rfl
theorem ok220 : fOK T.P 220 {} = true := by kernel_rfl
theorem ok222 : fOK T.P 222 { lp := [(2, ⟨[0, 1, 7, 8], [], [], []⟩)], rt := ⟨[4], [], [], []⟩ } = true := by kernel_rfl
theorem ok223 : fOK T.P 223 { jn := [(1, (3, 4, 21))] } = true := by kernel_rfl
theorem ok224 : fOK T.P 224 { lp := [(2, ⟨[0, 1, 7, 8], [], [], []⟩)], rt := ⟨[4], [], [], []⟩ } = true := by kernel_rfl
theorem ok225 : fOK T.P 225 {} = true := by kernel_rfl
theorem ok226 : fOK T.P 226 {} = true := by kernel_rfl
theorem ok227 : fOK T.P 227 { ac := [(2, 0), (3, 0)], sh := [.z 1] } = true := by kernel_rfl
theorem ok228 : fOK T.P 228 { lp := [(3, ⟨[1, 5, 8, 9, 10], [], [5], []⟩)] } = true := by kernel_rfl
theorem ok229 : fOK T.P 229 { lp := [(5, ⟨[1, 5, 12, 13, 14], [], [5], []⟩)] } = true := by kernel_rfl
theorem ok230 : fOK T.P 230 {} = true := by kernel_rfl
theorem ok233 : fOK T.P 233 { lp := [(2, ⟨[0, 1, 7, 8], [], [], []⟩)], rt := ⟨[4], [], [], []⟩ } = true := by kernel_rfl
theorem ok234 : fOK T.P 234 {} = true := by kernel_rfl
theorem ok239 : fOK T.P 239 { lp := [(3, ⟨[0, 3, 4], [], [3], []⟩)] } = true := by kernel_rfl
theorem ok244 : fOK T.P 244 { lp := [(3, ⟨[3, 6, 7, 8], [], [3], []⟩)] } = true := by kernel_rfl
theorem ok245 : fOK T.P 245 { jn := [(5, (10, 11, 17))] } = true := by kernel_rfl
theorem ok248 : fOK T.P 248 {} = true := by kernel_rfl
theorem ok249 : fOK T.P 249 { lp := [(3, ⟨[0, 3, 9, 10, 11], [], [0, 3], []⟩), (11, ⟨[6, 25, 26, 27], [.s 6 1], [6], [.s 6 1]⟩)], sh := [.z 1] } = true := by kernel_rfl
theorem ok251 : fOK T.P 251 {} = true := by kernel_rfl
theorem ok256 : fOK T.P 256 {} = true := by kernel_rfl
theorem ok272 : fOK T.P 272 {} = true := by kernel_rfl
theorem T_ok : T.ok = true := by
  unfold Tld.ok
  exact okc ok3 (okc ok10 (okc ok11 (okc ok12 (okc ok13 (okc ok14 (okc ok27 (okc ok29 (okc ok30 (okc ok32 (okc ok34 (okc ok35 (okc ok36 (okc ok37 (okc ok38 (okc ok39 (okc ok40 (okc ok41 (okc ok42 (okc ok43 (okc ok44 (okc ok45 (okc ok46 (okc ok47 (okc ok48 (okc ok49 (okc ok50 (okc ok51 (okc ok52 (okc ok53 (okc ok54 (okc ok55 (okc ok56 (okc ok57 (okc ok58 (okc ok59 (okc ok60 (okc ok61 (okc ok62 (okc ok63 (okc ok64 (okc ok66 (okc ok70 (okc ok86 (okc ok88 (okc ok90 (okc ok92 (okc ok95 (okc ok97 (okc ok100 (okc ok116 (okc ok117 (okc ok122 (okc ok123 (okc ok124 (okc ok125 (okc ok126 (okc ok127 (okc ok128 (okc ok129 (okc ok130 (okc ok131 (okc ok132 (okc ok133 (okc ok134 (okc ok135 (okc ok136 (okc ok137 (okc ok138 (okc ok139 (okc ok140 (okc ok141 (okc ok142 (okc ok143 (okc ok144 (okc ok145 (okc ok146 (okc ok147 (okc ok148 (okc ok149 (okc ok150 (okc ok151 (okc ok152 (okc ok153 (okc ok154 (okc ok155 (okc ok156 (okc ok157 (okc ok158 (okc ok159 (okc ok160 (okc ok161 (okc ok162 (okc ok163 (okc ok164 (okc ok165 (okc ok166 (okc ok167 (okc ok168 (okc ok179 (okc ok182 (okc ok183 (okc ok184 (okc ok185 (okc ok187 (okc ok188 (okc ok191 (okc ok192 (okc ok193 (okc ok194 (okc ok197 (okc ok198 (okc ok203 (okc ok204 (okc ok206 (okc ok209 (okc ok213 (okc ok214 (okc ok215 (okc ok216 (okc ok217 (okc ok218 (okc ok219 (okc ok220 (okc ok222 (okc ok223 (okc ok224 (okc ok225 (okc ok226 (okc ok227 (okc ok228 (okc ok229 (okc ok230 (okc ok233 (okc ok234 (okc ok239 (okc ok244 (okc ok245 (okc ok248 (okc ok249 (okc ok251 (okc ok256 (okc ok272 (rfl)))))))))))))))))))))))))))))))))))))))))))))))))))))))))))))))))))))))))))))))))))))))))))))))))))))))))))))))))))))))))))))))))))))))))))))))
end Go.Proofs.YtlnajgoeoklioaaGreat
