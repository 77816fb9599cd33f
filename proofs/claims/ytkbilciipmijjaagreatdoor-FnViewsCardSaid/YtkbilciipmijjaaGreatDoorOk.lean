/- What is told of each function passes its check, one by one. No condition. -/
import Derived.Test.YtkbilciipmijjaaGreatDoorEc
import Derived.Test.YtkbilciipmijjaaGreatDoorEvD
namespace Go.Proofs.YtkbilciipmijjaaGreatDoor
open Go Go.Proofs Go.Proofs.YtkbilciipmijjaaGreatDoor.Am
set_option maxRecDepth 100000
theorem okc {P : Program} {g : FuncId} {a : Ann} {l : List (FuncId × Ann)} (h : fOK P g a = true) (t : (l.all fun p => fOK P p.1 p.2) = true) : (((g, a) :: l).all fun p => fOK P p.1 p.2) = true := by rw [List.all_cons, t, Bool.and_true]; exact h
theorem ok3 : fOK T.P 3 An3 = true := by kernel_rfl
theorem ok4 : fOK T.P 4 An4 = true := by kernel_rfl
theorem ok5 : fOK T.P 5 An5 = true := by kernel_rfl
theorem ok6 : fOK T.P 6 An6 = true := by kernel_rfl
theorem ok7 : fOK T.P 7 An7 = true := by kernel_rfl
theorem ok8 : fOK T.P 8 An8 = true := by kernel_rfl
theorem ok9 : fOK T.P 9 An9 = true := by kernel_rfl
theorem ok10 : fOK T.P 10 An10 = true := by kernel_rfl
theorem ok11 : fOK T.P 11 An11 = true := by kernel_rfl
theorem ok12 : fOK T.P 12 An12 = true := by kernel_rfl
theorem ok13 : fOK T.P 13 An13 = true := by kernel_rfl
theorem ok14 : fOK T.P 14 An14 = true := by kernel_rfl
theorem ok15 : fOK T.P 15 An15 = true := by kernel_rfl
theorem ok16 : fOK T.P 16 An16 = true := by kernel_rfl
theorem ok17 : fOK T.P 17 An17 = true := by kernel_rfl
theorem ok18 : fOK T.P 18 An18 = true := by kernel_rfl
theorem ok19 : fOK T.P 19 An19 = true := by kernel_rfl
theorem ok20 : fOK T.P 20 An20 = true := by kernel_rfl
theorem ok21 : fOK T.P 21 An21 = true := by kernel_rfl
theorem ok22 : fOK T.P 22 An22 = true := by kernel_rfl
theorem ok23 : fOK T.P 23 An23 = true := by kernel_rfl
theorem ok24 : fOK T.P 24 An24 = true := by kernel_rfl
theorem ok26 : fOK T.P 26 An26 = true := by kernel_rfl
theorem ok28 : fOK T.P 28 An28 = true := by kernel_rfl
theorem ok29 : fOK T.P 29 An29 = true := by kernel_rfl
theorem ok30 : fOK T.P 30 An30 = true := by kernel_rfl
theorem ok32 : fOK T.P 32 An32 = true := by kernel_rfl
theorem ok36 : fOK T.P 36 An36 = true := by kernel_rfl
theorem ok37 : fOK T.P 37 An37 = true := by kernel_rfl
theorem ok38 : fOK T.P 38 An38 = true := by kernel_rfl
theorem ok39 : fOK T.P 39 An39 = true := by kernel_rfl
theorem ok40 : fOK T.P 40 An40 = true := by kernel_rfl
theorem ok41 : fOK T.P 41 An41 = true := by kernel_rfl
theorem ok42 : fOK T.P 42 An42 = true := by kernel_rfl
theorem ok44 : fOK T.P 44 An44 = true := by kernel_rfl
theorem ok45 : fOK T.P 45 An45 = true := by kernel_rfl
theorem ok48 : fOK T.P 48 An48 = true := by kernel_rfl
theorem ok49 : fOK T.P 49 An49 = true := by kernel_rfl
theorem ok50 : fOK T.P 50 An50 = true := by kernel_rfl
theorem ok51 : fOK T.P 51 An51 = true := by kernel_rfl
theorem ok52 : fOK T.P 52 An52 = true := by kernel_rfl
theorem ok53 : fOK T.P 53 An53 = true := by kernel_rfl
theorem ok54 : fOK T.P 54 An54 = true := by kernel_rfl
theorem ok55 : fOK T.P 55 An55 = true := by kernel_rfl
theorem ok56 : fOK T.P 56 An56 = true := by kernel_rfl
theorem ok57 : fOK T.P 57 An57 = true := by kernel_rfl
theorem ok58 : fOK T.P 58 An58 = true := by kernel_rfl
theorem ok63 : fOK T.P 63 An63 = true := by kernel_rfl
theorem ok64 : fOK T.P 64 An64 = true := by kernel_rfl
theorem ok67 : fOK T.P 67 An67 = true := by kernel_rfl
theorem ok68 : fOK T.P 68 An68 = true := by kernel_rfl
theorem ok69 : fOK T.P 69 An69 = true := by kernel_rfl
theorem ok70 : fOK T.P 70 An70 = true := by kernel_rfl
theorem ok71 : fOK T.P 71 An71 = true := by kernel_rfl
theorem ok72 : fOK T.P 72 An72 = true := by kernel_rfl
theorem ok73 : fOK T.P 73 An73 = true := by kernel_rfl
theorem ok74 : fOK T.P 74 An74 = true := by kernel_rfl
theorem ok75 : fOK T.P 75 An75 = true := by kernel_rfl
theorem ok76 : fOK T.P 76 An76 = true := by kernel_rfl
theorem ok77 : fOK T.P 77 An77 = true := by kernel_rfl
theorem ok78 : fOK T.P 78 An78 = true := by kernel_rfl
theorem ok79 : fOK T.P 79 An79 = true := by kernel_rfl
theorem ok80 : fOK T.P 80 An80 = true := by kernel_rfl
theorem ok81 : fOK T.P 81 An81 = true := by kernel_rfl
theorem ok82 : fOK T.P 82 An82 = true := by kernel_rfl
theorem ok88 : fOK T.P 88 An88 = true := by kernel_rfl
theorem ok89 : fOK T.P 89 An89 = true := by kernel_rfl
theorem ok90 : fOK T.P 90 An90 = true := by kernel_rfl
theorem ok91 : fOK T.P 91 An91 = true := by kernel_rfl
theorem ok92 : fOK T.P 92 An92 = true := by kernel_rfl
theorem ok93 : fOK T.P 93 An93 = true := by kernel_rfl
theorem ok94 : fOK T.P 94 An94 = true := by kernel_rfl
theorem ok95 : fOK T.P 95 An95 = true := by kernel_rfl
theorem ok96 : fOK T.P 96 An96 = true := by kernel_rfl
theorem ok97 : fOK T.P 97 An97 = true := by kernel_rfl
theorem ok98 : fOK T.P 98 An98 = true := by kernel_rfl
theorem ok101 : fOK T.P 101 An101 = true := by kernel_rfl
theorem ok102 : fOK T.P 102 An102 = true := by kernel_rfl
theorem ok103 : fOK T.P 103 An103 = true := by kernel_rfl
theorem ok104 : fOK T.P 104 An104 = true := by kernel_rfl
theorem ok105 : fOK T.P 105 An105 = true := by kernel_rfl
theorem ok106 : fOK T.P 106 An106 = true := by kernel_rfl
theorem T_ok : T.ok = true := by
  unfold Tld.ok
  exact okc ok3 (okc ok4 (okc ok5 (okc ok6 (okc ok7 (okc ok8 (okc ok9 (okc ok10 (okc ok11 (okc ok12 (okc ok13 (okc ok14 (okc ok15 (okc ok16 (okc ok17 (okc ok18 (okc ok19 (okc ok20 (okc ok21 (okc ok22 (okc ok23 (okc ok24 (okc ok26 (okc ok28 (okc ok29 (okc ok30 (okc ok32 (okc ok36 (okc ok37 (okc ok38 (okc ok39 (okc ok40 (okc ok41 (okc ok42 (okc ok44 (okc ok45 (okc ok48 (okc ok49 (okc ok50 (okc ok51 (okc ok52 (okc ok53 (okc ok54 (okc ok55 (okc ok56 (okc ok57 (okc ok58 (okc ok63 (okc ok64 (okc ok67 (okc ok68 (okc ok69 (okc ok70 (okc ok71 (okc ok72 (okc ok73 (okc ok74 (okc ok75 (okc ok76 (okc ok77 (okc ok78 (okc ok79 (okc ok80 (okc ok81 (okc ok82 (okc ok88 (okc ok89 (okc ok90 (okc ok91 (okc ok92 (okc ok93 (okc ok94 (okc ok95 (okc ok96 (okc ok97 (okc ok98 (okc ok101 (okc ok102 (okc ok103 (okc ok104 (okc ok105 (okc ok106 (rfl))))))))))))))))))))))))))))))))))))))))))))))))))))))))))))))))))))))))))))))))))
end Go.Proofs.YtkbilciipmijjaaGreatDoor
