/- The program's functions, as the evaluator takes them: part 1. -/
import Derived.Test.YtohmnikaeoaacaaGreatV4
namespace Go.Vm.T
def a8 : AFunc :=
 { np := 0, nt := 58, mv := false, res := [(.tmp 0)], code :=
 (.seq (.region [A 0 (.mv (.c (.bool false)))] [])
 (.seq (.seq (.region [A 4 (.call 17 []),
 A 5 (.un .not (.t 4))] [])
 (.cond (.t 5) (.seq (.region [A 0 (.mv (.c (.bool false)))] [])
 .ret) .skip))
 (.seq (.region [A 6 (.call 21 [(.c (.int .u8 0))]),
 A 1 (.alloc 30 [(.v .nil), (.v .nil), (.v .nil), (.v .nil), (.v .nil), (.v .nil), (.v (.int .i64 0))]),
 ⟨none, (.store 7 (.t 1) (.t 6)), none, 0⟩] [])
 (.seq (.region [A 8 (.load 7 true (.t 1)),
 A 9 (.call 18 [(.t 8)]),
 A 7 (.mv (.t 9)),
 A 10 (.ext (.t 7) 0),
 A 11 (.ext (.t 7) 1),
 A 2 (.alloc 47 [(.v .nil), (.v .nil)]),
 ⟨none, (.store 2 (.t 2) (.t 10)), none, 0⟩,
 A 3 (.mv (.t 11))] [])
 (.seq (.seq (.region [A 12 (.mv (.t 3)),
 A 13 (.bin .neq (.t 12) (.c (.int .i64 0)))] [])
 (.cond (.t 13) (.seq (.region [A 0 (.mv (.c (.bool false)))] [])
 .ret) .skip))
 (.seq (.region [A 14 (.load 7 true (.t 1)),
 A 15 (.load 2 true (.t 2)),
 A 16 (.litF 3 1 2 [(.int .i64 0)] [(0, (.c (.int .i64 0))), (1, (.c (.int .i64 1)))]),
 A 17 (.call 22 [(.t 14), (.t 15), (.t 16)]),
 A 18 (.mv (.t 17)),
 ⟨some 19, (.load 7 true (.t 1)), (some (18, true)), 0⟩,
 ⟨some 20, (.load 2 true (.t 2)), (some (18, true)), 0⟩,
 ⟨some 21, (.litF 3 1 4 [(.int .i64 0)] [(0, (.c (.int .i64 0))), (1, (.c (.int .i64 0))), (2, (.c (.int .i64 1))), (3, (.c (.int .i64 1)))]), (some (18, true)), 0⟩,
 ⟨some 22, (.call 22 [(.t 19), (.t 20), (.t 21)]), (some (18, true)), 0⟩,
 A 23 (.pick (.t 18) (.t 22) (.c (.bool false))),
 A 24 (.mv (.t 23)),
 ⟨some 25, (.load 7 true (.t 1)), (some (24, true)), 0⟩,
 ⟨some 26, (.load 2 true (.t 2)), (some (24, true)), 0⟩,
 ⟨some 27, (.litF 3 1 1 [(.int .i64 0)] [(0, (.c (.int .i64 0)))]), (some (24, true)), 0⟩,
 ⟨some 28, (.call 22 [(.t 25), (.t 26), (.t 27)]), (some (24, true)), 0⟩,
 ⟨some 29, (.un .not (.t 28)), (some (24, true)), 0⟩,
 A 30 (.pick (.t 24) (.t 29) (.c (.bool false))),
 A 31 (.mv (.t 30)),
 ⟨some 32, (.load 7 true (.t 1)), (some (31, true)), 0⟩,
 ⟨some 33, (.load 2 true (.t 2)), (some (31, true)), 0⟩,
 ⟨some 34, (.litF 3 1 1 [(.int .i64 0)] [(0, (.c (.int .i64 1)))]), (some (31, true)), 0⟩,
 ⟨some 35, (.call 22 [(.t 32), (.t 33), (.t 34)]), (some (31, true)), 0⟩,
 ⟨some 36, (.un .not (.t 35)), (some (31, true)), 0⟩,
 A 37 (.pick (.t 31) (.t 36) (.c (.bool false))),
 A 38 (.mv (.t 37)),
 ⟨some 39, (.load 7 true (.t 1)), (some (38, true)), 0⟩,
 ⟨some 40, (.load 2 true (.t 2)), (some (38, true)), 0⟩,
 ⟨some 41, (.call 22 [(.t 39), (.t 40), (.c .nil)]), (some (38, true)), 0⟩,
 ⟨some 42, (.un .not (.t 41)), (some (38, true)), 0⟩,
 A 43 (.pick (.t 38) (.t 42) (.c (.bool false))),
 A 44 (.mv (.t 43)),
 ⟨some 45, (.load 7 true (.t 1)), (some (44, true)), 0⟩,
 ⟨some 46, (.load 2 true (.t 2)), (some (44, true)), 0⟩,
 ⟨some 47, (.litF 3 1 4 [(.int .i64 0)] [(0, (.c (.int .i64 0))), (1, (.c (.int .i64 1))), (2, (.c (.int .i64 0))), (3, (.c (.int .i64 1)))]), (some (44, true)), 0⟩,
 ⟨some 48, (.call 22 [(.t 45), (.t 46), (.t 47)]), (some (44, true)), 0⟩,
 ⟨some 49, (.un .not (.t 48)), (some (44, true)), 0⟩,
 A 50 (.pick (.t 44) (.t 49) (.c (.bool false))),
 A 51 (.mv (.t 50)),
 ⟨some 52, (.load 7 true (.t 1)), (some (51, true)), 0⟩,
 ⟨some 53, (.load 2 true (.t 2)), (some (51, true)), 0⟩,
 ⟨some 54, (.litF 3 1 3 [(.int .i64 0)] [(0, (.c (.int .i64 0))), (1, (.c (.int .i64 0))), (2, (.c (.int .i64 1)))]), (some (51, true)), 0⟩,
 ⟨some 55, (.call 22 [(.t 52), (.t 53), (.t 54)]), (some (51, true)), 0⟩,
 ⟨some 56, (.un .not (.t 55)), (some (51, true)), 0⟩,
 A 57 (.pick (.t 51) (.t 56) (.c (.bool false))),
 A 0 (.mv (.t 57))] [])
 .ret)))))) }
def a13 : AFunc :=
 { np := 1, nt := 58, mv := false, res := [(.tmp 2), (.tmp 3)], code :=
 (.seq (.region [A 1 (.box 30 (.t 0)),
 A 2 (.mv (.c .nil)),
 A 3 (.mv (.c (.int .i64 0)))] [])
 (.seq (.seq (.region [A 10 (.load 7 true (.t 1)),
 A 11 (.call 28 [(.t 10), (.c .nil)]),
 A 12 (.un .not (.t 11))] [])
 (.cond (.t 12) (.seq (.region [A 2 (.mv (.c .nil)),
 A 3 (.mv (.c (.int .i64 1)))] [])
 .ret) .skip))
 (.seq (.region [A 13 (.load 7 true (.t 1)),
 A 14 (.call 29 [(.t 13)]),
 A 4 (.mv (.t 14))] [])
 (.seq (.region [A 15 (.load 7 true (.t 1)),
 A 16 (.call 30 [(.t 15)]),
 A 5 (.mv (.t 16))] [])
 (.seq (.region [A 17 (.mv (.t 4)),
 A 18 (.build [(.int .i64 0), (.int .i64 0), (.int .i64 0)] [(0, 1, (.c (.int .i64 (-1)))), (2, 1, (.c (.int .i64 1000)))]),
 A 19 (.litF 72 3 1 [(.int .i64 0), (.int .i64 0), (.int .i64 0)] [(0, (.t 18))]),
 A 20 (.call 31 [(.t 17), (.t 19)]),
 A 21 (.lit 37 1 1 [.nil] [(0, (.t 20))]),
 A 2 (.mv (.t 21))] [])
 (.seq (.seq (.region [A 6 (.mv (.c (.int .i64 0)))] [])
 (.block 0 (.loop [2, 4, 5, 6, 45, 46, 47] (.seq (.seq (.region [A 22 (.mv (.t 6)),
 A 23 (.mv (.t 2)),
 A 24 (.len (.t 23)),
 A 25 (.bin .lss (.t 22) (.t 24))] [])
 (.cond (.t 25) .skip (.exit 0)))
 (.seq (.block 1 (.seq (.region [A 28 (.mv (.t 5)),
 A 29 (.len (.t 28)),
 A 30 (.mv (.c (.int .i64 0)))] [])
 (.block 2 (.loop [2, 4, 5, 6, 28, 29, 30, 45, 46, 47] (.seq (.region [A 31 (.bin .lss (.t 30) (.t 29))] [])
 (.seq (.cond (.t 31) .skip (.exit 2))
 (.seq (.block 3 (.seq (.region [A 32 (.ixa 1 (.t 28) (.t 30)),
 A 33 (.load 1 false (.t 32)),
 A 8 (.mv (.t 33))] [])
 (.seq (.region [A 34 (.mv (.t 4)),
 A 35 (.mv (.t 2)),
 A 36 (.mv (.t 6)),
 A 37 (.ixa 1 (.t 35) (.t 36)),
 A 38 (.load 1 false (.t 37)),
 A 39 (.mv (.t 8)),
 A 40 (.call 32 [(.t 34), (.t 38), (.t 39)]),
 A 9 (.alloc 37 [(.v .nil)]),
 ⟨none, (.store 1 (.t 9) (.t 40)), none, 0⟩] [])
 (.seq (.seq (.region [A 41 (.load 1 false (.t 9)),
 A 42 (.len (.t 41)),
 A 43 (.bin .eql (.t 42) (.c (.int .i64 0))),
 A 44 (.mv (.t 43)),
 ⟨some 45, (.mv (.t 2)), (some (44, false)), 0⟩,
 ⟨some 46, (.mkf 34 [(.t 9)]), (some (44, false)), 0⟩,
 ⟨some 47, (.call 33 [(.t 45), (.t 46)]), (some (44, false)), 0⟩,
 A 48 (.pick (.t 44) (.c (.bool true)) (.t 47))] [])
 (.cond (.t 48) (.exit 3) .skip))
 (.seq (.seq (.region [A 49 (.mv (.t 2)),
 A 50 (.len (.t 49)),
 A 51 (.bin .eql (.t 50) (.c (.int .i64 120)))] [])
 (.cond (.t 51) (.seq (.region [A 2 (.mv (.c .nil)),
 A 3 (.mv (.c (.int .i64 6)))] [])
 .ret) .skip))
 (.region [A 52 (.mv (.t 2)),
 A 53 (.load 1 false (.t 9)),
 A 54 (.lit 37 1 1 [.nil] [(0, (.t 53))]),
 A 55 (.app 37 1 24 (.t 52) (.t 54)),
 A 2 (.mv (.t 55))] []))))))
 (.region [A 56 (.bin .add (.t 30) (.c (.int .i64 1))),
 A 30 (.mv (.t 56))] []))))))))
 (.region [A 26 (.mv (.t 6)),
 A 27 (.bin .add (.t 26) (.c (.int .i64 1))),
 A 6 (.mv (.t 27))] []))))))
 (.seq (.region [A 57 (.mv (.t 2)),
 A 2 (.mv (.t 57)),
 A 3 (.mv (.c (.int .i64 0)))] [])
 .ret))))))) }
def a16 : AFunc :=
 { np := 2, nt := 26, mv := false, res := [(.tmp 4)], code :=
 (.seq (.region [A 4 (.mv (.c (.bool false)))] [])
 (.seq (.seq (.region [A 6 (.mv (.t 0)),
 A 7 (.len (.t 6)),
 A 8 (.mv (.t 1)),
 A 9 (.len (.t 8)),
 A 10 (.bin .neq (.t 7) (.t 9))] [])
 (.cond (.t 10) (.seq (.region [A 4 (.mv (.c (.bool false)))] [])
 .ret) .skip))
 (.seq (.seq (.region [A 5 (.mv (.c (.int .i64 0)))] [])
 (.block 0 (.loop [0, 1, 5] (.seq (.seq (.region [A 11 (.mv (.t 5)),
 A 12 (.mv (.t 0)),
 A 13 (.len (.t 12)),
 A 14 (.bin .lss (.t 11) (.t 13))] [])
 (.cond (.t 14) .skip (.exit 0)))
 (.seq (.block 1 (.seq (.region [A 17 (.mv (.t 0)),
 A 18 (.mv (.t 5)),
 ⟨some 19, (.ixa 3 (.t 17) (.t 18)), none, 3⟩,
 ⟨some 20, (.load 3 true (.t 19)), none, 7⟩,
 A 21 (.mv (.t 1)),
 A 22 (.mv (.t 5)),
 ⟨some 23, (.ixa 3 (.t 21) (.t 22)), none, 48⟩,
 ⟨some 24, (.load 3 true (.t 23)), none, 112⟩,
 ⟨some 25, (.eqA 3 true (.t 20) (.t 24)), none, 255⟩] [])
 (.cond (.t 25) (.seq (.region [A 4 (.mv (.c (.bool false)))] [])
 .ret) .skip)))
 (.region [A 15 (.mv (.t 5)),
 A 16 (.bin .add (.t 15) (.c (.int .i64 1))),
 A 5 (.mv (.t 16))] []))))))
 (.seq (.region [A 4 (.mv (.c (.bool true)))] [])
 .ret)))) }
def a17 : AFunc :=
 { np := 0, nt := 35, mv := false, res := [(.tmp 0)], code :=
 (.seq (.region [A 0 (.mv (.c (.bool false)))] [])
 (.seq (.region [A 4 (.call 21 [(.c (.int .u8 0))]),
 A 1 (.alloc 30 [(.v .nil), (.v .nil), (.v .nil), (.v .nil), (.v .nil), (.v .nil), (.v (.int .i64 0))]),
 ⟨none, (.store 7 (.t 1) (.t 4)), none, 0⟩] [])
 (.seq (.region [A 6 (.load 7 true (.t 1)),
 A 7 (.call 18 [(.t 6)]),
 A 5 (.mv (.t 7)),
 A 8 (.ext (.t 5) 0),
 A 9 (.ext (.t 5) 1),
 A 2 (.alloc 47 [(.v .nil), (.v .nil)]),
 ⟨none, (.store 2 (.t 2) (.t 8)), none, 0⟩,
 A 3 (.mv (.t 9))] [])
 (.seq (.region [A 10 (.mv (.t 3)),
 A 11 (.bin .eql (.t 10) (.c (.int .i64 0))),
 A 12 (.mv (.t 11)),
 ⟨some 13, (.fld 0 (.t 2)), (some (12, true)), 0⟩,
 ⟨some 14, (.load 1 false (.t 13)), (some (12, true)), 0⟩,
 ⟨some 15, (.len (.t 14)), (some (12, true)), 0⟩,
 ⟨some 16, (.bin .gtr (.t 15) (.c (.int .i64 3))), (some (12, true)), 0⟩,
 A 17 (.pick (.t 12) (.t 16) (.c (.bool false))),
 A 18 (.mv (.t 17)),
 ⟨some 19, (.fld 1 (.t 2)), (some (18, true)), 0⟩,
 ⟨some 20, (.load 1 false (.t 19)), (some (18, true)), 0⟩,
 ⟨some 21, (.len (.t 20)), (some (18, true)), 0⟩,
 ⟨some 22, (.fld 0 (.t 2)), (some (18, true)), 0⟩,
 ⟨some 23, (.load 1 false (.t 22)), (some (18, true)), 0⟩,
 ⟨some 24, (.len (.t 23)), (some (18, true)), 0⟩,
 ⟨some 25, (.bin .eql (.t 21) (.t 24)), (some (18, true)), 0⟩,
 A 26 (.pick (.t 18) (.t 25) (.c (.bool false))),
 A 27 (.mv (.t 26)),
 ⟨some 28, (.fld 0 (.t 2)), (some (27, true)), 0⟩,
 ⟨some 29, (.load 1 false (.t 28)), (some (27, true)), 0⟩,
 ⟨some 30, (.ixa 1 (.t 29) (.c (.int .i64 0))), (some (27, true)), 0⟩,
 ⟨some 31, (.load 1 false (.t 30)), (some (27, true)), 0⟩,
 ⟨some 32, (.len (.t 31)), (some (27, true)), 0⟩,
 ⟨some 33, (.bin .eql (.t 32) (.c (.int .i64 4))), (some (27, true)), 0⟩,
 A 34 (.pick (.t 27) (.t 33) (.c (.bool false))),
 A 0 (.mv (.t 34))] [])
 .ret)))) }
def a18 : DFunc :=
 { nt := 80, pre := [(.region [A 1 (.box 30 (.t 0)),
 A 2 (.alloc 47 [(.v .nil), (.v .nil)]),
 A 3 (.alloc 34 [(.v (.int .i64 0))])] []),
 (.region [A 9 (.load 7 true (.t 1)),
 A 10 (.call 13 [(.t 9)]),
 A 8 (.mv (.t 10)),
 A 11 (.ext (.t 8) 0),
 A 12 (.ext (.t 8) 1),
 A 4 (.mv (.t 11)),
 ⟨none, (.store 1 (.t 3) (.t 12)), none, 0⟩] []),
 (.seq (.region [A 13 (.load 1 false (.t 3)),
 A 14 (.bin .neq (.t 13) (.c (.int .i64 0)))] [])
 (.cond (.t 14) (.seq (.region [A 15 (.build [.nil, .nil] []),
 A 16 (.load 1 false (.t 3)),
 ⟨none, (.store 2 (.t 2) (.t 15)), none, 1⟩,
 ⟨none, (.store 1 (.t 3) (.t 16)), none, 7⟩] [(1, 2)])
 .ret) .skip))], lit := A 17 (.mkf 36 [(.t 2), (.t 3)]), slot := 17, h := 36, hd := { nt := 11, dst := 5, ops := [A 6 (.tassert 87 true [] (.t 5)), A 4 (.mv (.t 6)), A 7 (.ext (.t 4) 0), A 8 (.ext (.t 4) 1), A 2 (.alloc 87 []), ⟨none, (.store 0 (.t 2) (.t 7)), none, 0⟩, A 3 (.mv (.t 8))], rest := (.seq (.region [A 9 (.mv (.t 3))] [])
 (.cond (.t 9) (.region [A 10 (.build [.nil, .nil] []),
 ⟨none, (.store 2 (.t 0) (.t 10)), none, 0⟩,
 ⟨none, (.store 1 (.t 1) (.c (.int .i64 7))), none, 0⟩] []) .skip)) }, rest := (.seq (.region [A 18 (.load 7 true (.t 1)),
 A 19 (.mv (.t 4)),
 A 20 (.build [.nil, .nil, .nil, .nil, .nil, .nil, (.int .i64 0), .nil, .nil, .nil] [(0, 7, (.t 18)), (7, 1, (.t 19))]),
 A 21 (.box 91 (.t 20)),
 A 5 (.mv (.t 21))] [])
 (.seq (.seq (.region [A 22 (.mv (.t 4)),
 A 23 (.len (.t 22)),
 A 24 (.mv (.c (.int .i64 0)))] [])
 (.block 0 (.loop [1, 2, 3, 4, 5, 23, 24] (.seq (.region [A 25 (.bin .lss (.t 24) (.t 23))] [])
 (.seq (.cond (.t 25) .skip (.exit 0))
 (.seq (.block 1 (.seq (.region [A 26 (.mv (.t 5)),
 A 27 (.mv (.t 5)),
 ⟨some 28, (.chk (.t 27)), none, 2⟩,
 ⟨some 29, (.fld 8 (.t 28)), none, 6⟩,
 ⟨some 30, (.fld 0 (.t 29)), none, 14⟩,
 ⟨some 31, (.load 1 false (.t 30)), none, 30⟩,
 A 32 (.fld 0 (.t 1)),
 ⟨some 33, (.load 1 false (.t 32)), none, 64⟩,
 ⟨some 34, (.len (.t 33)), none, 192⟩,
 ⟨some 35, (.bin .add (.t 34) (.c (.int .i64 1))), none, 448⟩,
 ⟨some 36, (.mksl 70 2 16 [(.int .i64 0), (.int .i64 0)] (.t 35) (.t 35)), none, 960⟩,
 ⟨some 37, (.lits 68 1 [(0, (.t 36))]), none, 1984⟩,
 ⟨some 38, (.appN 68 24 (.t 31) (.t 37)), none, 4094⟩,
 ⟨some 39, (.chk (.t 26)), none, 8191⟩,
 ⟨some 40, (.fld 8 (.t 39)), none, 16383⟩,
 ⟨some 41, (.fld 0 (.t 40)), none, 32767⟩,
 ⟨none, (.store 1 (.t 41) (.t 38)), none, 65535⟩] [(0, 10), (0, 11), (0, 12), (1, 10), (1, 11), (2, 10), (2, 11), (3, 10), (3, 11), (4, 10), (4, 11), (5, 10), (5, 11)])
 (.region [A 42 (.mv (.t 5)),
 A 43 (.mv (.t 5)),
 ⟨some 44, (.chk (.t 43)), none, 2⟩,
 ⟨some 45, (.fld 8 (.t 44)), none, 6⟩,
 ⟨some 46, (.fld 1 (.t 45)), none, 14⟩,
 ⟨some 47, (.load 1 false (.t 46)), none, 30⟩,
 A 48 (.litF 3 1 1 [(.int .i64 0)] [(0, (.c (.int .i64 (-1))))]),
 A 49 (.fld 1 (.t 1)),
 ⟨some 50, (.load 1 false (.t 49)), none, 128⟩,
 ⟨some 51, (.len (.t 50)), none, 384⟩,
 ⟨some 52, (.call 37 [(.t 48), (.t 51)]), none, 960⟩,
 ⟨some 53, (.lits 53 1 [(0, (.t 52))]), none, 1984⟩,
 ⟨some 54, (.appN 53 24 (.t 47) (.t 53)), none, 4094⟩,
 ⟨some 55, (.chk (.t 42)), none, 8191⟩,
 ⟨some 56, (.fld 8 (.t 55)), none, 16383⟩,
 ⟨some 57, (.fld 1 (.t 56)), none, 32767⟩,
 ⟨none, (.store 1 (.t 57) (.t 54)), none, 65535⟩] [(0, 10), (0, 11), (0, 12), (1, 10), (1, 11), (2, 10), (2, 11), (3, 10), (3, 11), (4, 10), (4, 11), (5, 10), (5, 11)])))
 (.region [A 58 (.bin .add (.t 24) (.c (.int .i64 1))),
 A 24 (.mv (.t 58))] [])))))))
 (.seq (.seq (.region [A 59 (.load 7 true (.t 1)),
 A 60 (.mv (.t 4)),
 A 61 (.call 38 [(.t 59), (.t 60)]),
 A 62 (.len (.t 61)),
 A 63 (.mv (.c (.int .i64 0)))] [])
 (.block 2 (.loop [2, 3, 5, 61, 62, 63] (.seq (.region [A 64 (.bin .lss (.t 63) (.t 62))] [])
 (.seq (.cond (.t 64) .skip (.exit 2))
 (.seq (.block 3 (.seq (.region [A 65 (.mv (.t 63)),
 A 66 (.ixa 1 (.t 61) (.t 63)),
 A 67 (.load 1 false (.t 66)),
 A 6 (.mv (.t 65)),
 A 7 (.mv (.t 67))] [])
 (.seq (.region [A 68 (.mv (.t 5)),
 A 69 (.mv (.t 6)),
 A 70 (.mv (.t 7)),
 A 71 (.call 39 [(.t 68), (.t 69), (.t 70)])] [])
 (.region [A 72 (.mv (.t 5)),
 A 73 (.mv (.t 6)),
 A 74 (.call 40 [(.t 72), (.t 73)])] []))))
 (.region [A 75 (.bin .add (.t 63) (.c (.int .i64 1))),
 A 63 (.mv (.t 75))] [])))))))
 (.seq (.region [A 76 (.mv (.t 5)),
 A 77 (.chk (.t 76)),
 A 78 (.fld 8 (.t 77)),
 A 79 (.load 2 true (.t 78)),
 ⟨none, (.store 2 (.t 2) (.t 79)), none, 0⟩,
 ⟨none, (.store 1 (.t 3) (.c (.int .i64 0))), none, 0⟩] [])
 .ret)))), res := [(2, 2, true), (3, 1, false)], mv := false }
def a19 : AFunc :=
 { np := 1, nt := 155, mv := false, res := [(.cell 2 2 true), (.tmp 3)], code :=
 (.seq (.region [A 1 (.box 30 (.t 0)),
 A 2 (.alloc 47 [(.v .nil), (.v .nil)]),
 A 3 (.mv (.c (.int .i64 0)))] [])
 (.seq (.region [A 19 (.load 7 true (.t 1)),
 A 20 (.call 24 [(.t 19)]),
 A 18 (.mv (.t 20)),
 A 21 (.ext (.t 18) 0),
 A 22 (.ext (.t 18) 1),
 A 4 (.mv (.t 21)),
 A 5 (.mv (.t 22))] [])
 (.seq (.seq (.region [A 23 (.mv (.t 5)),
 A 24 (.bin .neq (.t 23) (.c (.int .i64 0)))] [])
 (.cond (.t 24) (.seq (.region [A 25 (.build [.nil, .nil] []),
 A 26 (.mv (.t 5)),
 ⟨none, (.store 2 (.t 2) (.t 25)), none, 0⟩,
 A 3 (.mv (.t 26))] [])
 .ret) .skip))
 (.seq (.region [A 6 (.alloc 47 [(.v .nil), (.v .nil)])] [])
 (.seq (.seq (.region [A 7 (.mv (.c (.int .i64 0)))] [])
 (.block 0 (.loop [1, 2, 4, 6, 7] (.seq (.seq (.region [A 27 (.mv (.t 7)),
 A 28 (.mv (.t 4)),
 A 29 (.len (.t 28)),
 A 30 (.bin .lss (.t 27) (.t 29))] [])
 (.cond (.t 30) .skip (.exit 0)))
 (.seq (.block 1 (.seq (.region [A 33 (.fld 0 (.t 1)),
 A 34 (.load 1 false (.t 33)),
 A 35 (.len (.t 34)),
 A 36 (.bin .add (.t 35) (.c (.int .i64 1))),
 A 37 (.mksl 70 2 16 [(.int .i64 0), (.int .i64 0)] (.t 36) (.t 36)),
 A 8 (.mv (.t 37))] [])
 (.seq (.seq (.region [A 9 (.mv (.c (.int .i64 0)))] [])
 (.block 2 (.loop [1, 2, 4, 6, 7, 8, 9] (.seq (.seq (.region [A 38 (.mv (.t 9)),
 A 39 (.fld 0 (.t 1)),
 A 40 (.load 1 false (.t 39)),
 A 41 (.len (.t 40)),
 A 42 (.bin .lss (.t 38) (.t 41))] [])
 (.cond (.t 42) .skip (.exit 2)))
 (.seq (.block 3 (.seq (.region [A 45 (.load 7 true (.t 1)),
 A 46 (.mv (.t 4)),
 A 47 (.mv (.t 7)),
 ⟨some 48, (.ixa 1 (.t 46) (.t 47)), none, 6⟩,
 ⟨some 49, (.load 1 false (.t 48)), none, 14⟩,
 A 50 (.mv (.t 9)),
 ⟨some 51, (.bin .sub (.c (.int .i64 (-1))) (.t 50)), none, 32⟩,
 ⟨some 52, (.call 41 [(.t 45), (.t 49), (.t 51)]), none, 127⟩,
 ⟨some 10, (.mv (.t 52)), none, 255⟩] [])
 (.seq (.region [A 53 (.mv (.t 10)),
 A 54 (.len (.t 53)),
 A 55 (.bin .gtr (.t 54) (.c (.int .i64 0)))] [])
 (.cond (.t 55) (.region [A 56 (.mv (.t 8)),
 A 57 (.mv (.t 9)),
 A 58 (.mv (.t 4)),
 A 59 (.mv (.t 10)),
 A 60 (.call 42 [(.t 58), (.t 59)]),
 A 61 (.build [(.int .i64 0), (.int .i64 0)] [(0, 1, (.c (.int .i64 1))), (1, 1, (.t 60))]),
 A 62 (.ixa 2 (.t 56) (.t 57)),
 ⟨none, (.store 2 (.t 62) (.t 61)), none, 0⟩] []) .skip))))
 (.region [A 43 (.mv (.t 9)),
 A 44 (.bin .add (.t 43) (.c (.int .i64 1))),
 A 9 (.mv (.t 44))] []))))))
 (.seq (.seq (.region [A 11 (.mv (.c (.int .i64 0)))] [])
 (.block 4 (.loop [1, 2, 4, 6, 7, 8, 11] (.seq (.seq (.region [A 63 (.mv (.t 11)),
 A 64 (.mv (.t 4)),
 A 65 (.mv (.t 7)),
 A 66 (.ixa 1 (.t 64) (.t 65)),
 A 67 (.load 1 false (.t 66)),
 A 68 (.len (.t 67)),
 A 69 (.bin .lss (.t 63) (.t 68))] [])
 (.cond (.t 69) .skip (.exit 4)))
 (.seq (.block 5 (.seq (.region [A 72 (.mv (.t 4)),
 A 73 (.mv (.t 7)),
 A 74 (.ixa 1 (.t 72) (.t 73)),
 A 75 (.load 1 false (.t 74)),
 A 76 (.mv (.t 11)),
 A 77 (.ixa 3 (.t 75) (.t 76)),
 A 78 (.load 3 true (.t 77)),
 A 12 (.alloc 72 [(.v (.int .i64 0)), (.v (.int .i64 0)), (.v (.int .i64 0))]),
 ⟨none, (.store 3 (.t 12) (.t 78)), none, 0⟩] [])
 (.seq (.seq (.region [A 79 (.fld 1 (.t 12)),
 ⟨some 80, (.load 1 false (.t 79)), none, 1⟩,
 A 81 (.load 7 true (.t 1)),
 A 82 (.fld 0 (.t 12)),
 ⟨some 83, (.load 1 false (.t 82)), none, 8⟩,
 ⟨some 84, (.call 43 [(.t 81), (.t 83)]), none, 28⟩,
 ⟨some 85, (.len (.t 84)), none, 60⟩,
 ⟨some 86, (.bin .lss (.t 80) (.t 85)), none, 127⟩] [(0, 5), (1, 5)])
 (.cond (.t 86) (.exit 5) .skip))
 (.seq (.region [A 87 (.fld 2 (.t 12)),
 ⟨some 88, (.load 1 false (.t 87)), none, 1⟩,
 A 89 (.fld 0 (.t 12)),
 ⟨some 90, (.load 1 false (.t 89)), none, 4⟩,
 ⟨some 91, (.build [(.int .i64 0), (.int .i64 0)] [(0, 1, (.c (.int .i64 2))), (1, 1, (.t 90))]), none, 12⟩,
 A 14 (.alloc 70 [(.v (.int .i64 0)), (.v (.int .i64 0))]),
 ⟨some 13, (.mv (.t 88)), none, 35⟩,
 ⟨none, (.store 2 (.t 14) (.t 91)), none, 127⟩] [(0, 5), (1, 5), (2, 5), (3, 5), (4, 5)])
 (.seq (.seq (.region [A 92 (.mv (.t 13)),
 A 93 (.bin .eql (.t 92) (.c (.int .i64 1000)))] [])
 (.cond (.t 93) (.region [A 94 (.fld 0 (.t 1)),
 A 95 (.load 1 false (.t 94)),
 A 96 (.len (.t 95)),
 A 13 (.mv (.t 96))] []) .skip))
 (.seq (.seq (.region [A 97 (.fld 0 (.t 12)),
 A 98 (.load 1 false (.t 97)),
 A 99 (.bin .eql (.t 98) (.c (.int .i64 (-1))))] [])
 (.cond (.t 99) (.region [A 100 (.build [(.int .i64 0), (.int .i64 0)] [(0, 1, (.c (.int .i64 3)))]),
 ⟨none, (.store 2 (.t 14) (.t 100)), none, 0⟩] []) .skip))
 (.seq (.seq (.region [A 101 (.mv (.t 8)),
 A 102 (.mv (.t 13)),
 A 103 (.ixa 2 (.t 101) (.t 102)),
 A 104 (.fld 0 (.t 103)),
 A 105 (.load 1 false (.t 104)),
 A 106 (.bin .neq (.t 105) (.c (.int .i64 0)))] [])
 (.cond (.t 106) (.seq (.region [A 107 (.build [.nil, .nil] []),
 ⟨none, (.store 2 (.t 2) (.t 107)), none, 0⟩,
 A 3 (.mv (.c (.int .i64 7)))] [])
 .ret) .skip))
 (.region [A 108 (.mv (.t 8)),
 A 109 (.mv (.t 13)),
 A 110 (.load 2 true (.t 14)),
 A 111 (.ixa 2 (.t 108) (.t 109)),
 ⟨none, (.store 2 (.t 111) (.t 110)), none, 0⟩] []))))))))
 (.region [A 70 (.mv (.t 11)),
 A 71 (.bin .add (.t 70) (.c (.int .i64 1))),
 A 11 (.mv (.t 71))] []))))))
 (.seq (.region [A 112 (.fld 1 (.t 1)),
 A 113 (.load 1 false (.t 112)),
 A 114 (.len (.t 113)),
 A 115 (.mksl 3 1 8 [(.int .i64 0)] (.t 114) (.t 114)),
 A 15 (.mv (.t 115))] [])
 (.seq (.seq (.region [A 16 (.mv (.c (.int .i64 0)))] [])
 (.block 6 (.loop [1, 2, 4, 6, 7, 8, 15, 16] (.seq (.seq (.region [A 116 (.mv (.t 16)),
 A 117 (.fld 1 (.t 1)),
 A 118 (.load 1 false (.t 117)),
 A 119 (.len (.t 118)),
 A 120 (.bin .lss (.t 116) (.t 119))] [])
 (.cond (.t 120) .skip (.exit 6)))
 (.seq (.block 7 (.seq (.region [A 123 (.load 7 true (.t 1)),
 A 124 (.mv (.t 4)),
 A 125 (.mv (.t 7)),
 ⟨some 126, (.ixa 1 (.t 124) (.t 125)), none, 6⟩,
 ⟨some 127, (.load 1 false (.t 126)), none, 14⟩,
 A 128 (.mv (.t 16)),
 ⟨some 129, (.call 41 [(.t 123), (.t 127), (.t 128)]), none, 63⟩,
 ⟨some 17, (.mv (.t 129)), none, 127⟩] [])
 (.seq (.region [A 130 (.mv (.t 15)),
 A 131 (.mv (.t 16)),
 A 132 (.ixa 1 (.t 130) (.t 131)),
 ⟨none, (.store 1 (.t 132) (.c (.int .i64 (-1)))), none, 0⟩] [])
 (.seq (.region [A 133 (.mv (.t 17)),
 A 134 (.len (.t 133)),
 A 135 (.bin .gtr (.t 134) (.c (.int .i64 0)))] [])
 (.cond (.t 135) (.region [A 136 (.mv (.t 15)),
 A 137 (.mv (.t 16)),
 A 138 (.mv (.t 4)),
 A 139 (.mv (.t 17)),
 A 140 (.call 42 [(.t 138), (.t 139)]),
 A 141 (.ixa 1 (.t 136) (.t 137)),
 ⟨none, (.store 1 (.t 141) (.t 140)), none, 0⟩] []) .skip)))))
 (.region [A 121 (.mv (.t 16)),
 A 122 (.bin .add (.t 121) (.c (.int .i64 1))),
 A 16 (.mv (.t 122))] []))))))
 (.frz [8, 15] (.region [A 142 (.fld 0 (.t 6)),
 ⟨some 143, (.load 1 false (.t 142)), none, 1⟩,
 A 144 (.mv (.t 8)),
 ⟨some 145, (.litF 68 1 1 [.nil] [(0, (.t 144))]), none, 4⟩,
 ⟨some 146, (.app 68 1 24 (.t 143) (.t 145)), none, 15⟩,
 A 147 (.fld 1 (.t 6)),
 ⟨some 148, (.load 1 false (.t 147)), none, 32⟩,
 A 149 (.mv (.t 15)),
 ⟨some 150, (.litF 53 1 1 [.nil] [(0, (.t 149))]), none, 128⟩,
 ⟨some 151, (.app 53 1 24 (.t 148) (.t 150)), none, 511⟩,
 ⟨some 152, (.fld 0 (.t 6)), none, 127⟩,
 ⟨none, (.store 1 (.t 152) (.t 146)), none, 2047⟩,
 ⟨some 153, (.fld 1 (.t 6)), none, 4095⟩,
 ⟨none, (.store 1 (.t 153) (.t 151)), none, 8191⟩] [(5, 4), (6, 4), (7, 4), (8, 4), (10, 9)]))))))))
 (.region [A 31 (.mv (.t 7)),
 A 32 (.bin .add (.t 31) (.c (.int .i64 1))),
 A 7 (.mv (.t 32))] []))))))
 (.seq (.region [A 154 (.load 2 true (.t 6)),
 ⟨none, (.store 2 (.t 2) (.t 154)), none, 0⟩,
 A 3 (.mv (.c (.int .i64 0)))] [])
 .ret)))))) }
def a21 : AFunc :=
 { np := 1, nt := 14, mv := false, res := [(.cell 2 7 true)], code :=
 (.seq (.region [A 2 (.alloc 30 [(.v .nil), (.v .nil), (.v .nil), (.v .nil), (.v .nil), (.v .nil), (.v (.int .i64 0))])] [])
 (.seq (.region [A 7 (.mv (.t 0)),
 A 8 (.call 46 [(.t 7)]),
 A 9 (.call 45 [(.t 8)]),
 A 6 (.mv (.t 9)),
 A 10 (.ext (.t 6) 0),
 A 11 (.ext (.t 6) 1),
 A 12 (.ext (.t 6) 2),
 A 3 (.alloc 30 [(.v .nil), (.v .nil), (.v .nil), (.v .nil), (.v .nil), (.v .nil), (.v (.int .i64 0))]),
 ⟨none, (.store 7 (.t 3) (.t 10)), none, 0⟩,
 A 4 (.mv (.t 11)),
 A 5 (.mv (.t 12))] [])
 (.seq (.region [A 13 (.load 7 true (.t 3)),
 ⟨none, (.store 7 (.t 2) (.t 13)), none, 0⟩] [])
 .ret))) }
def a22 : AFunc :=
 { np := 3, nt := 174, mv := false, res := [(.tmp 6)], code :=
 (.seq (.region [A 3 (.box 30 (.t 0)),
 A 4 (.box 47 (.t 1)),
 A 6 (.mv (.c (.bool false)))] [])
 (.seq (.region [A 14 (.lit 3 1 1 [(.int .i64 0)] [(0, (.c (.int .i64 0)))]),
 A 7 (.mv (.t 14))] [])
 (.seq (.region [A 8 (.mv (.c (.int .i64 0)))] [])
 (.seq (.seq (.region [A 9 (.mv (.c (.int .i64 0)))] [])
 (.block 0 (.loop [2, 3, 4, 7, 8, 9, 39, 40, 41, 42, 43, 46, 47, 48, 49, 50, 53, 54, 55, 56, 57, 58, 59, 60, 87, 88, 89, 90, 91, 92, 95, 96, 97, 98, 99, 100, 101, 102, 103, 104, 105, 129, 130, 131, 132, 133, 136, 137, 138, 139, 140, 141, 142, 143, 144, 145, 146, 147, 148, 149] (.seq (.seq (.region [A 15 (.mv (.t 9)),
 A 16 (.bin .lss (.t 15) (.c (.int .i64 50)))] [])
 (.cond (.t 16) .skip (.exit 0)))
 (.seq (.block 1 (.seq (.region [A 19 (.mv (.t 7)),
 A 20 (.mv (.t 7)),
 A 21 (.len (.t 20)),
 A 22 (.bin .sub (.t 21) (.c (.int .i64 1))),
 A 23 (.ixa 1 (.t 19) (.t 22)),
 A 24 (.load 1 false (.t 23)),
 A 10 (.mv (.t 24))] [])
 (.seq (.region [A 25 (.fld 0 (.t 3)),
 A 26 (.load 1 false (.t 25)),
 A 27 (.len (.t 26)),
 A 11 (.mv (.t 27))] [])
 (.seq (.seq (.region [A 28 (.mv (.t 8)),
 A 29 (.mv (.t 2)),
 A 30 (.len (.t 29)),
 A 31 (.bin .lss (.t 28) (.t 30))] [])
 (.cond (.t 31) (.region [A 32 (.mv (.t 2)),
 A 33 (.mv (.t 8)),
 A 34 (.ixa 1 (.t 32) (.t 33)),
 A 35 (.load 1 false (.t 34)),
 A 11 (.mv (.t 35))] []) .skip))
 (.seq (.seq (.region [A 36 (.mv (.t 10)),
 A 37 (.bin .lss (.t 36) (.c (.int .i64 0))),
 A 38 (.mv (.t 37)),
 ⟨some 39, (.mv (.t 10)), (some (38, false)), 0⟩,
 ⟨some 40, (.fld 0 (.t 4)), (some (38, false)), 0⟩,
 ⟨some 41, (.load 1 false (.t 40)), (some (38, false)), 0⟩,
 ⟨some 42, (.len (.t 41)), (some (38, false)), 0⟩,
 ⟨some 43, (.bin .geq (.t 39) (.t 42)), (some (38, false)), 0⟩,
 A 44 (.pick (.t 38) (.c (.bool true)) (.t 43)),
 A 45 (.mv (.t 44)),
 ⟨some 46, (.mv (.t 10)), (some (45, false)), 0⟩,
 ⟨some 47, (.fld 1 (.t 4)), (some (45, false)), 0⟩,
 ⟨some 48, (.load 1 false (.t 47)), (some (45, false)), 0⟩,
 ⟨some 49, (.len (.t 48)), (some (45, false)), 0⟩,
 ⟨some 50, (.bin .geq (.t 46) (.t 49)), (some (45, false)), 0⟩,
 A 51 (.pick (.t 45) (.c (.bool true)) (.t 50)),
 A 52 (.mv (.t 51)),
 ⟨some 53, (.mv (.t 11)), (some (52, false)), 0⟩,
 ⟨some 54, (.fld 0 (.t 4)), (some (52, false)), 0⟩,
 ⟨some 55, (.load 1 false (.t 54)), (some (52, false)), 0⟩,
 ⟨some 56, (.mv (.t 10)), (some (52, false)), 0⟩,
 ⟨some 57, (.ixa 1 (.t 55) (.t 56)), (some (52, false)), 0⟩,
 ⟨some 58, (.load 1 false (.t 57)), (some (52, false)), 0⟩,
 ⟨some 59, (.len (.t 58)), (some (52, false)), 0⟩,
 ⟨some 60, (.bin .geq (.t 53) (.t 59)), (some (52, false)), 0⟩,
 A 61 (.pick (.t 52) (.c (.bool true)) (.t 60))] [])
 (.cond (.t 61) (.seq (.region [A 6 (.mv (.c (.bool false)))] [])
 .ret) .skip))
 (.seq (.region [A 62 (.fld 0 (.t 4)),
 A 63 (.load 1 false (.t 62)),
 A 64 (.mv (.t 10)),
 A 65 (.ixa 1 (.t 63) (.t 64)),
 A 66 (.load 1 false (.t 65)),
 A 67 (.mv (.t 11)),
 A 68 (.ixa 2 (.t 66) (.t 67)),
 A 69 (.load 2 true (.t 68)),
 A 12 (.alloc 70 [(.v (.int .i64 0)), (.v (.int .i64 0))]),
 ⟨none, (.store 2 (.t 12) (.t 69)), none, 0⟩] [])
 (.seq (.region [A 70 (.fld 0 (.t 12)),
 A 71 (.load 1 false (.t 70))] [])
 (.block 2 (.seq (.region [A 73 (.bin .eql (.t 71) (.c (.int .i64 1))),
 A 72 (.mv (.t 73))] [])
 (.cond (.t 72) (.region [A 74 (.mv (.t 7)),
 A 75 (.fld 1 (.t 12)),
 A 76 (.load 1 false (.t 75)),
 A 77 (.litF 3 1 1 [(.int .i64 0)] [(0, (.t 76))]),
 A 78 (.app 3 1 8 (.t 74) (.t 77)),
 A 79 (.mv (.t 8)),
 A 80 (.bin .add (.t 79) (.c (.int .i64 1))),
 A 7 (.mv (.t 78)),
 A 8 (.mv (.t 80))] []) (.seq (.region [A 82 (.bin .eql (.t 71) (.c (.int .i64 2))),
 A 81 (.mv (.t 82))] [])
 (.cond (.t 81) (.seq (.seq (.region [A 83 (.fld 1 (.t 12)),
 A 84 (.load 1 false (.t 83)),
 A 85 (.bin .lss (.t 84) (.c (.int .i64 0))),
 A 86 (.mv (.t 85)),
 ⟨some 87, (.fld 1 (.t 12)), (some (86, false)), 0⟩,
 ⟨some 88, (.load 1 false (.t 87)), (some (86, false)), 0⟩,
 ⟨some 89, (.fld 3 (.t 3)), (some (86, false)), 0⟩,
 ⟨some 90, (.load 1 false (.t 89)), (some (86, false)), 0⟩,
 ⟨some 91, (.len (.t 90)), (some (86, false)), 0⟩,
 ⟨some 92, (.bin .geq (.t 88) (.t 91)), (some (86, false)), 0⟩,
 A 93 (.pick (.t 86) (.c (.bool true)) (.t 92)),
 A 94 (.mv (.t 93)),
 ⟨some 95, (.fld 3 (.t 3)), (some (94, false)), 0⟩,
 ⟨some 96, (.load 1 false (.t 95)), (some (94, false)), 0⟩,
 ⟨some 97, (.fld 1 (.t 12)), (some (94, false)), 0⟩,
 ⟨some 98, (.load 1 false (.t 97)), (some (94, false)), 0⟩,
 ⟨some 99, (.ixa 3 (.t 96) (.t 98)), (some (94, false)), 0⟩,
 ⟨some 100, (.fld 1 (.t 99)), (some (94, false)), 0⟩,
 ⟨some 101, (.load 1 false (.t 100)), (some (94, false)), 0⟩,
 ⟨some 102, (.len (.t 101)), (some (94, false)), 0⟩,
 ⟨some 103, (.mv (.t 7)), (some (94, false)), 0⟩,
 ⟨some 104, (.len (.t 103)), (some (94, false)), 0⟩,
 ⟨some 105, (.bin .geq (.t 102) (.t 104)), (some (94, false)), 0⟩,
 A 106 (.pick (.t 94) (.c (.bool true)) (.t 105))] [])
 (.cond (.t 106) (.seq (.region [A 6 (.mv (.c (.bool false)))] [])
 .ret) .skip))
 (.seq (.region [A 107 (.mv (.t 7)),
 A 108 (.mv (.t 7)),
 A 109 (.len (.t 108)),
 A 110 (.fld 3 (.t 3)),
 A 111 (.load 1 false (.t 110)),
 A 112 (.fld 1 (.t 12)),
 A 113 (.load 1 false (.t 112)),
 A 114 (.ixa 3 (.t 111) (.t 113)),
 A 115 (.fld 1 (.t 114)),
 A 116 (.load 1 false (.t 115)),
 A 117 (.len (.t 116)),
 A 118 (.bin .sub (.t 109) (.t 117)),
 A 119 (.pop (.t 107) (.t 118)),
 A 7 (.mv (.t 119))] [])
 (.seq (.region [A 120 (.mv (.t 7)),
 A 121 (.mv (.t 7)),
 A 122 (.len (.t 121)),
 A 123 (.bin .sub (.t 122) (.c (.int .i64 1))),
 A 124 (.ixa 1 (.t 120) (.t 123)),
 A 125 (.load 1 false (.t 124)),
 A 13 (.mv (.t 125))] [])
 (.seq (.seq (.region [A 126 (.mv (.t 13)),
 ⟨some 127, (.bin .lss (.t 126) (.c (.int .i64 0))), none, 1⟩,
 ⟨some 128, (.mv (.t 127)), none, 3⟩,
 ⟨some 129, (.mv (.t 13)), (some (128, false)), 7⟩,
 ⟨some 130, (.fld 1 (.t 4)), (some (128, false)), 7⟩,
 ⟨some 131, (.load 1 false (.t 130)), (some (128, false)), 23⟩,
 ⟨some 132, (.len (.t 131)), (some (128, false)), 55⟩,
 ⟨some 133, (.bin .geq (.t 129) (.t 132)), (some (128, false)), 127⟩,
 ⟨some 134, (.pick (.t 128) (.c (.bool true)) (.t 133)), none, 255⟩,
 ⟨some 135, (.mv (.t 134)), none, 511⟩,
 ⟨some 136, (.fld 3 (.t 3)), (some (135, false)), 1023⟩,
 ⟨some 137, (.load 1 false (.t 136)), (some (135, false)), 2047⟩,
 ⟨some 138, (.fld 1 (.t 12)), (some (135, false)), 1023⟩,
 ⟨some 139, (.load 1 false (.t 138)), (some (135, false)), 5119⟩,
 ⟨some 140, (.ixa 3 (.t 137) (.t 139)), (some (135, false)), 16383⟩,
 ⟨some 141, (.fld 0 (.t 140)), (some (135, false)), 32767⟩,
 ⟨some 142, (.load 1 false (.t 141)), (some (135, false)), 65535⟩,
 ⟨some 143, (.fld 1 (.t 4)), (some (135, false)), 1023⟩,
 ⟨some 144, (.load 1 false (.t 143)), (some (135, false)), 132095⟩,
 ⟨some 145, (.mv (.t 13)), (some (135, false)), 1023⟩,
 ⟨some 146, (.ixa 1 (.t 144) (.t 145)), (some (135, false)), 918527⟩,
 ⟨some 147, (.load 1 false (.t 146)), (some (135, false)), 1967103⟩,
 ⟨some 148, (.len (.t 147)), (some (135, false)), 4064255⟩,
 ⟨some 149, (.bin .geq (.t 142) (.t 148)), (some (135, false)), 8388607⟩,
 ⟨some 150, (.pick (.t 135) (.c (.bool true)) (.t 149)), none, 16777215⟩] [])
 (.cond (.t 150) (.seq (.region [A 6 (.mv (.c (.bool false)))] [])
 .ret) .skip))
 (.region [A 151 (.mv (.t 7)),
 A 152 (.fld 1 (.t 4)),
 ⟨some 153, (.load 1 false (.t 152)), none, 2⟩,
 A 154 (.mv (.t 13)),
 ⟨some 155, (.ixa 1 (.t 153) (.t 154)), none, 14⟩,
 ⟨some 156, (.load 1 false (.t 155)), none, 30⟩,
 A 157 (.fld 3 (.t 3)),
 ⟨some 158, (.load 1 false (.t 157)), none, 64⟩,
 A 159 (.fld 1 (.t 12)),
 ⟨some 160, (.load 1 false (.t 159)), none, 256⟩,
 ⟨some 161, (.ixa 3 (.t 158) (.t 160)), none, 960⟩,
 ⟨some 162, (.fld 0 (.t 161)), none, 1984⟩,
 ⟨some 163, (.load 1 false (.t 162)), none, 4032⟩,
 ⟨some 164, (.ixa 1 (.t 156) (.t 163)), none, 8190⟩,
 ⟨some 165, (.load 1 false (.t 164)), none, 16382⟩,
 ⟨some 166, (.litF 3 1 1 [(.int .i64 0)] [(0, (.t 165))]), none, 32766⟩,
 ⟨some 167, (.app 3 1 8 (.t 151) (.t 166)), none, 65535⟩,
 ⟨some 7, (.mv (.t 167)), none, 131071⟩] []))))) (.seq (.region [A 169 (.bin .eql (.t 71) (.c (.int .i64 3))),
 A 168 (.mv (.t 169))] [])
 (.cond (.t 168) (.seq (.region [A 170 (.mv (.t 8)),
 A 171 (.mv (.t 2)),
 A 172 (.len (.t 171)),
 A 173 (.bin .eql (.t 170) (.t 172)),
 A 6 (.mv (.t 173))] [])
 .ret) (.seq (.region [A 6 (.mv (.c (.bool false)))] [])
 .ret)))))))))))))))
 (.region [A 17 (.mv (.t 9)),
 A 18 (.bin .add (.t 17) (.c (.int .i64 1))),
 A 9 (.mv (.t 18))] []))))))
 (.seq (.region [A 6 (.mv (.c (.bool false)))] [])
 .ret))))) }
def a24 : AFunc :=
 { np := 1, nt := 56, mv := false, res := [(.tmp 2), (.tmp 3)], code :=
 (.seq (.region [A 1 (.box 30 (.t 0)),
 A 2 (.mv (.c .nil)),
 A 3 (.mv (.c (.int .i64 0)))] [])
 (.seq (.region [A 8 (.load 7 true (.t 1)),
 A 9 (.build [(.int .i64 0), (.int .i64 0), (.int .i64 0)] [(0, 1, (.c (.int .i64 (-1)))), (2, 1, (.c (.int .i64 1000)))]),
 A 10 (.litF 72 3 1 [(.int .i64 0), (.int .i64 0), (.int .i64 0)] [(0, (.t 9))]),
 A 11 (.call 48 [(.t 8), (.t 10)]),
 A 12 (.lit 37 1 1 [.nil] [(0, (.t 11))]),
 A 4 (.mv (.t 12))] [])
 (.seq (.seq (.region [A 5 (.mv (.c (.int .i64 0)))] [])
 (.block 0 (.loop [1, 4, 5, 43, 44, 45, 46] (.seq (.seq (.region [A 13 (.mv (.t 5)),
 A 14 (.mv (.t 4)),
 A 15 (.len (.t 14)),
 A 16 (.bin .lss (.t 13) (.t 15))] [])
 (.cond (.t 16) .skip (.exit 0)))
 (.seq (.block 1 (.seq (.region [A 6 (.mv (.c (.int .i64 0)))] [])
 (.block 2 (.loop [1, 4, 5, 6, 43, 44, 45, 46] (.seq (.seq (.region [A 19 (.mv (.t 6)),
 A 20 (.fld 0 (.t 1)),
 A 21 (.load 1 false (.t 20)),
 A 22 (.len (.t 21)),
 A 23 (.fld 1 (.t 1)),
 A 24 (.load 1 false (.t 23)),
 A 25 (.len (.t 24)),
 A 26 (.bin .add (.t 22) (.t 25)),
 A 27 (.bin .lss (.t 19) (.t 26))] [])
 (.cond (.t 27) .skip (.exit 2)))
 (.seq (.block 3 (.seq (.region [A 30 (.load 7 true (.t 1)),
 A 31 (.mv (.t 4)),
 A 32 (.mv (.t 5)),
 ⟨some 33, (.ixa 1 (.t 31) (.t 32)), none, 6⟩,
 ⟨some 34, (.load 1 false (.t 33)), none, 14⟩,
 A 35 (.load 7 true (.t 1)),
 A 36 (.mv (.t 6)),
 ⟨some 37, (.call 49 [(.t 35), (.t 36)]), none, 96⟩,
 ⟨some 38, (.call 41 [(.t 30), (.t 34), (.t 37)]), none, 255⟩,
 ⟨some 7, (.mv (.t 38)), none, 511⟩] [(0, 7), (1, 7), (2, 7), (3, 7), (4, 7)])
 (.seq (.seq (.region [A 39 (.mv (.t 7)),
 A 40 (.len (.t 39)),
 A 41 (.bin .gtr (.t 40) (.c (.int .i64 0))),
 A 42 (.mv (.t 41)),
 ⟨some 43, (.mv (.t 4)), (some (42, true)), 0⟩,
 ⟨some 44, (.mv (.t 7)), (some (42, true)), 0⟩,
 ⟨some 45, (.call 42 [(.t 43), (.t 44)]), (some (42, true)), 0⟩,
 ⟨some 46, (.bin .lss (.t 45) (.c (.int .i64 0))), (some (42, true)), 0⟩,
 A 47 (.pick (.t 42) (.t 46) (.c (.bool false)))] [])
 (.cond (.t 47) (.region [A 48 (.mv (.t 4)),
 A 49 (.mv (.t 7)),
 A 50 (.lit 37 1 1 [.nil] [(0, (.t 49))]),
 A 51 (.app 37 1 24 (.t 48) (.t 50)),
 A 4 (.mv (.t 51))] []) .skip))
 (.seq (.region [A 52 (.mv (.t 4)),
 A 53 (.len (.t 52)),
 A 54 (.bin .gtr (.t 53) (.c (.int .i64 120)))] [])
 (.cond (.t 54) (.seq (.region [A 2 (.mv (.c .nil)),
 A 3 (.mv (.c (.int .i64 6)))] [])
 .ret) .skip)))))
 (.region [A 28 (.mv (.t 6)),
 A 29 (.bin .add (.t 28) (.c (.int .i64 1))),
 A 6 (.mv (.t 29))] [])))))))
 (.region [A 17 (.mv (.t 5)),
 A 18 (.bin .add (.t 17) (.c (.int .i64 1))),
 A 5 (.mv (.t 18))] []))))))
 (.seq (.region [A 55 (.mv (.t 4)),
 A 2 (.mv (.t 55)),
 A 3 (.mv (.c (.int .i64 0)))] [])
 .ret)))) }
def a27 : AFunc :=
 { np := 1, nt := 260, mv := false, res := [(.tmp 2), (.tmp 3)], code :=
 (.seq (.region [A 1 (.box 30 (.t 0)),
 A 2 (.mv (.c (.int .i64 0))),
 A 3 (.mv (.c (.int .i64 0)))] [])
 (.seq (.seq (.region [A 17 (.fld 0 (.t 1)),
 A 18 (.load 1 false (.t 17)),
 A 19 (.len (.t 18)),
 A 20 (.bin .lss (.t 19) (.c (.int .i64 1))),
 A 21 (.mv (.t 20)),
 ⟨some 22, (.fld 1 (.t 1)), (some (21, false)), 0⟩,
 ⟨some 23, (.load 1 false (.t 22)), (some (21, false)), 0⟩,
 ⟨some 24, (.len (.t 23)), (some (21, false)), 0⟩,
 ⟨some 25, (.bin .lss (.t 24) (.c (.int .i64 1))), (some (21, false)), 0⟩,
 A 26 (.pick (.t 21) (.c (.bool true)) (.t 25)),
 A 27 (.mv (.t 26)),
 ⟨some 28, (.fld 3 (.t 1)), (some (27, false)), 0⟩,
 ⟨some 29, (.load 1 false (.t 28)), (some (27, false)), 0⟩,
 ⟨some 30, (.len (.t 29)), (some (27, false)), 0⟩,
 ⟨some 31, (.bin .lss (.t 30) (.c (.int .i64 1))), (some (27, false)), 0⟩,
 A 32 (.pick (.t 27) (.c (.bool true)) (.t 31)),
 A 33 (.mv (.t 32)),
 ⟨some 34, (.fld 0 (.t 1)), (some (33, false)), 0⟩,
 ⟨some 35, (.load 1 false (.t 34)), (some (33, false)), 0⟩,
 ⟨some 36, (.len (.t 35)), (some (33, false)), 0⟩,
 ⟨some 37, (.bin .gtr (.t 36) (.c (.int .i64 10))), (some (33, false)), 0⟩,
 A 38 (.pick (.t 33) (.c (.bool true)) (.t 37)),
 A 39 (.mv (.t 38)),
 ⟨some 40, (.fld 1 (.t 1)), (some (39, false)), 0⟩,
 ⟨some 41, (.load 1 false (.t 40)), (some (39, false)), 0⟩,
 ⟨some 42, (.len (.t 41)), (some (39, false)), 0⟩,
 ⟨some 43, (.bin .gtr (.t 42) (.c (.int .i64 12))), (some (39, false)), 0⟩,
 A 44 (.pick (.t 39) (.c (.bool true)) (.t 43)),
 A 45 (.mv (.t 44)),
 ⟨some 46, (.fld 2 (.t 1)), (some (45, false)), 0⟩,
 ⟨some 47, (.load 1 false (.t 46)), (some (45, false)), 0⟩,
 ⟨some 48, (.len (.t 47)), (some (45, false)), 0⟩,
 ⟨some 49, (.bin .gtr (.t 48) (.c (.int .i64 6))), (some (45, false)), 0⟩,
 A 50 (.pick (.t 45) (.c (.bool true)) (.t 49)),
 A 51 (.mv (.t 50)),
 ⟨some 52, (.fld 3 (.t 1)), (some (51, false)), 0⟩,
 ⟨some 53, (.load 1 false (.t 52)), (some (51, false)), 0⟩,
 ⟨some 54, (.len (.t 53)), (some (51, false)), 0⟩,
 ⟨some 55, (.bin .gtr (.t 54) (.c (.int .i64 24))), (some (51, false)), 0⟩,
 A 56 (.pick (.t 51) (.c (.bool true)) (.t 55))] [])
 (.cond (.t 56) (.seq (.region [A 2 (.mv (.c (.int .i64 0))),
 A 3 (.mv (.c (.int .i64 5)))] [])
 .ret) .skip))
 (.seq (.seq (.region [A 4 (.mv (.c (.int .i64 0)))] [])
 (.block 0 (.loop [1, 4, 84, 85, 86, 87, 88, 89, 90, 91, 94, 95, 96, 97, 98, 99, 100, 101, 102, 131, 132, 133, 134, 135, 136, 137, 138, 139, 140, 143, 144, 179, 180, 181, 182, 183, 184, 185, 186, 205, 206, 207, 210, 211, 212, 213, 216, 217, 218, 219, 242, 243, 244, 245, 246, 247, 253, 254, 255, 258] (.seq (.seq (.region [A 57 (.mv (.t 4)),
 A 58 (.fld 0 (.t 1)),
 A 59 (.load 1 false (.t 58)),
 A 60 (.len (.t 59)),
 A 61 (.bin .lss (.t 57) (.t 60))] [])
 (.cond (.t 61) .skip (.exit 0)))
 (.seq (.block 1 (.seq (.region [A 64 (.load 7 true (.t 1)),
 A 65 (.mv (.t 4)),
 A 66 (.call 54 [(.t 64), (.t 65)]),
 A 67 (.un .not (.t 66))] [])
 (.cond (.t 67) (.seq (.region [A 68 (.mv (.t 4)),
 A 2 (.mv (.t 68)),
 A 3 (.mv (.c (.int .i64 5)))] [])
 .ret) .skip)))
 (.region [A 62 (.mv (.t 4)),
 A 63 (.bin .add (.t 62) (.c (.int .i64 1))),
 A 4 (.mv (.t 63))] []))))))
 (.seq (.seq (.region [A 5 (.mv (.c (.int .i64 0)))] [])
 (.block 2 (.loop [1, 5, 84, 85, 86, 87, 88, 89, 90, 91, 94, 95, 96, 97, 98, 99, 100, 101, 102, 131, 132, 133, 134, 135, 136, 137, 138, 139, 140, 143, 144, 179, 180, 181, 182, 183, 184, 185, 186, 205, 206, 207, 210, 211, 212, 213, 216, 217, 218, 219, 242, 243, 244, 245, 246, 247, 253, 254, 255, 258] (.seq (.seq (.region [A 69 (.mv (.t 5)),
 A 70 (.fld 1 (.t 1)),
 A 71 (.load 1 false (.t 70)),
 A 72 (.len (.t 71)),
 A 73 (.bin .lss (.t 69) (.t 72))] [])
 (.cond (.t 73) .skip (.exit 2)))
 (.seq (.block 3 (.seq (.region [A 76 (.fld 1 (.t 1)),
 ⟨some 77, (.load 1 false (.t 76)), none, 1⟩,
 A 78 (.mv (.t 5)),
 ⟨some 79, (.ixa 1 (.t 77) (.t 78)), none, 7⟩,
 ⟨some 80, (.load 1 false (.t 79)), none, 15⟩,
 ⟨some 81, (.call 55 [(.t 80)]), none, 31⟩,
 ⟨some 82, (.un .not (.t 81)), none, 63⟩,
 ⟨some 83, (.mv (.t 82)), none, 127⟩,
 ⟨some 84, (.load 7 true (.t 1)), (some (83, false)), 255⟩,
 ⟨some 85, (.fld 1 (.t 1)), (some (83, false)), 255⟩,
 ⟨some 86, (.load 1 false (.t 85)), (some (83, false)), 767⟩,
 ⟨some 87, (.mv (.t 5)), (some (83, false)), 255⟩,
 ⟨some 88, (.ixa 1 (.t 86) (.t 87)), (some (83, false)), 3839⟩,
 ⟨some 89, (.load 1 false (.t 88)), (some (83, false)), 7935⟩,
 ⟨some 90, (.call 56 [(.t 84), (.t 89)]), (some (83, false)), 16383⟩,
 ⟨some 91, (.bin .geq (.t 90) (.c (.int .i64 0))), (some (83, false)), 32767⟩,
 ⟨some 92, (.pick (.t 83) (.c (.bool true)) (.t 91)), none, 65535⟩,
 ⟨some 93, (.mv (.t 92)), none, 131071⟩,
 ⟨some 94, (.load 7 true (.t 1)), (some (93, false)), 262143⟩,
 ⟨some 95, (.fld 1 (.t 1)), (some (93, false)), 262143⟩,
 ⟨some 96, (.load 1 false (.t 95)), (some (93, false)), 786431⟩,
 ⟨some 97, (.mv (.t 5)), (some (93, false)), 262143⟩,
 ⟨some 98, (.ixa 1 (.t 96) (.t 97)), (some (93, false)), 3932159⟩,
 ⟨some 99, (.load 1 false (.t 98)), (some (93, false)), 8126463⟩,
 ⟨some 100, (.call 57 [(.t 94), (.t 99)]), (some (93, false)), 16777215⟩,
 ⟨some 101, (.mv (.t 5)), (some (93, false)), 262143⟩,
 ⟨some 102, (.bin .neq (.t 100) (.t 101)), (some (93, false)), 67108863⟩,
 ⟨some 103, (.pick (.t 93) (.c (.bool true)) (.t 102)), none, 134217727⟩] [(25, 24)])
 (.cond (.t 103) (.seq (.region [A 104 (.mv (.t 5)),
 A 2 (.mv (.t 104)),
 A 3 (.mv (.c (.int .i64 5)))] [])
 .ret) .skip)))
 (.region [A 74 (.mv (.t 5)),
 A 75 (.bin .add (.t 74) (.c (.int .i64 1))),
 A 5 (.mv (.t 75))] []))))))
 (.seq (.seq (.region [A 6 (.mv (.c (.int .i64 0)))] [])
 (.block 4 (.loop [1, 6, 131, 132, 133, 134, 135, 136, 137, 138, 139, 140, 143, 144, 179, 180, 181, 182, 183, 184, 185, 186, 205, 206, 207, 210, 211, 212, 213, 216, 217, 218, 219, 242, 243, 244, 245, 246, 247, 253, 254, 255, 258] (.seq (.seq (.region [A 105 (.mv (.t 6)),
 A 106 (.fld 2 (.t 1)),
 A 107 (.load 1 false (.t 106)),
 A 108 (.len (.t 107)),
 A 109 (.bin .lss (.t 105) (.t 108))] [])
 (.cond (.t 109) .skip (.exit 4)))
 (.seq (.block 5 (.seq (.region [A 113 (.fld 2 (.t 1)),
 A 114 (.load 1 false (.t 113)),
 A 115 (.mv (.t 6)),
 A 116 (.ixa 2 (.t 114) (.t 115)),
 A 117 (.fld 1 (.t 116)),
 A 118 (.load 1 false (.t 117)),
 A 119 (.call 58 [(.t 118)]),
 A 112 (.mv (.t 119)),
 A 120 (.ext (.t 112) 0),
 A 121 (.ext (.t 112) 1),
 A 7 (.mv (.t 120)),
 A 8 (.mv (.t 121))] [])
 (.seq (.region [A 122 (.fld 2 (.t 1)),
 ⟨some 123, (.load 1 false (.t 122)), none, 1⟩,
 A 124 (.mv (.t 6)),
 ⟨some 125, (.ixa 2 (.t 123) (.t 124)), none, 7⟩,
 ⟨some 126, (.fld 0 (.t 125)), none, 15⟩,
 ⟨some 127, (.load 1 false (.t 126)), none, 31⟩,
 ⟨some 128, (.call 55 [(.t 127)]), none, 63⟩,
 ⟨some 129, (.un .not (.t 128)), none, 127⟩,
 ⟨some 130, (.mv (.t 129)), none, 255⟩,
 ⟨some 131, (.load 7 true (.t 1)), (some (130, false)), 511⟩,
 ⟨some 132, (.fld 2 (.t 1)), (some (130, false)), 511⟩,
 ⟨some 133, (.load 1 false (.t 132)), (some (130, false)), 1535⟩,
 ⟨some 134, (.mv (.t 6)), (some (130, false)), 511⟩,
 ⟨some 135, (.ixa 2 (.t 133) (.t 134)), (some (130, false)), 7679⟩,
 ⟨some 136, (.fld 0 (.t 135)), (some (130, false)), 15871⟩,
 ⟨some 137, (.load 1 false (.t 136)), (some (130, false)), 32255⟩,
 ⟨some 138, (.call 59 [(.t 131), (.t 137)]), (some (130, false)), 65535⟩,
 ⟨some 139, (.mv (.t 6)), (some (130, false)), 511⟩,
 ⟨some 140, (.bin .neq (.t 138) (.t 139)), (some (130, false)), 262143⟩,
 ⟨some 141, (.pick (.t 130) (.c (.bool true)) (.t 140)), none, 524287⟩,
 ⟨some 142, (.mv (.t 141)), none, 1048575⟩,
 ⟨some 143, (.mv (.t 8)), (some (142, false)), 2097151⟩,
 ⟨some 144, (.bin .neq (.t 143) (.c (.int .i64 0))), (some (142, false)), 4194303⟩,
 ⟨some 145, (.pick (.t 142) (.c (.bool true)) (.t 144)), none, 8388607⟩] [(17, 16)])
 (.cond (.t 145) (.seq (.region [A 146 (.mv (.t 6)),
 A 2 (.mv (.t 146)),
 A 3 (.mv (.c (.int .i64 5)))] [])
 .ret) .skip))))
 (.region [A 110 (.mv (.t 6)),
 A 111 (.bin .add (.t 110) (.c (.int .i64 1))),
 A 6 (.mv (.t 111))] []))))))
 (.seq (.seq (.region [A 9 (.mv (.c (.int .i64 0)))] [])
 (.block 6 (.loop [1, 9, 179, 180, 181, 182, 183, 184, 185, 186, 205, 206, 207, 210, 211, 212, 213, 216, 217, 218, 219, 242, 243, 244, 245, 246, 247, 253, 254, 255, 258] (.seq (.seq (.region [A 147 (.mv (.t 9)),
 A 148 (.fld 3 (.t 1)),
 A 149 (.load 1 false (.t 148)),
 A 150 (.len (.t 149)),
 A 151 (.bin .lss (.t 147) (.t 150))] [])
 (.cond (.t 151) .skip (.exit 6)))
 (.seq (.block 7 (.seq (.region [A 154 (.load 7 true (.t 1)),
 A 155 (.fld 3 (.t 1)),
 ⟨some 156, (.load 1 false (.t 155)), none, 2⟩,
 A 157 (.mv (.t 9)),
 ⟨some 158, (.ixa 3 (.t 156) (.t 157)), none, 14⟩,
 ⟨some 159, (.load 3 true (.t 158)), none, 30⟩,
 ⟨some 160, (.call 60 [(.t 154), (.t 159)]), none, 63⟩,
 ⟨some 161, (.un .not (.t 160)), none, 127⟩] [])
 (.cond (.t 161) (.seq (.region [A 162 (.mv (.t 9)),
 A 2 (.mv (.t 162)),
 A 3 (.mv (.c (.int .i64 5)))] [])
 .ret) .skip)))
 (.region [A 152 (.mv (.t 9)),
 A 153 (.bin .add (.t 152) (.c (.int .i64 1))),
 A 9 (.mv (.t 153))] []))))))
 (.seq (.seq (.region [A 10 (.mv (.c (.int .i64 0)))] [])
 (.block 8 (.loop [1, 10, 179, 180, 181, 182, 183, 184, 185, 186, 205, 206, 207, 210, 211, 212, 213, 216, 217, 218, 219, 242, 243, 244, 245, 246, 247, 253, 254, 255, 258] (.seq (.seq (.region [A 163 (.mv (.t 10)),
 A 164 (.fld 1 (.t 1)),
 A 165 (.load 1 false (.t 164)),
 A 166 (.len (.t 165)),
 A 167 (.bin .lss (.t 163) (.t 166))] [])
 (.cond (.t 167) .skip (.exit 8)))
 (.seq (.block 9 (.seq (.region [A 11 (.mv (.c (.bool false)))] [])
 (.seq (.seq (.region [A 12 (.mv (.c (.int .i64 0)))] [])
 (.block 10 (.loop [1, 10, 11, 12, 179, 180, 181, 182, 183, 184, 185, 186, 205, 206, 207, 210, 211, 212, 213, 216, 217, 218, 219, 242, 243, 244, 245, 246, 247, 253, 254, 255, 258] (.seq (.seq (.region [A 170 (.mv (.t 12)),
 A 171 (.fld 3 (.t 1)),
 A 172 (.load 1 false (.t 171)),
 A 173 (.len (.t 172)),
 A 174 (.bin .lss (.t 170) (.t 173))] [])
 (.cond (.t 174) .skip (.exit 10)))
 (.seq (.block 11 (.region [A 177 (.mv (.t 11)),
 A 178 (.mv (.t 177)),
 ⟨some 179, (.fld 3 (.t 1)), (some (178, false)), 0⟩,
 ⟨some 180, (.load 1 false (.t 179)), (some (178, false)), 0⟩,
 ⟨some 181, (.mv (.t 12)), (some (178, false)), 0⟩,
 ⟨some 182, (.ixa 3 (.t 180) (.t 181)), (some (178, false)), 0⟩,
 ⟨some 183, (.fld 0 (.t 182)), (some (178, false)), 0⟩,
 ⟨some 184, (.load 1 false (.t 183)), (some (178, false)), 0⟩,
 ⟨some 185, (.mv (.t 10)), (some (178, false)), 0⟩,
 ⟨some 186, (.bin .eql (.t 184) (.t 185)), (some (178, false)), 0⟩,
 A 187 (.pick (.t 178) (.c (.bool true)) (.t 186)),
 A 11 (.mv (.t 187))] []))
 (.region [A 175 (.mv (.t 12)),
 A 176 (.bin .add (.t 175) (.c (.int .i64 1))),
 A 12 (.mv (.t 176))] []))))))
 (.seq (.region [A 188 (.mv (.t 11)),
 A 189 (.un .not (.t 188))] [])
 (.cond (.t 189) (.seq (.region [A 190 (.mv (.t 10)),
 A 2 (.mv (.t 190)),
 A 3 (.mv (.c (.int .i64 5)))] [])
 .ret) .skip)))))
 (.region [A 168 (.mv (.t 10)),
 A 169 (.bin .add (.t 168) (.c (.int .i64 1))),
 A 10 (.mv (.t 169))] []))))))
 (.seq (.region [A 191 (.litF 60 4 0 [(.int .u64 0), (.int .u64 0), (.int .u64 0), (.int .u64 0)] []),
 A 192 (.fld 4 (.t 1)),
 ⟨some 193, (.load 1 false (.t 192)), none, 2⟩,
 ⟨some 194, (.app 60 4 32 (.t 191) (.t 193)), none, 7⟩,
 A 195 (.fld 5 (.t 1)),
 ⟨some 196, (.load 1 false (.t 195)), none, 16⟩,
 ⟨some 197, (.app 60 4 32 (.t 194) (.t 196)), none, 63⟩,
 ⟨some 13, (.mv (.t 197)), none, 127⟩] [(4, 3), (5, 3)])
 (.seq (.seq (.region [A 198 (.fld 3 (.t 1)),
 A 199 (.load 1 false (.t 198)),
 A 200 (.ixa 3 (.t 199) (.c (.int .i64 0))),
 A 201 (.fld 0 (.t 200)),
 A 202 (.load 1 false (.t 201)),
 A 203 (.bin .neq (.t 202) (.c (.int .i64 0))),
 A 204 (.mv (.t 203)),
 ⟨some 205, (.mv (.t 13)), (some (204, false)), 0⟩,
 ⟨some 206, (.len (.t 205)), (some (204, false)), 0⟩,
 ⟨some 207, (.bin .eql (.t 206) (.c (.int .i64 0))), (some (204, false)), 0⟩,
 A 208 (.pick (.t 204) (.c (.bool true)) (.t 207)),
 A 209 (.mv (.t 208)),
 ⟨some 210, (.fld 4 (.t 1)), (some (209, false)), 0⟩,
 ⟨some 211, (.load 1 false (.t 210)), (some (209, false)), 0⟩,
 ⟨some 212, (.len (.t 211)), (some (209, false)), 0⟩,
 ⟨some 213, (.bin .gtr (.t 212) (.c (.int .i64 3))), (some (209, false)), 0⟩,
 A 214 (.pick (.t 209) (.c (.bool true)) (.t 213)),
 A 215 (.mv (.t 214)),
 ⟨some 216, (.fld 5 (.t 1)), (some (215, false)), 0⟩,
 ⟨some 217, (.load 1 false (.t 216)), (some (215, false)), 0⟩,
 ⟨some 218, (.len (.t 217)), (some (215, false)), 0⟩,
 ⟨some 219, (.bin .gtr (.t 218) (.c (.int .i64 3))), (some (215, false)), 0⟩,
 A 220 (.pick (.t 215) (.c (.bool true)) (.t 219))] [])
 (.cond (.t 220) (.seq (.region [A 2 (.mv (.c (.int .i64 0))),
 A 3 (.mv (.c (.int .i64 5)))] [])
 .ret) .skip))
 (.seq (.seq (.region [A 14 (.mv (.c (.int .i64 0)))] [])
 (.block 12 (.loop [1, 13, 14, 242, 243, 244, 245, 246, 247, 253, 254, 255, 258] (.seq (.seq (.region [A 221 (.mv (.t 14)),
 A 222 (.mv (.t 13)),
 A 223 (.len (.t 222)),
 A 224 (.bin .lss (.t 221) (.t 223))] [])
 (.cond (.t 224) .skip (.exit 12)))
 (.seq (.block 13 (.seq (.region [A 227 (.mv (.t 13)),
 A 228 (.mv (.t 14)),
 A 229 (.ixa 4 (.t 227) (.t 228)),
 A 230 (.load 4 true (.t 229)),
 A 231 (.call 61 [(.t 230)])] [])
 (.cond (.t 231) (.seq (.region [A 232 (.mv (.t 14)),
 A 2 (.mv (.t 232)),
 A 3 (.mv (.c (.int .i64 5)))] [])
 .ret) .skip)))
 (.region [A 225 (.mv (.t 14)),
 A 226 (.bin .add (.t 225) (.c (.int .i64 1))),
 A 14 (.mv (.t 226))] []))))))
 (.seq (.region [A 15 (.mv (.c (.bool true)))] [])
 (.seq (.seq (.region [A 16 (.mv (.c (.int .i64 0)))] [])
 (.block 14 (.loop [1, 15, 16, 242, 243, 244, 245, 246, 247, 253, 254, 255, 258] (.seq (.seq (.region [A 233 (.mv (.t 16)),
 A 234 (.fld 0 (.t 1)),
 A 235 (.load 1 false (.t 234)),
 A 236 (.len (.t 235)),
 A 237 (.bin .lss (.t 233) (.t 236))] [])
 (.cond (.t 237) .skip (.exit 14)))
 (.seq (.block 15 (.region [A 240 (.mv (.t 15)),
 A 241 (.mv (.t 240)),
 ⟨some 242, (.fld 0 (.t 1)), (some (241, true)), 0⟩,
 ⟨some 243, (.load 1 false (.t 242)), (some (241, true)), 0⟩,
 ⟨some 244, (.mv (.t 16)), (some (241, true)), 0⟩,
 ⟨some 245, (.ixa 8 (.t 243) (.t 244)), (some (241, true)), 0⟩,
 ⟨some 246, (.fld 7 (.t 245)), (some (241, true)), 0⟩,
 ⟨some 247, (.load 1 false (.t 246)), (some (241, true)), 0⟩,
 A 248 (.pick (.t 241) (.t 247) (.c (.bool false))),
 A 15 (.mv (.t 248))] []))
 (.region [A 238 (.mv (.t 16)),
 A 239 (.bin .add (.t 238) (.c (.int .i64 1))),
 A 16 (.mv (.t 239))] []))))))
 (.seq (.seq (.region [A 249 (.fld 6 (.t 1)),
 A 250 (.load 1 false (.t 249)),
 A 251 (.bin .lss (.t 250) (.c (.int .i64 1))),
 A 252 (.mv (.t 251)),
 ⟨some 253, (.fld 6 (.t 1)), (some (252, false)), 0⟩,
 ⟨some 254, (.load 1 false (.t 253)), (some (252, false)), 0⟩,
 ⟨some 255, (.bin .gtr (.t 254) (.c (.int .i64 60))), (some (252, false)), 0⟩,
 A 256 (.pick (.t 252) (.c (.bool true)) (.t 255)),
 A 257 (.mv (.t 256)),
 ⟨some 258, (.mv (.t 15)), (some (257, false)), 0⟩,
 A 259 (.pick (.t 257) (.c (.bool true)) (.t 258))] [])
 (.cond (.t 259) (.seq (.region [A 2 (.mv (.c (.int .i64 0))),
 A 3 (.mv (.c (.int .i64 5)))] [])
 .ret) .skip))
 (.seq (.region [A 2 (.mv (.c (.int .i64 0))),
 A 3 (.mv (.c (.int .i64 0)))] [])
 .ret)))))))))))))) }
def a28 : AFunc :=
 { np := 2, nt := 20, mv := false, res := [(.tmp 4)], code :=
 (.seq (.region [A 2 (.box 30 (.t 0)),
 A 4 (.mv (.c (.bool false)))] [])
 (.seq (.region [A 8 (.load 7 true (.t 2)),
 A 9 (.call 62 [(.t 8)]),
 A 7 (.mv (.t 9)),
 A 10 (.ext (.t 7) 0),
 A 11 (.ext (.t 7) 1),
 A 5 (.mv (.t 10)),
 A 6 (.mv (.t 11))] [])
 (.seq (.region [A 12 (.mv (.t 6)),
 A 13 (.bin .eql (.t 12) (.c (.int .i64 0))),
 A 14 (.mv (.t 13)),
 ⟨some 15, (.mv (.t 1)), (some (14, true)), 0⟩,
 ⟨some 16, (.mkf 64 [(.t 2)]), (some (14, true)), 0⟩,
 ⟨some 17, (.call 63 [(.t 15), (.t 16)]), (some (14, true)), 0⟩,
 ⟨some 18, (.un .not (.t 17)), (some (14, true)), 0⟩,
 A 19 (.pick (.t 14) (.t 18) (.c (.bool false))),
 A 4 (.mv (.t 19))] [])
 .ret))) }
def a29 : AFunc :=
 { np := 1, nt := 10, mv := true, res := [(.tmp 2)], code :=
 (.seq (.region [A 1 (.box 30 (.t 0)),
 A 2 (.mv (.c .nilPtr))] [])
 (.seq (.region [A 3 (.load 7 true (.t 1)),
 A 4 (.load 7 true (.t 1)),
 ⟨some 5, (.call 66 [(.t 4)]), none, 2⟩,
 A 6 (.load 7 true (.t 1)),
 ⟨some 7, (.call 67 [(.t 6)]), none, 14⟩,
 ⟨some 8, (.build [.nil, .nil, .nil, .nil, .nil, .nil, (.int .i64 0), .nil, .nil] [(0, 7, (.t 3)), (7, 1, (.t 5)), (8, 1, (.t 7))]), none, 31⟩,
 ⟨some 9, (.box 129 (.t 8)), none, 63⟩,
 ⟨some 2, (.mv (.t 9)), none, 127⟩] [(0, 2), (0, 4), (3, 2)])
 .ret)) }
def a30 : AFunc :=
 { np := 1, nt := 30, mv := false, res := [(.tmp 2)], code :=
 (.seq (.region [A 1 (.box 30 (.t 0)),
 A 2 (.mv (.c .nil))] [])
 (.seq (.region [A 3 (.mv (.c .nil))] [])
 (.seq (.seq (.region [A 6 (.fld 0 (.t 1)),
 A 7 (.load 1 false (.t 6)),
 A 8 (.len (.t 7)),
 A 9 (.mv (.c (.int .i64 0)))] [])
 (.block 0 (.loop [1, 3, 8, 9] (.seq (.region [A 10 (.bin .lss (.t 9) (.t 8))] [])
 (.seq (.cond (.t 10) .skip (.exit 0))
 (.seq (.block 1 (.seq (.region [A 11 (.mv (.t 9)),
 A 4 (.mv (.t 11))] [])
 (.region [A 12 (.mv (.t 3)),
 A 13 (.mv (.t 4)),
 A 14 (.bin .sub (.c (.int .i64 (-1))) (.t 13)),
 A 15 (.litF 3 1 1 [(.int .i64 0)] [(0, (.t 14))]),
 A 16 (.app 3 1 8 (.t 12) (.t 15)),
 A 3 (.mv (.t 16))] [])))
 (.region [A 17 (.bin .add (.t 9) (.c (.int .i64 1))),
 A 9 (.mv (.t 17))] [])))))))
 (.seq (.seq (.region [A 18 (.fld 1 (.t 1)),
 A 19 (.load 1 false (.t 18)),
 A 20 (.len (.t 19)),
 A 21 (.mv (.c (.int .i64 0)))] [])
 (.block 2 (.loop [3, 20, 21] (.seq (.region [A 22 (.bin .lss (.t 21) (.t 20))] [])
 (.seq (.cond (.t 22) .skip (.exit 2))
 (.seq (.block 3 (.seq (.region [A 23 (.mv (.t 21)),
 A 5 (.mv (.t 23))] [])
 (.region [A 24 (.mv (.t 3)),
 A 25 (.mv (.t 5)),
 A 26 (.litF 3 1 1 [(.int .i64 0)] [(0, (.t 25))]),
 A 27 (.app 3 1 8 (.t 24) (.t 26)),
 A 3 (.mv (.t 27))] [])))
 (.region [A 28 (.bin .add (.t 21) (.c (.int .i64 1))),
 A 21 (.mv (.t 28))] [])))))))
 (.seq (.region [A 29 (.mv (.t 3)),
 A 2 (.mv (.t 29))] [])
 .ret))))) }
def a31 : AFunc :=
 { np := 2, nt := 104, mv := false, res := [(.tmp 4)], code :=
 (.seq (.region [A 4 (.mv (.c .nil))] [])
 (.seq (.region [A 18 (.mkmap 130),
 A 5 (.alloc 130 [(.v .nilMap)]),
 ⟨none, (.store 1 (.t 5) (.t 18)), none, 0⟩] [])
 (.seq (.region [A 6 (.alloc 37 [(.v .nil)])] [])
 (.seq (.region [A 19 (.mkf 68 [(.t 5), (.t 6)]),
 A 7 (.mv (.t 19))] [])
 (.seq (.seq (.region [A 20 (.mv (.t 1)),
 A 21 (.len (.t 20)),
 A 22 (.mv (.c (.int .i64 0)))] [])
 (.block 0 (.loop [0, 6, 7, 20, 21, 22, 53, 54, 55, 56, 57, 58] (.seq (.region [A 23 (.bin .lss (.t 22) (.t 21))] [])
 (.seq (.cond (.t 23) .skip (.exit 0))
 (.seq (.block 1 (.seq (.region [A 24 (.ixa 3 (.t 20) (.t 22)),
 A 25 (.load 3 true (.t 24)),
 A 9 (.alloc 72 [(.v (.int .i64 0)), (.v (.int .i64 0)), (.v (.int .i64 0))]),
 ⟨none, (.store 3 (.t 9) (.t 25)), none, 0⟩] [])
 (.region [A 26 (.mv (.t 7)),
 A 27 (.load 3 true (.t 9)),
 A 28 (.callv (.t 26) [(.t 27)])] [])))
 (.region [A 29 (.bin .add (.t 22) (.c (.int .i64 1))),
 A 22 (.mv (.t 29))] [])))))))
 (.seq (.seq (.region [A 10 (.mv (.c (.int .i64 0)))] [])
 (.block 2 (.loop [0, 6, 7, 10, 53, 54, 55, 56, 57, 58] (.seq (.seq (.region [A 30 (.mv (.t 10)),
 A 31 (.load 1 false (.t 6)),
 A 32 (.len (.t 31)),
 A 33 (.bin .lss (.t 30) (.t 32))] [])
 (.cond (.t 33) .skip (.exit 2)))
 (.seq (.block 3 (.seq (.region [A 36 (.load 1 false (.t 6)),
 A 37 (.mv (.t 10)),
 A 38 (.ixa 3 (.t 36) (.t 37)),
 A 39 (.load 3 true (.t 38)),
 A 11 (.alloc 72 [(.v (.int .i64 0)), (.v (.int .i64 0)), (.v (.int .i64 0))]),
 ⟨none, (.store 3 (.t 11) (.t 39)), none, 0⟩] [])
 (.seq (.region [A 40 (.mv (.t 0)),
 ⟨some 41, (.chk (.t 40)), none, 1⟩,
 ⟨some 42, (.fld 0 (.t 41)), none, 3⟩,
 ⟨some 43, (.load 7 true (.t 42)), none, 7⟩,
 A 44 (.fld 0 (.t 11)),
 ⟨some 45, (.load 1 false (.t 44)), none, 16⟩,
 ⟨some 46, (.call 69 [(.t 43), (.t 45)]), none, 63⟩,
 ⟨some 12, (.mv (.t 46)), none, 127⟩] [])
 (.seq (.seq (.region [A 47 (.fld 1 (.t 11)),
 A 48 (.load 1 false (.t 47)),
 A 49 (.mv (.t 12)),
 A 50 (.len (.t 49)),
 A 51 (.bin .geq (.t 48) (.t 50)),
 A 52 (.mv (.t 51)),
 ⟨some 53, (.mv (.t 12)), (some (52, false)), 0⟩,
 ⟨some 54, (.fld 1 (.t 11)), (some (52, false)), 0⟩,
 ⟨some 55, (.load 1 false (.t 54)), (some (52, false)), 0⟩,
 ⟨some 56, (.ixa 1 (.t 53) (.t 55)), (some (52, false)), 0⟩,
 ⟨some 57, (.load 1 false (.t 56)), (some (52, false)), 0⟩,
 ⟨some 58, (.bin .lss (.t 57) (.c (.int .i64 0))), (some (52, false)), 0⟩,
 A 59 (.pick (.t 52) (.c (.bool true)) (.t 58))] [])
 (.cond (.t 59) (.exit 3) .skip))
 (.seq (.region [A 60 (.mv (.t 0)),
 A 61 (.mv (.t 12)),
 A 62 (.fld 1 (.t 11)),
 ⟨some 63, (.load 1 false (.t 62)), none, 4⟩,
 ⟨some 64, (.bin .add (.t 63) (.c (.int .i64 1))), none, 12⟩,
 ⟨some 65, (.cut 1 (.t 61) (some (.t 64)) none), none, 30⟩,
 A 66 (.fld 2 (.t 11)),
 ⟨some 67, (.load 1 false (.t 66)), none, 64⟩,
 ⟨some 68, (.call 70 [(.t 60), (.t 65), (.t 67)]), none, 255⟩,
 ⟨some 13, (.mv (.t 68)), none, 511⟩] [(0, 5), (6, 5), (7, 5)])
 (.seq (.region [A 69 (.mv (.t 0)),
 A 70 (.chk (.t 69)),
 A 71 (.fld 0 (.t 70)),
 A 72 (.fld 3 (.t 71)),
 A 73 (.load 1 false (.t 72)),
 A 74 (.len (.t 73)),
 A 75 (.mv (.c (.int .i64 0)))] [])
 (.block 4 (.loop [0, 6, 7, 10, 11, 12, 13, 53, 54, 55, 56, 57, 58, 73, 74, 75] (.seq (.region [A 76 (.bin .lss (.t 75) (.t 74))] [])
 (.seq (.cond (.t 76) .skip (.exit 4))
 (.seq (.block 5 (.seq (.region [A 77 (.mv (.t 75)),
 A 78 (.ixa 3 (.t 73) (.t 75)),
 A 79 (.load 3 true (.t 78)),
 A 15 (.alloc 55 [(.v (.int .i64 0)), (.v .nil), (.v (.int .i64 0))]),
 A 14 (.mv (.t 77)),
 ⟨none, (.store 3 (.t 15) (.t 79)), none, 0⟩] [])
 (.seq (.seq (.region [A 80 (.fld 0 (.t 15)),
 ⟨some 81, (.load 1 false (.t 80)), none, 1⟩,
 A 82 (.mv (.t 12)),
 A 83 (.fld 1 (.t 11)),
 ⟨some 84, (.load 1 false (.t 83)), none, 8⟩,
 ⟨some 85, (.ixa 1 (.t 82) (.t 84)), none, 28⟩,
 ⟨some 86, (.load 1 false (.t 85)), none, 60⟩,
 ⟨some 87, (.bin .neq (.t 81) (.t 86)), none, 127⟩] [])
 (.cond (.t 87) (.exit 5) .skip))
 (.seq (.region [A 88 (.mv (.t 13)),
 A 89 (.len (.t 88)),
 A 90 (.mv (.c (.int .i64 0)))] [])
 (.block 6 (.loop [0, 6, 7, 10, 11, 12, 13, 14, 53, 54, 55, 56, 57, 58, 73, 74, 75, 88, 89, 90] (.seq (.region [A 91 (.bin .lss (.t 90) (.t 89))] [])
 (.seq (.cond (.t 91) .skip (.exit 6))
 (.seq (.block 7 (.seq (.region [A 92 (.ixa 1 (.t 88) (.t 90)),
 A 93 (.load 1 false (.t 92)),
 A 17 (.mv (.t 93))] [])
 (.region [A 94 (.mv (.t 7)),
 A 95 (.mv (.t 14)),
 A 96 (.mv (.t 17)),
 A 97 (.build [(.int .i64 0), (.int .i64 0), (.int .i64 0)] [(0, 1, (.t 95)), (2, 1, (.t 96))]),
 A 98 (.callv (.t 94) [(.t 97)])] [])))
 (.region [A 99 (.bin .add (.t 90) (.c (.int .i64 1))),
 A 90 (.mv (.t 99))] []))))))))))
 (.region [A 100 (.bin .add (.t 75) (.c (.int .i64 1))),
 A 75 (.mv (.t 100))] []))))))))))))
 (.region [A 34 (.mv (.t 10)),
 A 35 (.bin .add (.t 34) (.c (.int .i64 1))),
 A 10 (.mv (.t 35))] []))))))
 (.seq (.region [A 101 (.load 1 false (.t 6)),
 A 102 (.call 71 [(.t 101), (.c (.fn 72))])] [])
 (.seq (.region [A 103 (.load 1 false (.t 6)),
 A 4 (.mv (.t 103))] [])
 .ret)))))))) }
def a32 : AFunc :=
 { np := 3, nt := 50, mv := false, res := [(.tmp 6)], code :=
 (.seq (.region [A 6 (.mv (.c .nil))] [])
 (.seq (.region [A 7 (.mv (.c .nil))] [])
 (.seq (.seq (.region [A 11 (.mv (.t 1)),
 A 12 (.len (.t 11)),
 A 13 (.mv (.c (.int .i64 0)))] [])
 (.block 0 (.loop [0, 2, 7, 11, 12, 13, 30, 31, 32, 33, 34, 35, 36] (.seq (.region [A 14 (.bin .lss (.t 13) (.t 12))] [])
 (.seq (.cond (.t 14) .skip (.exit 0))
 (.seq (.block 1 (.seq (.region [A 15 (.ixa 3 (.t 11) (.t 13)),
 A 16 (.load 3 true (.t 15)),
 A 9 (.alloc 72 [(.v (.int .i64 0)), (.v (.int .i64 0)), (.v (.int .i64 0))]),
 ⟨none, (.store 3 (.t 9) (.t 16)), none, 0⟩] [])
 (.seq (.region [A 17 (.mv (.t 0)),
 ⟨some 18, (.chk (.t 17)), none, 1⟩,
 ⟨some 19, (.fld 0 (.t 18)), none, 3⟩,
 ⟨some 20, (.load 7 true (.t 19)), none, 7⟩,
 A 21 (.fld 0 (.t 9)),
 ⟨some 22, (.load 1 false (.t 21)), none, 16⟩,
 ⟨some 23, (.call 69 [(.t 20), (.t 22)]), none, 63⟩,
 ⟨some 10, (.mv (.t 23)), none, 127⟩] [])
 (.seq (.region [A 24 (.fld 1 (.t 9)),
 A 25 (.load 1 false (.t 24)),
 A 26 (.mv (.t 10)),
 A 27 (.len (.t 26)),
 A 28 (.bin .lss (.t 25) (.t 27)),
 A 29 (.mv (.t 28)),
 ⟨some 30, (.mv (.t 10)), (some (29, true)), 0⟩,
 ⟨some 31, (.fld 1 (.t 9)), (some (29, true)), 0⟩,
 ⟨some 32, (.load 1 false (.t 31)), (some (29, true)), 0⟩,
 ⟨some 33, (.ixa 1 (.t 30) (.t 32)), (some (29, true)), 0⟩,
 ⟨some 34, (.load 1 false (.t 33)), (some (29, true)), 0⟩,
 ⟨some 35, (.mv (.t 2)), (some (29, true)), 0⟩,
 ⟨some 36, (.bin .eql (.t 34) (.t 35)), (some (29, true)), 0⟩,
 A 37 (.pick (.t 29) (.t 36) (.c (.bool false)))] [])
 (.cond (.t 37) (.seq (.region [A 38 (.fld 1 (.t 9)),
 A 39 (.load 1 false (.t 38)),
 A 40 (.bin .add (.t 39) (.c (.int .i64 1))),
 A 41 (.fld 1 (.t 9)),
 ⟨none, (.store 1 (.t 41) (.t 40)), none, 0⟩] [])
 (.region [A 42 (.mv (.t 7)),
 A 43 (.load 3 true (.t 9)),
 A 44 (.litF 72 3 1 [(.int .i64 0), (.int .i64 0), (.int .i64 0)] [(0, (.t 43))]),
 A 45 (.app 72 3 24 (.t 42) (.t 44)),
 A 7 (.mv (.t 45))] [])) .skip)))))
 (.region [A 46 (.bin .add (.t 13) (.c (.int .i64 1))),
 A 13 (.mv (.t 46))] [])))))))
 (.seq (.region [A 47 (.mv (.t 0)),
 A 48 (.mv (.t 7)),
 A 49 (.call 31 [(.t 47), (.t 48)]),
 A 6 (.mv (.t 49))] [])
 .ret)))) }
def a33 : AFunc :=
 { np := 2, nt := 9, mv := false, res := [(.tmp 4)], code :=
 (.seq (.region [A 4 (.mv (.c (.bool false)))] [])
 (.seq (.region [A 5 (.mv (.t 0)),
 A 6 (.mv (.t 1)),
 A 7 (.call 73 [(.t 5), (.t 6)]),
 A 8 (.bin .geq (.t 7) (.c (.int .i64 0))),
 A 4 (.mv (.t 8))] [])
 .ret)) }
def a34 : AFunc :=
 { np := 2, nt := 7, mv := false, res := [(.tmp 3)], code :=
 (.seq (.region [A 3 (.mv (.c (.bool false)))] [])
 (.seq (.region [A 4 (.mv (.t 0)),
 A 5 (.load 1 false (.t 1)),
 A 6 (.call 35 [(.t 4), (.t 5)]),
 A 3 (.mv (.t 6))] [])
 .ret)) }
def a35 : AFunc :=
 { np := 2, nt := 26, mv := false, res := [(.tmp 4)], code :=
 (.seq (.region [A 4 (.mv (.c (.bool false)))] [])
 (.seq (.seq (.region [A 6 (.mv (.t 0)),
 A 7 (.len (.t 6)),
 A 8 (.mv (.t 1)),
 A 9 (.len (.t 8)),
 A 10 (.bin .neq (.t 7) (.t 9))] [])
 (.cond (.t 10) (.seq (.region [A 4 (.mv (.c (.bool false)))] [])
 .ret) .skip))
 (.seq (.seq (.region [A 11 (.mv (.t 0)),
 A 12 (.len (.t 11)),
 A 13 (.mv (.c (.int .i64 0)))] [])
 (.block 0 (.loop [0, 1, 12, 13] (.seq (.region [A 14 (.bin .lss (.t 13) (.t 12))] [])
 (.seq (.cond (.t 14) .skip (.exit 0))
 (.seq (.block 1 (.seq (.region [A 15 (.mv (.t 13)),
 A 5 (.mv (.t 15))] [])
 (.seq (.region [A 16 (.mv (.t 0)),
 A 17 (.mv (.t 5)),
 ⟨some 18, (.ixa 3 (.t 16) (.t 17)), none, 3⟩,
 ⟨some 19, (.load 3 true (.t 18)), none, 7⟩,
 A 20 (.mv (.t 1)),
 A 21 (.mv (.t 5)),
 ⟨some 22, (.ixa 3 (.t 20) (.t 21)), none, 48⟩,
 ⟨some 23, (.load 3 true (.t 22)), none, 112⟩,
 ⟨some 24, (.eqA 3 true (.t 19) (.t 23)), none, 255⟩] [])
 (.cond (.t 24) (.seq (.region [A 4 (.mv (.c (.bool false)))] [])
 .ret) .skip))))
 (.region [A 25 (.bin .add (.t 13) (.c (.int .i64 1))),
 A 13 (.mv (.t 25))] [])))))))
 (.seq (.region [A 4 (.mv (.c (.bool true)))] [])
 .ret)))) }
def a37 : AFunc :=
 { np := 2, nt := 48, mv := true, res := [(.tmp 4)], code :=
 (.seq (.region [A 4 (.mv (.c .nil))] [])
 (.seq (.seq (.region [A 9 (.mv (.t 1)),
 A 10 (.bin .lss (.t 9) (.c (.int .i64 0)))] [])
 (.cond (.t 10) (.region [A 11 (.iface 9 (.c (.str ⟨#[99, 97, 110, 110, 111, 116, 32, 98, 101, 32, 110, 101, 103, 97, 116, 105, 118, 101]⟩))),
 ⟨none, (.panic (.t 11)), none, 0⟩] []) .skip))
 (.seq (.region [A 13 (.mv (.t 0)),
 A 14 (.len (.t 13)),
 A 15 (.conv .u64 (.t 14)),
 A 16 (.mv (.t 1)),
 A 17 (.conv .u64 (.t 16)),
 A 18 (.call 74 [(.t 15), (.t 17)]),
 A 12 (.mv (.t 18)),
 A 19 (.ext (.t 12) 0),
 A 20 (.ext (.t 12) 1),
 A 5 (.mv (.t 19)),
 A 6 (.mv (.t 20))] [])
 (.seq (.seq (.region [A 21 (.mv (.t 5)),
 A 22 (.bin .gtr (.t 21) (.c (.int .u64 0))),
 A 23 (.mv (.t 22)),
 ⟨some 24, (.mv (.t 6)), (some (23, false)), 0⟩,
 ⟨some 25, (.bin .gtr (.t 24) (.c (.int .u64 9223372036854775807))), (some (23, false)), 0⟩,
 A 26 (.pick (.t 23) (.c (.bool true)) (.t 25))] [])
 (.cond (.t 26) (.region [A 27 (.iface 9 (.c (.str ⟨#[116, 104, 101, 32, 114, 101, 115, 117, 108, 116, 32, 111, 102, 32, 40, 108, 101, 110, 40, 120, 41, 32, 42, 32, 99, 111, 117, 110, 116, 41, 32, 111, 118, 101, 114, 102, 108, 111, 119, 115]⟩))),
 ⟨none, (.panic (.t 27)), none, 0⟩] []) .skip))
 (.seq (.region [A 28 (.mv (.t 6)),
 A 29 (.conv .i64 (.t 28)),
 A 30 (.mksl 3 1 8 [(.int .i64 0)] (.t 29) (.t 29)),
 A 7 (.mv (.t 30))] [])
 (.seq (.region [A 31 (.mv (.t 7)),
 A 32 (.mv (.t 0)),
 A 33 (.cpy 3 1 (.t 31) (.t 32)),
 A 8 (.mv (.t 33))] [])
 (.seq (.block 0 (.loop [7, 8] (.seq (.seq (.region [A 34 (.mv (.t 8)),
 A 35 (.mv (.t 7)),
 A 36 (.len (.t 35)),
 A 37 (.bin .lss (.t 34) (.t 36))] [])
 (.cond (.t 37) .skip (.exit 0)))
 (.block 1 (.region [A 38 (.mv (.t 8)),
 A 39 (.mv (.t 7)),
 A 40 (.mv (.t 8)),
 ⟨some 41, (.winS 1 (.t 39) (some (.t 40)) none), none, 6⟩,
 A 42 (.mv (.t 7)),
 A 43 (.mv (.t 8)),
 ⟨some 44, (.winS 1 (.t 42) none (some (.t 43))), none, 48⟩,
 ⟨some 45, (.cpy 3 1 (.t 41) (.t 44)), none, 126⟩,
 ⟨some 46, (.bin .add (.t 38) (.t 45)), none, 255⟩,
 ⟨some 8, (.mv (.t 46)), none, 511⟩] [(0, 7)])))))
 (.seq (.region [A 47 (.mv (.t 7)),
 A 4 (.mv (.t 47))] [])
 .ret)))))))) }
def a38 : AFunc :=
 { np := 2, nt := 52, mv := false, res := [(.tmp 4)], code :=
 (.seq (.region [A 2 (.box 30 (.t 0)),
 A 4 (.mv (.c .nil))] [])
 (.seq (.region [A 13 (.load 7 true (.t 2)),
 A 14 (.call 29 [(.t 13)]),
 A 5 (.mv (.t 14))] [])
 (.seq (.region [A 15 (.load 7 true (.t 2)),
 A 16 (.call 30 [(.t 15)]),
 A 6 (.mv (.t 16))] [])
 (.seq (.region [A 17 (.mv (.t 1)),
 A 18 (.len (.t 17)),
 A 19 (.mkrows 53 24 (.t 18) (.t 18)),
 A 7 (.mv (.t 19))] [])
 (.seq (.seq (.region [A 20 (.mv (.t 1)),
 A 21 (.len (.t 20)),
 A 22 (.mv (.c (.int .i64 0)))] [])
 (.block 0 (.loop [1, 5, 6, 7, 20, 21, 22] (.seq (.region [A 23 (.bin .lss (.t 22) (.t 21))] [])
 (.seq (.cond (.t 23) .skip (.exit 0))
 (.seq (.block 1 (.seq (.region [A 24 (.mv (.t 22)),
 A 25 (.ixa 1 (.t 20) (.t 22)),
 A 26 (.load 1 false (.t 25)),
 A 8 (.mv (.t 24)),
 A 9 (.mv (.t 26))] [])
 (.seq (.region [A 27 (.mv (.t 6)),
 A 28 (.len (.t 27)),
 A 29 (.mv (.c (.int .i64 0)))] [])
 (.block 2 (.loop [1, 5, 6, 7, 8, 9, 20, 21, 22, 27, 28, 29] (.seq (.region [A 30 (.bin .lss (.t 29) (.t 28))] [])
 (.seq (.cond (.t 30) .skip (.exit 2))
 (.seq (.block 3 (.seq (.region [A 31 (.ixa 1 (.t 27) (.t 29)),
 A 32 (.load 1 false (.t 31)),
 A 11 (.mv (.t 32))] [])
 (.seq (.region [A 33 (.mv (.t 5)),
 A 34 (.mv (.t 9)),
 A 35 (.mv (.t 11)),
 A 36 (.call 32 [(.t 33), (.t 34), (.t 35)]),
 A 12 (.alloc 37 [(.v .nil)]),
 ⟨none, (.store 1 (.t 12) (.t 36)), none, 0⟩] [])
 (.region [A 37 (.mv (.t 7)),
 A 38 (.mv (.t 8)),
 A 39 (.mv (.t 7)),
 A 40 (.mv (.t 8)),
 ⟨some 41, (.ixa 1 (.t 39) (.t 40)), none, 12⟩,
 ⟨some 42, (.load 1 false (.t 41)), none, 28⟩,
 A 43 (.mv (.t 1)),
 A 44 (.mkf 75 [(.t 12)]),
 ⟨some 45, (.call 73 [(.t 43), (.t 44)]), none, 192⟩,
 ⟨some 46, (.litF 3 1 1 [(.int .i64 0)] [(0, (.t 45))]), none, 448⟩,
 ⟨some 47, (.app 3 1 8 (.t 42) (.t 46)), none, 1020⟩,
 ⟨some 48, (.ixa 1 (.t 37) (.t 38)), none, 2047⟩,
 ⟨none, (.store 1 (.t 48) (.t 47)), none, 4095⟩] [(0, 8), (0, 10), (1, 8), (1, 10), (2, 8), (3, 8), (4, 8), (5, 8)]))))
 (.region [A 49 (.bin .add (.t 29) (.c (.int .i64 1))),
 A 29 (.mv (.t 49))] [])))))))))
 (.region [A 50 (.bin .add (.t 22) (.c (.int .i64 1))),
 A 22 (.mv (.t 50))] [])))))))
 (.seq (.region [A 51 (.mv (.t 7)),
 A 4 (.mv (.t 51))] [])
 .ret)))))) }
def a39 : AFunc :=
 { np := 3, nt := 45, mv := false, res := [], code :=
 (.seq (.region [A 9 (.mv (.t 0)),
 A 10 (.chk (.t 9)),
 A 11 (.fld 0 (.t 10)),
 A 12 (.fld 0 (.t 11)),
 A 13 (.load 1 false (.t 12)),
 A 14 (.len (.t 13)),
 A 6 (.mv (.t 14))] [])
 (.seq (.seq (.region [A 15 (.mv (.t 2)),
 A 16 (.mv (.t 6)),
 A 17 (.cutD 1 (.t 15) none (some (.t 16))),
 A 18 (.len (.t 17)),
 A 19 (.mv (.c (.int .i64 0)))] [])
 (.block 0 (.loop [0, 1, 2, 6, 17, 18, 19] (.seq (.region [A 20 (.bin .lss (.t 19) (.t 18))] [])
 (.seq (.cond (.t 20) .skip (.exit 0))
 (.seq (.block 1 (.seq (.region [A 21 (.mv (.t 19)),
 A 22 (.ixa 1 (.t 17) (.t 19)),
 A 23 (.load 1 false (.t 22)),
 A 7 (.mv (.t 21)),
 A 8 (.mv (.t 23))] [])
 (.seq (.region [A 24 (.mv (.t 8)),
 A 25 (.bin .geq (.t 24) (.c (.int .i64 0)))] [])
 (.cond (.t 25) (.region [A 26 (.mv (.t 0)),
 A 27 (.mv (.t 1)),
 A 28 (.mv (.t 7)),
 A 29 (.mv (.t 8)),
 A 30 (.build [(.int .i64 0), (.int .i64 0)] [(0, 1, (.c (.int .i64 1))), (1, 1, (.t 29))]),
 A 31 (.call 76 [(.t 26), (.t 27), (.t 28), (.t 30)])] []) .skip))))
 (.region [A 32 (.bin .add (.t 19) (.c (.int .i64 1))),
 A 19 (.mv (.t 32))] [])))))))
 (.region [A 33 (.mv (.t 0)),
 ⟨some 34, (.chk (.t 33)), none, 1⟩,
 ⟨some 35, (.fld 8 (.t 34)), none, 3⟩,
 ⟨some 36, (.fld 1 (.t 35)), none, 7⟩,
 ⟨some 37, (.load 1 false (.t 36)), none, 15⟩,
 A 38 (.mv (.t 1)),
 ⟨some 39, (.ixa 1 (.t 37) (.t 38)), none, 63⟩,
 ⟨some 40, (.load 1 false (.t 39)), none, 127⟩,
 A 41 (.mv (.t 2)),
 A 42 (.mv (.t 6)),
 ⟨some 43, (.cutD 1 (.t 41) (some (.t 42)) none), none, 768⟩,
 ⟨some 44, (.cpy 3 1 (.t 40) (.t 43)), none, 2047⟩] []))) }
def a40 : AFunc :=
 { np := 2, nt := 62, mv := false, res := [], code :=
 (.seq (.region [A 6 (.mv (.t 0)),
 A 7 (.chk (.t 6)),
 A 8 (.fld 7 (.t 7)),
 A 9 (.load 1 false (.t 8)),
 A 10 (.mv (.t 1)),
 A 11 (.ixa 1 (.t 9) (.t 10)),
 A 12 (.load 1 false (.t 11)),
 A 13 (.len (.t 12)),
 A 14 (.mv (.c (.int .i64 0)))] [])
 (.block 0 (.loop [0, 1, 12, 13, 14, 23, 24, 25, 38, 39, 40, 41, 42, 43, 44, 45, 46, 47, 48, 49, 50, 51] (.seq (.region [A 15 (.bin .lss (.t 14) (.t 13))] [])
 (.seq (.cond (.t 15) .skip (.exit 0))
 (.seq (.block 1 (.seq (.region [A 16 (.ixa 3 (.t 12) (.t 14)),
 A 17 (.load 3 true (.t 16)),
 A 5 (.alloc 72 [(.v (.int .i64 0)), (.v (.int .i64 0)), (.v (.int .i64 0))]),
 ⟨none, (.store 3 (.t 5) (.t 17)), none, 0⟩] [])
 (.block 2 (.seq (.region [A 19 (.fld 0 (.t 5)),
 A 20 (.load 1 false (.t 19)),
 A 21 (.bin .eql (.t 20) (.c (.int .i64 (-1)))),
 A 22 (.mv (.t 21)),
 ⟨some 23, (.fld 1 (.t 5)), (some (22, true)), 0⟩,
 ⟨some 24, (.load 1 false (.t 23)), (some (22, true)), 0⟩,
 ⟨some 25, (.bin .eql (.t 24) (.c (.int .i64 1))), (some (22, true)), 0⟩,
 A 26 (.pick (.t 22) (.t 25) (.c (.bool false))),
 A 18 (.mv (.t 26))] [])
 (.cond (.t 18) (.region [A 27 (.mv (.t 0)),
 A 28 (.mv (.t 1)),
 A 29 (.fld 2 (.t 5)),
 A 30 (.load 1 false (.t 29)),
 A 31 (.build [(.int .i64 0), (.int .i64 0)] [(0, 1, (.c (.int .i64 3)))]),
 A 32 (.call 76 [(.t 27), (.t 28), (.t 30), (.t 31)])] []) (.seq (.region [A 34 (.fld 0 (.t 5)),
 ⟨some 35, (.load 1 false (.t 34)), none, 1⟩,
 ⟨some 36, (.bin .geq (.t 35) (.c (.int .i64 0))), none, 3⟩,
 ⟨some 37, (.mv (.t 36)), none, 7⟩,
 ⟨some 38, (.fld 1 (.t 5)), (some (37, true)), 15⟩,
 ⟨some 39, (.load 1 false (.t 38)), (some (37, true)), 31⟩,
 ⟨some 40, (.mv (.t 0)), (some (37, true)), 15⟩,
 ⟨some 41, (.chk (.t 40)), (some (37, true)), 79⟩,
 ⟨some 42, (.fld 0 (.t 41)), (some (37, true)), 207⟩,
 ⟨some 43, (.fld 3 (.t 42)), (some (37, true)), 463⟩,
 ⟨some 44, (.load 1 false (.t 43)), (some (37, true)), 975⟩,
 ⟨some 45, (.fld 0 (.t 5)), (some (37, true)), 15⟩,
 ⟨some 46, (.load 1 false (.t 45)), (some (37, true)), 2063⟩,
 ⟨some 47, (.ixa 3 (.t 44) (.t 46)), (some (37, true)), 8143⟩,
 ⟨some 48, (.fld 1 (.t 47)), (some (37, true)), 16335⟩,
 ⟨some 49, (.load 1 false (.t 48)), (some (37, true)), 32719⟩,
 ⟨some 50, (.len (.t 49)), (some (37, true)), 65487⟩,
 ⟨some 51, (.bin .eql (.t 39) (.t 50)), (some (37, true)), 131071⟩,
 ⟨some 52, (.pick (.t 37) (.t 51) (.c (.bool false))), none, 262143⟩,
 ⟨some 33, (.mv (.t 52)), none, 524287⟩] [])
 (.cond (.t 33) (.region [A 53 (.mv (.t 0)),
 A 54 (.mv (.t 1)),
 A 55 (.fld 2 (.t 5)),
 A 56 (.load 1 false (.t 55)),
 A 57 (.fld 0 (.t 5)),
 A 58 (.load 1 false (.t 57)),
 A 59 (.build [(.int .i64 0), (.int .i64 0)] [(0, 1, (.c (.int .i64 2))), (1, 1, (.t 58))]),
 A 60 (.call 76 [(.t 53), (.t 54), (.t 56), (.t 59)])] []) .skip)))))))
 (.region [A 61 (.bin .add (.t 14) (.c (.int .i64 1))),
 A 14 (.mv (.t 61))] []))))))) }
def a41 : AFunc :=
 { np := 3, nt := 66, mv := false, res := [(.tmp 6)], code :=
 (.seq (.region [A 3 (.box 30 (.t 0)),
 A 6 (.mv (.c .nil))] [])
 (.seq (.region [A 7 (.mv (.c .nil))] [])
 (.seq (.seq (.region [A 8 (.mv (.c (.int .i64 0)))] [])
 (.block 0 (.loop [1, 2, 3, 7, 8, 32, 33, 34, 35, 36, 37, 38, 39, 40, 41] (.seq (.seq (.region [A 10 (.mv (.t 8)),
 A 11 (.mv (.t 1)),
 A 12 (.len (.t 11)),
 A 13 (.bin .lss (.t 10) (.t 12))] [])
 (.cond (.t 13) .skip (.exit 0)))
 (.seq (.block 1 (.seq (.region [A 16 (.load 7 true (.t 3)),
 A 17 (.mv (.t 1)),
 A 18 (.mv (.t 8)),
 ⟨some 19, (.ixa 3 (.t 17) (.t 18)), none, 6⟩,
 ⟨some 20, (.fld 0 (.t 19)), none, 14⟩,
 ⟨some 21, (.load 1 false (.t 20)), none, 30⟩,
 ⟨some 22, (.call 43 [(.t 16), (.t 21)]), none, 63⟩,
 ⟨some 9, (.mv (.t 22)), none, 127⟩] [])
 (.seq (.region [A 23 (.mv (.t 1)),
 A 24 (.mv (.t 8)),
 A 25 (.ixa 3 (.t 23) (.t 24)),
 A 26 (.fld 1 (.t 25)),
 A 27 (.load 1 false (.t 26)),
 A 28 (.mv (.t 9)),
 A 29 (.len (.t 28)),
 A 30 (.bin .lss (.t 27) (.t 29)),
 A 31 (.mv (.t 30)),
 ⟨some 32, (.mv (.t 9)), (some (31, true)), 0⟩,
 ⟨some 33, (.mv (.t 1)), (some (31, true)), 0⟩,
 ⟨some 34, (.mv (.t 8)), (some (31, true)), 0⟩,
 ⟨some 35, (.ixa 3 (.t 33) (.t 34)), (some (31, true)), 0⟩,
 ⟨some 36, (.fld 1 (.t 35)), (some (31, true)), 0⟩,
 ⟨some 37, (.load 1 false (.t 36)), (some (31, true)), 0⟩,
 ⟨some 38, (.ixa 1 (.t 32) (.t 37)), (some (31, true)), 0⟩,
 ⟨some 39, (.load 1 false (.t 38)), (some (31, true)), 0⟩,
 ⟨some 40, (.mv (.t 2)), (some (31, true)), 0⟩,
 ⟨some 41, (.bin .eql (.t 39) (.t 40)), (some (31, true)), 0⟩,
 A 42 (.pick (.t 31) (.t 41) (.c (.bool false)))] [])
 (.cond (.t 42) (.region [A 43 (.mv (.t 7)),
 A 44 (.mv (.t 1)),
 A 45 (.mv (.t 8)),
 ⟨some 46, (.ixa 3 (.t 44) (.t 45)), none, 6⟩,
 ⟨some 47, (.fld 0 (.t 46)), none, 14⟩,
 ⟨some 48, (.load 1 false (.t 47)), none, 30⟩,
 A 49 (.mv (.t 1)),
 A 50 (.mv (.t 8)),
 ⟨some 51, (.ixa 3 (.t 49) (.t 50)), none, 192⟩,
 ⟨some 52, (.fld 1 (.t 51)), none, 448⟩,
 ⟨some 53, (.load 1 false (.t 52)), none, 960⟩,
 ⟨some 54, (.bin .add (.t 53) (.c (.int .i64 1))), none, 1984⟩,
 A 55 (.mv (.t 1)),
 A 56 (.mv (.t 8)),
 ⟨some 57, (.ixa 3 (.t 55) (.t 56)), none, 12288⟩,
 ⟨some 58, (.fld 2 (.t 57)), none, 28672⟩,
 ⟨some 59, (.load 1 false (.t 58)), none, 61440⟩,
 ⟨some 60, (.build [(.int .i64 0), (.int .i64 0), (.int .i64 0)] [(0, 1, (.t 48)), (1, 1, (.t 54)), (2, 1, (.t 59))]), none, 131070⟩,
 ⟨some 61, (.litF 72 3 1 [(.int .i64 0), (.int .i64 0), (.int .i64 0)] [(0, (.t 60))]), none, 262142⟩,
 ⟨some 62, (.app 72 3 24 (.t 43) (.t 61)), none, 524287⟩,
 ⟨some 7, (.mv (.t 62)), none, 1048575⟩] []) .skip))))
 (.region [A 14 (.mv (.t 8)),
 A 15 (.bin .add (.t 14) (.c (.int .i64 1))),
 A 8 (.mv (.t 15))] []))))))
 (.seq (.region [A 63 (.load 7 true (.t 3)),
 A 64 (.mv (.t 7)),
 A 65 (.call 48 [(.t 63), (.t 64)]),
 A 6 (.mv (.t 65))] [])
 .ret)))) }
def a42 : AFunc :=
 { np := 2, nt := 19, mv := false, res := [(.tmp 4)], code :=
 (.seq (.region [A 4 (.mv (.c (.int .i64 0)))] [])
 (.seq (.seq (.region [A 5 (.mv (.c (.int .i64 0)))] [])
 (.block 0 (.loop [0, 1, 5] (.seq (.seq (.region [A 6 (.mv (.t 5)),
 A 7 (.mv (.t 0)),
 A 8 (.len (.t 7)),
 A 9 (.bin .lss (.t 6) (.t 8))] [])
 (.cond (.t 9) .skip (.exit 0)))
 (.seq (.block 1 (.seq (.region [A 12 (.mv (.t 0)),
 A 13 (.mv (.t 5)),
 A 14 (.ixa 1 (.t 12) (.t 13)),
 A 15 (.load 1 false (.t 14)),
 A 16 (.mv (.t 1)),
 A 17 (.call 16 [(.t 15), (.t 16)])] [])
 (.cond (.t 17) (.seq (.region [A 18 (.mv (.t 5)),
 A 4 (.mv (.t 18))] [])
 .ret) .skip)))
 (.region [A 10 (.mv (.t 5)),
 A 11 (.bin .add (.t 10) (.c (.int .i64 1))),
 A 5 (.mv (.t 11))] []))))))
 (.seq (.region [A 4 (.mv (.c (.int .i64 (-1))))] [])
 .ret))) }
def a43 : AFunc :=
 { np := 2, nt := 14, mv := false, res := [(.tmp 4)], code :=
 (.seq (.region [A 2 (.box 30 (.t 0)),
 A 4 (.mv (.c .nil))] [])
 (.seq (.seq (.region [A 5 (.mv (.t 1)),
 A 6 (.bin .eql (.t 5) (.c (.int .i64 (-1))))] [])
 (.cond (.t 6) (.seq (.region [A 7 (.lit 3 1 1 [(.int .i64 0)] [(0, (.c (.int .i64 0)))]),
 A 4 (.mv (.t 7))] [])
 .ret) .skip))
 (.seq (.region [A 8 (.fld 3 (.t 2)),
 A 9 (.load 1 false (.t 8)),
 A 10 (.mv (.t 1)),
 A 11 (.ixa 3 (.t 9) (.t 10)),
 A 12 (.fld 1 (.t 11)),
 A 13 (.load 1 false (.t 12)),
 A 4 (.mv (.t 13))] [])
 .ret))) }
def a45 : AFunc :=
 { np := 1, nt := 49, mv := false, res := [(.cell 2 7 true), (.tmp 3), (.tmp 4)], code :=
 (.seq (.region [A 2 (.alloc 30 [(.v .nil), (.v .nil), (.v .nil), (.v .nil), (.v .nil), (.v .nil), (.v (.int .i64 0))]),
 A 3 (.mv (.c (.int .i64 0))),
 A 4 (.mv (.c (.int .i64 0)))] [])
 (.seq (.region [A 11 (.mv (.t 0)),
 A 12 (.call 77 [(.t 11)]),
 A 10 (.mv (.t 12)),
 A 13 (.ext (.t 10) 0),
 A 14 (.ext (.t 10) 1),
 A 15 (.ext (.t 10) 2),
 A 5 (.alloc 30 [(.v .nil), (.v .nil), (.v .nil), (.v .nil), (.v .nil), (.v .nil), (.v (.int .i64 0))]),
 ⟨none, (.store 7 (.t 5) (.t 13)), none, 0⟩,
 A 6 (.mv (.t 14)),
 A 7 (.mv (.t 15))] [])
 (.seq (.seq (.region [A 16 (.mv (.t 7)),
 A 17 (.bin .neq (.t 16) (.c (.int .i64 0)))] [])
 (.cond (.t 17) (.seq (.region [A 18 (.build [.nil, .nil, .nil, .nil, .nil, .nil, (.int .i64 0)] []),
 A 19 (.mv (.t 6)),
 A 20 (.mv (.t 7)),
 ⟨none, (.store 7 (.t 2) (.t 18)), none, 0⟩,
 A 3 (.mv (.t 19)),
 A 4 (.mv (.t 20))] [])
 .ret) .skip))
 (.seq (.region [A 22 (.fld 0 (.t 5)),
 A 23 (.load 1 false (.t 22)),
 A 24 (.call 78 [(.t 23)]),
 A 21 (.mv (.t 24)),
 A 25 (.ext (.t 21) 0),
 A 26 (.ext (.t 21) 1),
 A 7 (.mv (.t 26))] [])
 (.seq (.seq (.region [A 27 (.mv (.t 7)),
 A 28 (.bin .neq (.t 27) (.c (.int .i64 0)))] [])
 (.cond (.t 28) (.seq (.region [A 29 (.build [.nil, .nil, .nil, .nil, .nil, .nil, (.int .i64 0)] []),
 A 30 (.mv (.t 7)),
 ⟨none, (.store 7 (.t 2) (.t 29)), none, 0⟩,
 A 3 (.mv (.c (.int .i64 0))),
 A 4 (.mv (.t 30))] [])
 .ret) .skip))
 (.seq (.region [A 32 (.load 7 true (.t 5)),
 A 33 (.call 19 [(.t 32)]),
 A 31 (.mv (.t 33)),
 A 34 (.ext (.t 31) 0),
 A 35 (.ext (.t 31) 1),
 A 7 (.mv (.t 35))] [])
 (.seq (.seq (.region [A 36 (.mv (.t 7)),
 A 37 (.bin .neq (.t 36) (.c (.int .i64 0)))] [])
 (.cond (.t 37) (.seq (.region [A 38 (.build [.nil, .nil, .nil, .nil, .nil, .nil, (.int .i64 0)] []),
 A 39 (.mv (.t 7)),
 ⟨none, (.store 7 (.t 2) (.t 38)), none, 0⟩,
 A 3 (.mv (.c (.int .i64 0))),
 A 4 (.mv (.t 39))] [])
 .ret) .skip))
 (.seq (.region [A 41 (.load 7 true (.t 5)),
 A 42 (.call 79 [(.t 41)]),
 A 40 (.mv (.t 42)),
 A 43 (.ext (.t 40) 0),
 A 44 (.ext (.t 40) 1),
 A 8 (.mv (.t 43)),
 A 9 (.mv (.t 44))] [])
 (.seq (.seq (.region [A 45 (.mv (.t 8)),
 A 46 (.bin .gtr (.t 45) (.c (.int .i64 0)))] [])
 (.cond (.t 46) (.seq (.region [A 47 (.build [.nil, .nil, .nil, .nil, .nil, .nil, (.int .i64 0)] []),
 ⟨none, (.store 7 (.t 2) (.t 47)), none, 0⟩,
 A 3 (.mv (.c (.int .i64 0))),
 A 4 (.mv (.c (.int .i64 8)))] [])
 .ret) .skip))
 (.seq (.region [A 48 (.load 7 true (.t 5)),
 ⟨none, (.store 7 (.t 2) (.t 48)), none, 0⟩,
 A 3 (.mv (.c (.int .i64 0))),
 A 4 (.mv (.c (.int .i64 0)))] [])
 .ret)))))))))) }
def a46 : AFunc :=
 { np := 1, nt := 13, mv := false, res := [(.tmp 2)], code :=
 (.seq (.region [A 2 (.mv (.c (.str ⟨#[]⟩)))] [])
 (.seq (.region [A 4 (.call 80 []),
 A 3 (.mv (.t 4))] [])
 (.seq (.region [A 5 (.mv (.t 3)),
 A 6 (.mv (.t 0)),
 A 7 (.conv .i64 (.t 6)),
 A 8 (.mv (.t 3)),
 A 9 (.len (.t 8)),
 A 10 (.bin .rem (.t 7) (.t 9)),
 A 11 (.ixa 1 (.t 5) (.t 10)),
 A 12 (.load 1 false (.t 11)),
 A 2 (.mv (.t 12))] [])
 .ret))) }
def a48 : AFunc :=
 { np := 2, nt := 125, mv := false, res := [(.tmp 4)], code :=
 (.seq (.region [A 2 (.box 30 (.t 0)),
 A 4 (.mv (.c .nil))] [])
 (.seq (.region [A 5 (.mv (.c .nil))] [])
 (.seq (.seq (.region [A 6 (.mv (.c (.int .i64 0)))] [])
 (.block 0 (.loop [1, 2, 5, 6, 54, 55, 56, 57, 58, 59, 60, 61, 62, 91, 92, 93, 94, 95, 96, 97, 98, 99, 100, 101, 102, 103, 104, 105, 122] (.seq (.seq (.region [A 15 (.mv (.t 6)),
 A 16 (.mv (.t 1)),
 A 17 (.len (.t 16)),
 A 18 (.bin .lss (.t 15) (.t 17))] [])
 (.cond (.t 18) .skip (.exit 0)))
 (.seq (.block 1 (.region [A 22 (.mv (.t 5)),
 A 23 (.mv (.t 1)),
 A 24 (.mv (.t 6)),
 A 25 (.ixa 3 (.t 23) (.t 24)),
 A 26 (.load 3 true (.t 25)),
 A 27 (.call 82 [(.t 22), (.t 26)]),
 A 21 (.mv (.t 27)),
 A 28 (.ext (.t 21) 0),
 A 29 (.ext (.t 21) 1),
 A 5 (.mv (.t 28))] []))
 (.region [A 19 (.mv (.t 6)),
 A 20 (.bin .add (.t 19) (.c (.int .i64 1))),
 A 6 (.mv (.t 20))] []))))))
 (.seq (.seq (.region [A 7 (.mv (.c (.bool true)))] [])
 (.block 2 (.loop [2, 5, 7, 54, 55, 56, 57, 58, 59, 60, 61, 62, 91, 92, 93, 94, 95, 96, 97, 98, 99, 100, 101, 102, 103, 104, 105, 122] (.seq (.seq (.region [A 30 (.mv (.t 7))] [])
 (.cond (.t 30) .skip (.exit 2)))
 (.block 3 (.seq (.region [A 7 (.mv (.c (.bool false)))] [])
 (.seq (.region [A 31 (.mv (.t 5)),
 A 8 (.mv (.t 31))] [])
 (.seq (.region [A 9 (.mv (.c (.int .i64 0)))] [])
 (.block 4 (.loop [2, 5, 7, 8, 9, 54, 55, 56, 57, 58, 59, 60, 61, 62, 91, 92, 93, 94, 95, 96, 97, 98, 99, 100, 101, 102, 103, 104, 105, 122] (.seq (.seq (.region [A 32 (.mv (.t 9)),
 A 33 (.mv (.t 8)),
 A 34 (.len (.t 33)),
 A 35 (.bin .lss (.t 32) (.t 34))] [])
 (.cond (.t 35) .skip (.exit 4)))
 (.seq (.block 5 (.seq (.region [A 38 (.load 7 true (.t 2)),
 A 39 (.mv (.t 8)),
 A 40 (.mv (.t 9)),
 ⟨some 41, (.ixa 3 (.t 39) (.t 40)), none, 6⟩,
 ⟨some 42, (.fld 0 (.t 41)), none, 14⟩,
 ⟨some 43, (.load 1 false (.t 42)), none, 30⟩,
 ⟨some 44, (.call 43 [(.t 38), (.t 43)]), none, 63⟩,
 ⟨some 10, (.mv (.t 44)), none, 127⟩] [])
 (.seq (.seq (.region [A 45 (.mv (.t 8)),
 A 46 (.mv (.t 9)),
 A 47 (.ixa 3 (.t 45) (.t 46)),
 A 48 (.fld 1 (.t 47)),
 A 49 (.load 1 false (.t 48)),
 A 50 (.mv (.t 10)),
 A 51 (.len (.t 50)),
 A 52 (.bin .geq (.t 49) (.t 51)),
 A 53 (.mv (.t 52)),
 ⟨some 54, (.mv (.t 10)), (some (53, false)), 0⟩,
 ⟨some 55, (.mv (.t 8)), (some (53, false)), 0⟩,
 ⟨some 56, (.mv (.t 9)), (some (53, false)), 0⟩,
 ⟨some 57, (.ixa 3 (.t 55) (.t 56)), (some (53, false)), 0⟩,
 ⟨some 58, (.fld 1 (.t 57)), (some (53, false)), 0⟩,
 ⟨some 59, (.load 1 false (.t 58)), (some (53, false)), 0⟩,
 ⟨some 60, (.ixa 1 (.t 54) (.t 59)), (some (53, false)), 0⟩,
 ⟨some 61, (.load 1 false (.t 60)), (some (53, false)), 0⟩,
 ⟨some 62, (.bin .lss (.t 61) (.c (.int .i64 0))), (some (53, false)), 0⟩,
 A 63 (.pick (.t 53) (.c (.bool true)) (.t 62))] [])
 (.cond (.t 63) (.exit 5) .skip))
 (.seq (.region [A 64 (.load 7 true (.t 2)),
 A 65 (.mv (.t 10)),
 A 66 (.mv (.t 8)),
 A 67 (.mv (.t 9)),
 ⟨some 68, (.ixa 3 (.t 66) (.t 67)), none, 12⟩,
 ⟨some 69, (.fld 1 (.t 68)), none, 28⟩,
 ⟨some 70, (.load 1 false (.t 69)), none, 60⟩,
 ⟨some 71, (.bin .add (.t 70) (.c (.int .i64 1))), none, 124⟩,
 ⟨some 72, (.cut 1 (.t 65) (some (.t 71)) none), none, 254⟩,
 A 73 (.mv (.t 8)),
 A 74 (.mv (.t 9)),
 ⟨some 75, (.ixa 3 (.t 73) (.t 74)), none, 1536⟩,
 ⟨some 76, (.fld 2 (.t 75)), none, 3584⟩,
 ⟨some 77, (.load 1 false (.t 76)), none, 7680⟩,
 ⟨some 78, (.call 83 [(.t 64), (.t 72), (.t 77)]), none, 16383⟩,
 ⟨some 11, (.mv (.t 78)), none, 32767⟩] [(0, 8), (9, 8), (10, 8), (11, 8), (12, 8), (13, 8)])
 (.seq (.region [A 12 (.mv (.c (.int .i64 0)))] [])
 (.block 6 (.loop [2, 5, 7, 8, 9, 10, 11, 12, 54, 55, 56, 57, 58, 59, 60, 61, 62, 91, 92, 93, 94, 95, 96, 97, 98, 99, 100, 101, 102, 103, 104, 105, 122] (.seq (.seq (.region [A 79 (.mv (.t 12)),
 A 80 (.fld 3 (.t 2)),
 A 81 (.load 1 false (.t 80)),
 A 82 (.len (.t 81)),
 A 83 (.bin .lss (.t 79) (.t 82))] [])
 (.cond (.t 83) .skip (.exit 6)))
 (.seq (.block 7 (.seq (.region [A 13 (.mv (.c (.int .i64 0)))] [])
 (.block 8 (.loop [2, 5, 7, 8, 9, 10, 11, 12, 13, 54, 55, 56, 57, 58, 59, 60, 61, 62, 91, 92, 93, 94, 95, 96, 97, 98, 99, 100, 101, 102, 103, 104, 105, 122] (.seq (.seq (.region [A 86 (.mv (.t 13)),
 A 87 (.mv (.t 11)),
 ⟨some 88, (.len (.t 87)), none, 2⟩,
 ⟨some 89, (.bin .lss (.t 86) (.t 88)), none, 7⟩,
 ⟨some 90, (.mv (.t 89)), none, 15⟩,
 ⟨some 91, (.fld 3 (.t 2)), (some (90, true)), 31⟩,
 ⟨some 92, (.load 1 false (.t 91)), (some (90, true)), 63⟩,
 ⟨some 93, (.mv (.t 12)), (some (90, true)), 31⟩,
 ⟨some 94, (.ixa 3 (.t 92) (.t 93)), (some (90, true)), 255⟩,
 ⟨some 95, (.fld 0 (.t 94)), (some (90, true)), 511⟩,
 ⟨some 96, (.load 1 false (.t 95)), (some (90, true)), 1023⟩,
 ⟨some 97, (.mv (.t 10)), (some (90, true)), 31⟩,
 ⟨some 98, (.mv (.t 8)), (some (90, true)), 31⟩,
 ⟨some 99, (.mv (.t 9)), (some (90, true)), 31⟩,
 ⟨some 100, (.ixa 3 (.t 98) (.t 99)), (some (90, true)), 12319⟩,
 ⟨some 101, (.fld 1 (.t 100)), (some (90, true)), 28703⟩,
 ⟨some 102, (.load 1 false (.t 101)), (some (90, true)), 61471⟩,
 ⟨some 103, (.ixa 1 (.t 97) (.t 102)), (some (90, true)), 129055⟩,
 ⟨some 104, (.load 1 false (.t 103)), (some (90, true)), 260127⟩,
 ⟨some 105, (.bin .eql (.t 96) (.t 104)), (some (90, true)), 524287⟩,
 ⟨some 106, (.pick (.t 90) (.t 105) (.c (.bool false))), none, 1048575⟩] [])
 (.cond (.t 106) .skip (.exit 8)))
 (.seq (.block 9 (.seq (.region [A 14 (.mv (.c (.bool false)))] [])
 (.seq (.region [A 110 (.mv (.t 5)),
 A 111 (.mv (.t 12)),
 A 112 (.mv (.t 11)),
 A 113 (.mv (.t 13)),
 A 114 (.ixa 1 (.t 112) (.t 113)),
 A 115 (.load 1 false (.t 114)),
 A 116 (.build [(.int .i64 0), (.int .i64 0), (.int .i64 0)] [(0, 1, (.t 111)), (2, 1, (.t 115))]),
 A 117 (.call 82 [(.t 110), (.t 116)]),
 A 109 (.mv (.t 117)),
 A 118 (.ext (.t 109) 0),
 A 119 (.ext (.t 109) 1),
 A 5 (.mv (.t 118)),
 A 14 (.mv (.t 119))] [])
 (.region [A 120 (.mv (.t 7)),
 A 121 (.mv (.t 120)),
 ⟨some 122, (.mv (.t 14)), (some (121, false)), 0⟩,
 A 123 (.pick (.t 121) (.c (.bool true)) (.t 122)),
 A 7 (.mv (.t 123))] []))))
 (.region [A 107 (.mv (.t 13)),
 A 108 (.bin .add (.t 107) (.c (.int .i64 1))),
 A 13 (.mv (.t 108))] [])))))))
 (.region [A 84 (.mv (.t 12)),
 A 85 (.bin .add (.t 84) (.c (.int .i64 1))),
 A 12 (.mv (.t 85))] []))))))))))
 (.region [A 36 (.mv (.t 9)),
 A 37 (.bin .add (.t 36) (.c (.int .i64 1))),
 A 9 (.mv (.t 37))] [])))))))))))))
 (.seq (.region [A 124 (.mv (.t 5)),
 A 4 (.mv (.t 124))] [])
 .ret))))) }
def a49 : AFunc :=
 { np := 2, nt := 17, mv := false, res := [(.tmp 4)], code :=
 (.seq (.region [A 2 (.box 30 (.t 0)),
 A 4 (.mv (.c (.int .i64 0)))] [])
 (.seq (.seq (.region [A 5 (.mv (.t 1)),
 A 6 (.fld 0 (.t 2)),
 A 7 (.load 1 false (.t 6)),
 A 8 (.len (.t 7)),
 A 9 (.bin .lss (.t 5) (.t 8))] [])
 (.cond (.t 9) (.seq (.region [A 10 (.mv (.t 1)),
 A 11 (.bin .sub (.c (.int .i64 (-1))) (.t 10)),
 A 4 (.mv (.t 11))] [])
 .ret) .skip))
 (.seq (.region [A 12 (.mv (.t 1)),
 A 13 (.fld 0 (.t 2)),
 A 14 (.load 1 false (.t 13)),
 A 15 (.len (.t 14)),
 A 16 (.bin .sub (.t 12) (.t 15)),
 A 4 (.mv (.t 16))] [])
 .ret))) }
def a52 : AFunc :=
 { np := 1, nt := 5, mv := false, res := [(.tmp 2)], code :=
 (.seq (.region [A 1 (.box 63 (.t 0)),
 A 2 (.mv (.c (.bool false)))] [])
 (.seq (.region [A 3 (.load 6 true (.t 1)),
 A 4 (.call 84 [(.t 3), (.c .nil)]),
 A 2 (.mv (.t 4))] [])
 .ret)) }
def a54 : AFunc :=
 { np := 2, nt := 40, mv := false, res := [(.tmp 4)], code :=
 (.seq (.region [A 2 (.box 30 (.t 0)),
 A 4 (.mv (.c (.bool false)))] [])
 (.seq (.region [A 8 (.fld 0 (.t 2)),
 A 9 (.load 1 false (.t 8)),
 A 10 (.mv (.t 1)),
 A 11 (.ixa 8 (.t 9) (.t 10)),
 A 12 (.load 8 true (.t 11)),
 A 5 (.alloc 65 [(.v (.str ⟨#[]⟩)), (.v (.int .i64 0)), (.v (.int .u64 0)), (.v (.int .u64 0)), (.v (.int .u64 0)), (.v (.int .u64 0)), (.v .nil), (.v (.bool false))]),
 ⟨none, (.store 8 (.t 5) (.t 12)), none, 0⟩] [])
 (.seq (.region [A 14 (.fld 1 (.t 5)),
 A 15 (.load 6 true (.t 14)),
 A 16 (.call 87 [(.t 15)]),
 A 13 (.mv (.t 16)),
 A 17 (.ext (.t 13) 0),
 A 18 (.ext (.t 13) 1),
 A 6 (.alloc 159 [(.v .nil), (.v .nil), (.v .nil), (.v .nil), (.v (.bool false))]),
 ⟨none, (.store 5 (.t 6) (.t 17)), none, 0⟩,
 A 7 (.mv (.t 18))] [])
 (.seq (.region [A 19 (.fld 0 (.t 5)),
 A 20 (.load 1 false (.t 19)),
 A 21 (.call 55 [(.t 20)]),
 A 22 (.mv (.t 21)),
 ⟨some 23, (.load 7 true (.t 2)), (some (22, true)), 0⟩,
 ⟨some 24, (.fld 0 (.t 5)), (some (22, true)), 0⟩,
 ⟨some 25, (.load 1 false (.t 24)), (some (22, true)), 0⟩,
 ⟨some 26, (.call 56 [(.t 23), (.t 25)]), (some (22, true)), 0⟩,
 ⟨some 27, (.mv (.t 1)), (some (22, true)), 0⟩,
 ⟨some 28, (.bin .eql (.t 26) (.t 27)), (some (22, true)), 0⟩,
 A 29 (.pick (.t 22) (.t 28) (.c (.bool false))),
 A 30 (.mv (.t 29)),
 ⟨some 31, (.mv (.t 7)), (some (30, true)), 0⟩,
 ⟨some 32, (.bin .eql (.t 31) (.c (.int .i64 0))), (some (30, true)), 0⟩,
 A 33 (.pick (.t 30) (.t 32) (.c (.bool false))),
 A 34 (.mv (.t 33)),
 ⟨some 35, (.fld 1 (.t 5)), (some (34, true)), 0⟩,
 ⟨some 36, (.load 6 true (.t 35)), (some (34, true)), 0⟩,
 ⟨some 37, (.call 52 [(.t 36)]), (some (34, true)), 0⟩,
 ⟨some 38, (.un .not (.t 37)), (some (34, true)), 0⟩,
 A 39 (.pick (.t 34) (.t 38) (.c (.bool false))),
 A 4 (.mv (.t 39))] [])
 .ret)))) }
def a55 : AFunc :=
 { np := 1, nt := 45, mv := false, res := [(.tmp 2)], code :=
 (.seq (.region [A 2 (.mv (.c (.bool false)))] [])
 (.seq (.seq (.region [A 5 (.mv (.t 0)),
 A 6 (.lenS (.t 5)),
 A 7 (.bin .lss (.t 6) (.c (.int .i64 1))),
 A 8 (.mv (.t 7)),
 ⟨some 9, (.mv (.t 0)), (some (8, false)), 0⟩,
 ⟨some 10, (.lenS (.t 9)), (some (8, false)), 0⟩,
 ⟨some 11, (.bin .gtr (.t 10) (.c (.int .i64 12))), (some (8, false)), 0⟩,
 A 12 (.pick (.t 8) (.c (.bool true)) (.t 11))] [])
 (.cond (.t 12) (.seq (.region [A 2 (.mv (.c (.bool false)))] [])
 .ret) .skip))
 (.seq (.seq (.region [A 3 (.mv (.c (.int .i64 0)))] [])
 (.block 0 (.loop [0, 3, 25, 26, 29, 30, 31, 32, 33, 34, 35, 36, 37, 38, 39, 40, 41, 42] (.seq (.seq (.region [A 13 (.mv (.t 3)),
 A 14 (.mv (.t 0)),
 A 15 (.lenS (.t 14)),
 A 16 (.bin .lss (.t 13) (.t 15))] [])
 (.cond (.t 16) .skip (.exit 0)))
 (.seq (.block 1 (.seq (.region [A 19 (.mv (.t 0)),
 A 20 (.mv (.t 3)),
 A 21 (.ixs (.t 19) (.t 20)),
 A 4 (.mv (.t 21))] [])
 (.seq (.region [A 22 (.mv (.t 4)),
 A 23 (.bin .geq (.t 22) (.c (.int .u8 97))),
 A 24 (.mv (.t 23)),
 ⟨some 25, (.mv (.t 4)), (some (24, true)), 0⟩,
 ⟨some 26, (.bin .leq (.t 25) (.c (.int .u8 122))), (some (24, true)), 0⟩,
 A 27 (.pick (.t 24) (.t 26) (.c (.bool false))),
 A 28 (.mv (.t 27)),
 ⟨some 29, (.mv (.t 3)), (some (28, false)), 0⟩,
 ⟨some 30, (.bin .gtr (.t 29) (.c (.int .i64 0))), (some (28, false)), 0⟩,
 ⟨some 31, (.mv (.t 30)), (some (28, false)), 0⟩,
 ⟨some 32, (.mv (.t 4)), (some (31, true)), 0⟩,
 ⟨some 33, (.bin .geq (.t 32) (.c (.int .u8 48))), (some (31, true)), 0⟩,
 ⟨some 34, (.mv (.t 33)), (some (31, true)), 0⟩,
 ⟨some 35, (.mv (.t 4)), (some (34, true)), 0⟩,
 ⟨some 36, (.bin .leq (.t 35) (.c (.int .u8 57))), (some (34, true)), 0⟩,
 ⟨some 37, (.pick (.t 34) (.t 36) (.c (.bool false))), (some (31, true)), 0⟩,
 ⟨some 38, (.mv (.t 37)), (some (31, true)), 0⟩,
 ⟨some 39, (.mv (.t 4)), (some (38, false)), 0⟩,
 ⟨some 40, (.bin .eql (.t 39) (.c (.int .u8 95))), (some (38, false)), 0⟩,
 ⟨some 41, (.pick (.t 38) (.c (.bool true)) (.t 40)), (some (31, true)), 0⟩,
 ⟨some 42, (.pick (.t 31) (.t 41) (.c (.bool false))), (some (28, false)), 0⟩,
 A 43 (.pick (.t 28) (.c (.bool true)) (.t 42)),
 A 44 (.un .not (.t 43))] [])
 (.cond (.t 44) (.seq (.region [A 2 (.mv (.c (.bool false)))] [])
 .ret) .skip))))
 (.region [A 17 (.mv (.t 3)),
 A 18 (.bin .add (.t 17) (.c (.int .i64 1))),
 A 3 (.mv (.t 18))] []))))))
 (.seq (.region [A 2 (.mv (.c (.bool true)))] [])
 .ret)))) }
def a56 : AFunc :=
 { np := 2, nt := 22, mv := false, res := [(.tmp 4)], code :=
 (.seq (.region [A 2 (.box 30 (.t 0)),
 A 4 (.mv (.c (.int .i64 0)))] [])
 (.seq (.seq (.region [A 5 (.mv (.c (.int .i64 0)))] [])
 (.block 0 (.loop [1, 2, 5] (.seq (.seq (.region [A 6 (.mv (.t 5)),
 A 7 (.fld 0 (.t 2)),
 A 8 (.load 1 false (.t 7)),
 A 9 (.len (.t 8)),
 A 10 (.bin .lss (.t 6) (.t 9))] [])
 (.cond (.t 10) .skip (.exit 0)))
 (.seq (.block 1 (.seq (.region [A 13 (.fld 0 (.t 2)),
 A 14 (.load 1 false (.t 13)),
 A 15 (.mv (.t 5)),
 A 16 (.ixa 8 (.t 14) (.t 15)),
 A 17 (.fld 0 (.t 16)),
 A 18 (.load 1 false (.t 17)),
 A 19 (.mv (.t 1)),
 A 20 (.bin .eql (.t 18) (.t 19))] [])
 (.cond (.t 20) (.seq (.region [A 21 (.mv (.t 5)),
 A 4 (.mv (.t 21))] [])
 .ret) .skip)))
 (.region [A 11 (.mv (.t 5)),
 A 12 (.bin .add (.t 11) (.c (.int .i64 1))),
 A 5 (.mv (.t 12))] []))))))
 (.seq (.region [A 4 (.mv (.c (.int .i64 (-1))))] [])
 .ret))) }
def a57 : AFunc :=
 { np := 2, nt := 9, mv := false, res := [(.tmp 4)], code :=
 (.seq (.region [A 2 (.box 30 (.t 0)),
 A 4 (.mv (.c (.int .i64 0)))] [])
 (.seq (.region [A 5 (.fld 1 (.t 2)),
 A 6 (.load 1 false (.t 5)),
 A 7 (.mv (.t 1)),
 A 8 (.call 88 [(.t 6), (.t 7)]),
 A 4 (.mv (.t 8))] [])
 .ret)) }
def a58 : AFunc :=
 { np := 1, nt := 114, mv := false, res := [(.tmp 2), (.tmp 3)], code :=
 (.seq (.region [A 2 (.mv (.c (.float .f64 0))),
 A 3 (.mv (.c (.int .i64 0)))] [])
 (.seq (.seq (.region [A 12 (.mv (.t 0))] [])
 (.block 0 (.seq (.region [A 14 (.bin .eql (.t 12) (.c (.str ⟨#[110, 97, 110]⟩))),
 A 13 (.mv (.t 14))] [])
 (.cond (.t 13) (.seq (.region [A 15 (.call 89 []),
 A 2 (.mv (.t 15)),
 A 3 (.mv (.c (.int .i64 0)))] [])
 .ret) (.seq (.region [A 17 (.bin .eql (.t 12) (.c (.str ⟨#[105, 110, 102]⟩))),
 A 16 (.mv (.t 17))] [])
 (.cond (.t 16) (.seq (.region [A 18 (.call 90 [(.c (.int .i64 1))]),
 A 2 (.mv (.t 18)),
 A 3 (.mv (.c (.int .i64 0)))] [])
 .ret) (.seq (.region [A 20 (.bin .eql (.t 12) (.c (.str ⟨#[45, 105, 110, 102]⟩))),
 A 19 (.mv (.t 20))] [])
 (.cond (.t 19) (.seq (.region [A 21 (.call 90 [(.c (.int .i64 (-1)))]),
 A 2 (.mv (.t 21)),
 A 3 (.mv (.c (.int .i64 0)))] [])
 .ret) .skip))))))))
 (.seq (.region [A 22 (.mv (.t 0)),
 A 23 (.lenS (.t 22)),
 A 24 (.bin .gtr (.t 23) (.c (.int .i64 0))),
 A 25 (.mv (.t 24)),
 ⟨some 26, (.mv (.t 0)), (some (25, true)), 0⟩,
 ⟨some 27, (.ixs (.t 26) (.c (.int .i64 0))), (some (25, true)), 0⟩,
 ⟨some 28, (.bin .eql (.t 27) (.c (.int .u8 45))), (some (25, true)), 0⟩,
 A 29 (.pick (.t 25) (.t 28) (.c (.bool false))),
 A 4 (.mv (.t 29))] [])
 (.seq (.seq (.region [A 30 (.mv (.t 4))] [])
 (.cond (.t 30) (.region [A 31 (.mv (.t 0)),
 A 32 (.cutS (.t 31) (some (.c (.int .i64 1))) none),
 A 0 (.mv (.t 32))] []) .skip))
 (.seq (.region [A 5 (.mv (.c (.int .i64 0))),
 A 6 (.mv (.c (.int .i64 0))),
 A 7 (.mv (.c (.int .i64 (-1))))] [])
 (.seq (.seq (.region [A 8 (.mv (.c (.int .i64 0)))] [])
 (.block 1 (.loop [0, 4, 5, 6, 7, 8, 45, 46, 49, 50, 59, 60, 61, 62, 65, 66, 81, 82, 83, 84, 85, 86, 87, 88, 89, 96, 97, 98, 99] (.seq (.seq (.region [A 33 (.mv (.t 8)),
 A 34 (.mv (.t 0)),
 A 35 (.lenS (.t 34)),
 A 36 (.bin .lss (.t 33) (.t 35))] [])
 (.cond (.t 36) .skip (.exit 1)))
 (.seq (.block 2 (.block 3 (.seq (.region [A 40 (.mv (.t 0)),
 A 41 (.mv (.t 8)),
 A 42 (.ixs (.t 40) (.t 41)),
 A 43 (.bin .eql (.t 42) (.c (.int .u8 46))),
 A 44 (.mv (.t 43)),
 ⟨some 45, (.mv (.t 7)), (some (44, true)), 0⟩,
 ⟨some 46, (.bin .lss (.t 45) (.c (.int .i64 0))), (some (44, true)), 0⟩,
 A 47 (.pick (.t 44) (.t 46) (.c (.bool false))),
 A 48 (.mv (.t 47)),
 ⟨some 49, (.mv (.t 8)), (some (48, true)), 0⟩,
 ⟨some 50, (.bin .gtr (.t 49) (.c (.int .i64 0))), (some (48, true)), 0⟩,
 A 51 (.pick (.t 48) (.t 50) (.c (.bool false))),
 A 39 (.mv (.t 51))] [])
 (.cond (.t 39) (.region [A 52 (.mv (.t 8)),
 A 7 (.mv (.t 52))] []) (.seq (.region [A 54 (.mv (.t 0)),
 A 55 (.mv (.t 8)),
 A 56 (.ixs (.t 54) (.t 55)),
 A 57 (.bin .geq (.t 56) (.c (.int .u8 48))),
 A 58 (.mv (.t 57)),
 ⟨some 59, (.mv (.t 0)), (some (58, true)), 0⟩,
 ⟨some 60, (.mv (.t 8)), (some (58, true)), 0⟩,
 ⟨some 61, (.ixs (.t 59) (.t 60)), (some (58, true)), 0⟩,
 ⟨some 62, (.bin .leq (.t 61) (.c (.int .u8 57))), (some (58, true)), 0⟩,
 A 63 (.pick (.t 58) (.t 62) (.c (.bool false))),
 A 64 (.mv (.t 63)),
 ⟨some 65, (.mv (.t 6)), (some (64, true)), 0⟩,
 ⟨some 66, (.bin .lss (.t 65) (.c (.int .i64 15))), (some (64, true)), 0⟩,
 A 67 (.pick (.t 64) (.t 66) (.c (.bool false))),
 A 53 (.mv (.t 67))] [])
 (.cond (.t 53) (.region [A 68 (.mv (.t 5)),
 A 69 (.bin .mul (.t 68) (.c (.int .i64 10))),
 A 70 (.mv (.t 0)),
 A 71 (.mv (.t 8)),
 A 72 (.ixs (.t 70) (.t 71)),
 A 73 (.bin .sub (.t 72) (.c (.int .u8 48))),
 A 74 (.conv .i64 (.t 73)),
 A 75 (.bin .add (.t 69) (.t 74)),
 A 76 (.mv (.t 6)),
 A 77 (.bin .add (.t 76) (.c (.int .i64 1))),
 A 5 (.mv (.t 75)),
 A 6 (.mv (.t 77))] []) (.seq (.region [A 2 (.mv (.c (.float .f64 0))),
 A 3 (.mv (.c (.int .i64 2)))] [])
 .ret)))))))
 (.region [A 37 (.mv (.t 8)),
 A 38 (.bin .add (.t 37) (.c (.int .i64 1))),
 A 8 (.mv (.t 38))] []))))))
 (.seq (.seq (.region [A 78 (.mv (.t 6)),
 A 79 (.bin .eql (.t 78) (.c (.int .i64 0))),
 A 80 (.mv (.t 79)),
 ⟨some 81, (.mv (.t 7)), (some (80, false)), 0⟩,
 ⟨some 82, (.mv (.t 0)), (some (80, false)), 0⟩,
 ⟨some 83, (.lenS (.t 82)), (some (80, false)), 0⟩,
 ⟨some 84, (.bin .sub (.t 83) (.c (.int .i64 1))), (some (80, false)), 0⟩,
 ⟨some 85, (.bin .eql (.t 81) (.t 84)), (some (80, false)), 0⟩,
 ⟨some 86, (.mv (.t 85)), (some (80, false)), 0⟩,
 ⟨some 87, (.mv (.t 7)), (some (86, true)), 0⟩,
 ⟨some 88, (.bin .geq (.t 87) (.c (.int .i64 0))), (some (86, true)), 0⟩,
 ⟨some 89, (.pick (.t 86) (.t 88) (.c (.bool false))), (some (80, false)), 0⟩,
 A 90 (.pick (.t 80) (.c (.bool true)) (.t 89))] [])
 (.cond (.t 90) (.seq (.region [A 2 (.mv (.c (.float .f64 0))),
 A 3 (.mv (.c (.int .i64 2)))] [])
 .ret) .skip))
 (.seq (.region [A 9 (.mv (.c (.int .i64 1)))] [])
 (.seq (.seq (.region [A 91 (.mv (.t 7)),
 A 92 (.bin .add (.t 91) (.c (.int .i64 1))),
 A 10 (.mv (.t 92))] [])
 (.block 4 (.loop [0, 4, 5, 7, 9, 10, 96, 97, 98, 99] (.seq (.seq (.region [A 93 (.mv (.t 7)),
 A 94 (.bin .geq (.t 93) (.c (.int .i64 0))),
 A 95 (.mv (.t 94)),
 ⟨some 96, (.mv (.t 10)), (some (95, true)), 0⟩,
 ⟨some 97, (.mv (.t 0)), (some (95, true)), 0⟩,
 ⟨some 98, (.lenS (.t 97)), (some (95, true)), 0⟩,
 ⟨some 99, (.bin .lss (.t 96) (.t 98)), (some (95, true)), 0⟩,
 A 100 (.pick (.t 95) (.t 99) (.c (.bool false)))] [])
 (.cond (.t 100) .skip (.exit 4)))
 (.seq (.block 5 (.region [A 103 (.mv (.t 9)),
 A 104 (.bin .mul (.t 103) (.c (.int .i64 10))),
 A 9 (.mv (.t 104))] []))
 (.region [A 101 (.mv (.t 10)),
 A 102 (.bin .add (.t 101) (.c (.int .i64 1))),
 A 10 (.mv (.t 102))] []))))))
 (.seq (.region [A 105 (.mv (.t 5)),
 A 106 (.i2f .f64 (.t 105)),
 A 107 (.mv (.t 9)),
 A 108 (.i2f .f64 (.t 107)),
 A 109 (.bin .quo (.t 106) (.t 108)),
 A 11 (.mv (.t 109))] [])
 (.seq (.seq (.region [A 110 (.mv (.t 4))] [])
 (.cond (.t 110) (.region [A 111 (.mv (.t 11)),
 A 112 (.call 91 [(.t 111), (.c (.float .f64 13830554455654793216))]),
 A 11 (.mv (.t 112))] []) .skip))
 (.seq (.region [A 113 (.mv (.t 11)),
 A 2 (.mv (.t 113)),
 A 3 (.mv (.c (.int .i64 0)))] [])
 .ret)))))))))))) }
def a59 : AFunc :=
 { np := 2, nt := 22, mv := false, res := [(.tmp 4)], code :=
 (.seq (.region [A 2 (.box 30 (.t 0)),
 A 4 (.mv (.c (.int .i64 0)))] [])
 (.seq (.seq (.region [A 5 (.mv (.c (.int .i64 0)))] [])
 (.block 0 (.loop [1, 2, 5] (.seq (.seq (.region [A 6 (.mv (.t 5)),
 A 7 (.fld 2 (.t 2)),
 A 8 (.load 1 false (.t 7)),
 A 9 (.len (.t 8)),
 A 10 (.bin .lss (.t 6) (.t 9))] [])
 (.cond (.t 10) .skip (.exit 0)))
 (.seq (.block 1 (.seq (.region [A 13 (.fld 2 (.t 2)),
 A 14 (.load 1 false (.t 13)),
 A 15 (.mv (.t 5)),
 A 16 (.ixa 2 (.t 14) (.t 15)),
 A 17 (.fld 0 (.t 16)),
 A 18 (.load 1 false (.t 17)),
 A 19 (.mv (.t 1)),
 A 20 (.bin .eql (.t 18) (.t 19))] [])
 (.cond (.t 20) (.seq (.region [A 21 (.mv (.t 5)),
 A 4 (.mv (.t 21))] [])
 .ret) .skip)))
 (.region [A 11 (.mv (.t 5)),
 A 12 (.bin .add (.t 11) (.c (.int .i64 1))),
 A 5 (.mv (.t 12))] []))))))
 (.seq (.region [A 4 (.mv (.c (.int .i64 (-1))))] [])
 .ret))) }
def a60 : AFunc :=
 { np := 2, nt := 77, mv := false, res := [(.tmp 4)], code :=
 (.seq (.region [A 2 (.box 30 (.t 0)),
 A 3 (.box 55 (.t 1)),
 A 4 (.mv (.c (.bool false)))] [])
 (.seq (.seq (.region [A 7 (.fld 0 (.t 3)),
 A 8 (.load 1 false (.t 7)),
 A 9 (.bin .lss (.t 8) (.c (.int .i64 0))),
 A 10 (.mv (.t 9)),
 ⟨some 11, (.fld 0 (.t 3)), (some (10, false)), 0⟩,
 ⟨some 12, (.load 1 false (.t 11)), (some (10, false)), 0⟩,
 ⟨some 13, (.fld 1 (.t 2)), (some (10, false)), 0⟩,
 ⟨some 14, (.load 1 false (.t 13)), (some (10, false)), 0⟩,
 ⟨some 15, (.len (.t 14)), (some (10, false)), 0⟩,
 ⟨some 16, (.bin .geq (.t 12) (.t 15)), (some (10, false)), 0⟩,
 A 17 (.pick (.t 10) (.c (.bool true)) (.t 16)),
 A 18 (.mv (.t 17)),
 ⟨some 19, (.fld 1 (.t 3)), (some (18, false)), 0⟩,
 ⟨some 20, (.load 1 false (.t 19)), (some (18, false)), 0⟩,
 ⟨some 21, (.len (.t 20)), (some (18, false)), 0⟩,
 ⟨some 22, (.bin .gtr (.t 21) (.c (.int .i64 6))), (some (18, false)), 0⟩,
 A 23 (.pick (.t 18) (.c (.bool true)) (.t 22)),
 A 24 (.mv (.t 23)),
 ⟨some 25, (.fld 2 (.t 3)), (some (24, false)), 0⟩,
 ⟨some 26, (.load 1 false (.t 25)), (some (24, false)), 0⟩,
 ⟨some 27, (.bin .lss (.t 26) (.c (.int .i64 (-1)))), (some (24, false)), 0⟩,
 A 28 (.pick (.t 24) (.c (.bool true)) (.t 27)),
 A 29 (.mv (.t 28)),
 ⟨some 30, (.fld 2 (.t 3)), (some (29, false)), 0⟩,
 ⟨some 31, (.load 1 false (.t 30)), (some (29, false)), 0⟩,
 ⟨some 32, (.fld 2 (.t 2)), (some (29, false)), 0⟩,
 ⟨some 33, (.load 1 false (.t 32)), (some (29, false)), 0⟩,
 ⟨some 34, (.len (.t 33)), (some (29, false)), 0⟩,
 ⟨some 35, (.bin .geq (.t 31) (.t 34)), (some (29, false)), 0⟩,
 A 36 (.pick (.t 29) (.c (.bool true)) (.t 35))] [])
 (.cond (.t 36) (.seq (.region [A 4 (.mv (.c (.bool false)))] [])
 .ret) .skip))
 (.seq (.seq (.region [A 5 (.mv (.c (.int .i64 0)))] [])
 (.block 0 (.loop [2, 3, 5, 55, 56, 57, 58, 59, 60, 61, 62, 63, 64, 65, 66, 67, 68, 69, 70, 71, 72, 73, 74, 75] (.seq (.seq (.region [A 37 (.mv (.t 5)),
 A 38 (.fld 1 (.t 3)),
 A 39 (.load 1 false (.t 38)),
 A 40 (.len (.t 39)),
 A 41 (.bin .lss (.t 37) (.t 40))] [])
 (.cond (.t 41) .skip (.exit 0)))
 (.seq (.block 1 (.seq (.region [A 44 (.fld 1 (.t 3)),
 A 45 (.load 1 false (.t 44)),
 A 46 (.mv (.t 5)),
 A 47 (.ixa 1 (.t 45) (.t 46)),
 A 48 (.load 1 false (.t 47)),
 A 6 (.mv (.t 48))] [])
 (.seq (.region [A 49 (.mv (.t 6)),
 A 50 (.fld 1 (.t 2)),
 A 51 (.load 1 false (.t 50)),
 A 52 (.len (.t 51)),
 A 53 (.bin .geq (.t 49) (.t 52)),
 A 54 (.mv (.t 53)),
 ⟨some 55, (.mv (.t 6)), (some (54, false)), 0⟩,
 ⟨some 56, (.bin .lss (.t 55) (.c (.int .i64 0))), (some (54, false)), 0⟩,
 ⟨some 57, (.mv (.t 56)), (some (54, false)), 0⟩,
 ⟨some 58, (.mv (.t 6)), (some (57, true)), 0⟩,
 ⟨some 59, (.bin .add (.t 58) (.c (.int .i64 1))), (some (57, true)), 0⟩,
 ⟨some 60, (.un .neg (.t 59)), (some (57, true)), 0⟩,
 ⟨some 61, (.fld 0 (.t 2)), (some (57, true)), 0⟩,
 ⟨some 62, (.load 1 false (.t 61)), (some (57, true)), 0⟩,
 ⟨some 63, (.len (.t 62)), (some (57, true)), 0⟩,
 ⟨some 64, (.bin .geq (.t 60) (.t 63)), (some (57, true)), 0⟩,
 ⟨some 65, (.mv (.t 64)), (some (57, true)), 0⟩,
 ⟨some 66, (.fld 0 (.t 2)), (some (65, false)), 0⟩,
 ⟨some 67, (.load 1 false (.t 66)), (some (65, false)), 0⟩,
 ⟨some 68, (.mv (.t 6)), (some (65, false)), 0⟩,
 ⟨some 69, (.bin .add (.t 68) (.c (.int .i64 1))), (some (65, false)), 0⟩,
 ⟨some 70, (.un .neg (.t 69)), (some (65, false)), 0⟩,
 ⟨some 71, (.ixa 8 (.t 67) (.t 70)), (some (65, false)), 0⟩,
 ⟨some 72, (.fld 7 (.t 71)), (some (65, false)), 0⟩,
 ⟨some 73, (.load 1 false (.t 72)), (some (65, false)), 0⟩,
 ⟨some 74, (.pick (.t 65) (.c (.bool true)) (.t 73)), (some (57, true)), 0⟩,
 ⟨some 75, (.pick (.t 57) (.t 74) (.c (.bool false))), (some (54, false)), 0⟩,
 A 76 (.pick (.t 54) (.c (.bool true)) (.t 75))] [])
 (.cond (.t 76) (.seq (.region [A 4 (.mv (.c (.bool false)))] [])
 .ret) .skip))))
 (.region [A 42 (.mv (.t 5)),
 A 43 (.bin .add (.t 42) (.c (.int .i64 1))),
 A 5 (.mv (.t 43))] []))))))
 (.seq (.region [A 4 (.mv (.c (.bool true)))] [])
 .ret)))) }
def a61 : AFunc :=
 { np := 1, nt := 6, mv := false, res := [(.tmp 2)], code :=
 (.seq (.region [A 1 (.box 60 (.t 0)),
 A 2 (.mv (.c (.bool false)))] [])
 (.seq (.region [A 3 (.load 4 true (.t 1)),
 A 4 (.build [(.int .u64 0), (.int .u64 0), (.int .u64 0), (.int .u64 0)] []),
 A 5 (.eqA 4 false (.t 3) (.t 4)),
 A 2 (.mv (.t 5))] [])
 .ret)) }
def a62 : DFunc :=
 { nt := 30, pre := [(.region [A 1 (.box 30 (.t 0)),
 A 2 (.alloc 3 [(.v (.int .i64 0))]),
 A 3 (.alloc 34 [(.v (.int .i64 0))])] [])], lit := A 4 (.mkf 92 [(.t 2), (.t 3)]), slot := 4, h := 92, hd := { nt := 12, dst := 5, ops := [A 6 (.tassert 167 true [(.int .i64 0)] (.t 5)), A 4 (.mv (.t 6)), A 7 (.ext (.t 4) 0), A 8 (.ext (.t 4) 1), A 2 (.alloc 167 [(.v (.int .i64 0))]), ⟨none, (.store 1 (.t 2) (.t 7)), none, 0⟩, A 3 (.mv (.t 8))], rest := (.seq (.region [A 9 (.mv (.t 3))] [])
 (.cond (.t 9) (.region [A 10 (.fld 0 (.t 2)),
 A 11 (.load 1 false (.t 10)),
 ⟨none, (.store 1 (.t 0) (.t 11)), none, 0⟩,
 ⟨none, (.store 1 (.t 1) (.c (.int .i64 5))), none, 0⟩] []) .skip)) }, rest := (.seq (.region [A 5 (.load 7 true (.t 1)),
 A 6 (.call 93 [(.t 5)])] [])
 (.seq (.region [A 7 (.load 7 true (.t 1)),
 A 8 (.call 94 [(.t 7)])] [])
 (.seq (.region [A 9 (.load 7 true (.t 1)),
 A 10 (.call 95 [(.t 9)])] [])
 (.seq (.region [A 11 (.load 7 true (.t 1)),
 A 12 (.call 96 [(.t 11)])] [])
 (.seq (.region [A 13 (.load 7 true (.t 1)),
 A 14 (.call 97 [(.t 13)])] [])
 (.seq (.region [A 15 (.load 7 true (.t 1)),
 A 16 (.call 98 [(.t 15)])] [])
 (.seq (.region [A 17 (.fld 6 (.t 1)),
 A 18 (.load 1 false (.t 17)),
 A 19 (.bin .geq (.t 18) (.c (.int .i64 1))),
 A 20 (.mv (.t 19)),
 ⟨some 21, (.fld 6 (.t 1)), (some (20, true)), 0⟩,
 ⟨some 22, (.load 1 false (.t 21)), (some (20, true)), 0⟩,
 ⟨some 23, (.bin .leq (.t 22) (.c (.int .i64 60))), (some (20, true)), 0⟩,
 A 24 (.pick (.t 20) (.t 23) (.c (.bool false))),
 A 25 (.call 99 [(.t 24), (.c (.int .i64 0))])] [])
 (.seq (.region [A 26 (.fld 0 (.t 1)),
 A 27 (.load 1 false (.t 26)),
 A 28 (.call 100 [(.t 27), (.c (.fn 101))]),
 A 29 (.call 99 [(.t 28), (.c (.int .i64 0))])] [])
 (.seq (.region [⟨none, (.store 1 (.t 2) (.c (.int .i64 0))), none, 0⟩,
 ⟨none, (.store 1 (.t 3) (.c (.int .i64 0))), none, 0⟩] [])
 .ret))))))))), res := [(2, 1, false), (3, 1, false)], mv := false }
def a63 : AFunc :=
 { np := 2, nt := 9, mv := false, res := [(.tmp 4)], code :=
 (.seq (.region [A 4 (.mv (.c (.bool false)))] [])
 (.seq (.region [A 5 (.mv (.t 0)),
 A 6 (.mv (.t 1)),
 A 7 (.call 102 [(.t 5), (.t 6)]),
 A 8 (.bin .geq (.t 7) (.c (.int .i64 0))),
 A 4 (.mv (.t 8))] [])
 .ret)) }
def a66 : AFunc :=
 { np := 1, nt := 40, mv := false, res := [(.tmp 2)], code :=
 (.seq (.region [A 1 (.box 30 (.t 0)),
 A 2 (.mv (.c .nil))] [])
 (.seq (.seq (.region [A 7 (.load 7 true (.t 1)),
 A 8 (.call 103 [(.t 7)]),
 A 9 (.un .not (.t 8))] [])
 (.cond (.t 9) (.seq (.region [A 2 (.mv (.c .nil))] [])
 .ret) .skip))
 (.seq (.region [A 10 (.fld 1 (.t 1)),
 A 11 (.load 1 false (.t 10)),
 A 12 (.len (.t 11)),
 A 13 (.mksl 4 1 1 [(.bool false)] (.t 12) (.t 12)),
 A 3 (.mv (.t 13))] [])
 (.seq (.seq (.region [A 4 (.mv (.c (.bool true)))] [])
 (.block 0 (.loop [1, 3, 4, 29, 30, 31, 32] (.seq (.seq (.region [A 14 (.mv (.t 4))] [])
 (.cond (.t 14) .skip (.exit 0)))
 (.block 1 (.seq (.region [A 4 (.mv (.c (.bool false)))] [])
 (.seq (.region [A 15 (.fld 3 (.t 1)),
 A 16 (.load 1 false (.t 15)),
 A 17 (.len (.t 16)),
 A 18 (.mv (.c (.int .i64 0)))] [])
 (.block 2 (.loop [1, 3, 4, 16, 17, 18, 29, 30, 31, 32] (.seq (.region [A 19 (.bin .lss (.t 18) (.t 17))] [])
 (.seq (.cond (.t 19) .skip (.exit 2))
 (.seq (.block 3 (.seq (.region [A 20 (.ixa 3 (.t 16) (.t 18)),
 A 21 (.load 3 true (.t 20)),
 A 6 (.alloc 55 [(.v (.int .i64 0)), (.v .nil), (.v (.int .i64 0))]),
 ⟨none, (.store 3 (.t 6) (.t 21)), none, 0⟩] [])
 (.seq (.region [A 22 (.mv (.t 3)),
 A 23 (.fld 0 (.t 6)),
 A 24 (.load 1 false (.t 23)),
 A 25 (.ixa 1 (.t 22) (.t 24)),
 A 26 (.load 1 false (.t 25)),
 A 27 (.un .not (.t 26)),
 A 28 (.mv (.t 27)),
 ⟨some 29, (.mv (.t 3)), (some (28, true)), 0⟩,
 ⟨some 30, (.fld 1 (.t 6)), (some (28, true)), 0⟩,
 ⟨some 31, (.load 1 false (.t 30)), (some (28, true)), 0⟩,
 ⟨some 32, (.call 104 [(.t 29), (.t 31)]), (some (28, true)), 0⟩,
 A 33 (.pick (.t 28) (.t 32) (.c (.bool false)))] [])
 (.cond (.t 33) (.region [A 34 (.mv (.t 3)),
 A 35 (.fld 0 (.t 6)),
 A 36 (.load 1 false (.t 35)),
 A 37 (.ixa 1 (.t 34) (.t 36)),
 ⟨none, (.store 1 (.t 37) (.c (.bool true))), none, 0⟩,
 A 4 (.mv (.c (.bool true)))] []) .skip))))
 (.region [A 38 (.bin .add (.t 18) (.c (.int .i64 1))),
 A 18 (.mv (.t 38))] [])))))))))))))
 (.seq (.region [A 39 (.mv (.t 3)),
 A 2 (.mv (.t 39))] [])
 .ret))))) }
def a67 : AFunc :=
 { np := 1, nt := 22, mv := false, res := [(.tmp 2)], code :=
 (.seq (.region [A 1 (.box 30 (.t 0)),
 A 2 (.mv (.c .nil))] [])
 (.seq (.region [A 3 (.mv (.c .nil))] [])
 (.seq (.seq (.region [A 6 (.fld 3 (.t 1)),
 A 7 (.load 1 false (.t 6)),
 A 8 (.len (.t 7)),
 A 9 (.mv (.c (.int .i64 0)))] [])
 (.block 0 (.loop [1, 3, 7, 8, 9] (.seq (.region [A 10 (.bin .lss (.t 9) (.t 8))] [])
 (.seq (.cond (.t 10) .skip (.exit 0))
 (.seq (.block 1 (.seq (.region [A 11 (.ixa 3 (.t 7) (.t 9)),
 A 12 (.load 3 true (.t 11)),
 A 5 (.alloc 55 [(.v (.int .i64 0)), (.v .nil), (.v (.int .i64 0))]),
 ⟨none, (.store 3 (.t 5) (.t 12)), none, 0⟩] [])
 (.region [A 13 (.mv (.t 3)),
 A 14 (.fld 1 (.t 5)),
 A 15 (.load 1 false (.t 14)),
 A 16 (.lit 53 1 1 [.nil] [(0, (.t 15))]),
 A 17 (.app 53 1 24 (.t 13) (.t 16)),
 A 3 (.mv (.t 17))] [])))
 (.region [A 18 (.bin .add (.t 9) (.c (.int .i64 1))),
 A 9 (.mv (.t 18))] [])))))))
 (.seq (.region [A 19 (.load 7 true (.t 1)),
 A 20 (.mv (.t 3)),
 A 21 (.call 105 [(.t 19), (.t 20)]),
 A 2 (.mv (.t 21))] [])
 .ret)))) }
def a68 : AFunc :=
 { np := 3, nt := 14, mv := false, res := [], code :=
 (.seq (.region [A 3 (.box 72 (.t 0))] [])
 (.seq (.region [A 4 (.load 1 false (.t 1)),
 A 5 (.load 3 true (.t 3)),
 A 6 (.look 3 (.bool false) (.t 4) (.t 5)),
 A 7 (.un .not (.t 6))] [])
 (.cond (.t 7) (.seq (.region [A 8 (.load 1 false (.t 1)),
 A 9 (.load 3 true (.t 3)),
 ⟨none, (.upd 3 (.t 8) (.t 9) (.c (.bool true))), none, 0⟩] [])
 (.region [A 10 (.load 1 false (.t 2)),
 A 11 (.load 3 true (.t 3)),
 A 12 (.litF 72 3 1 [(.int .i64 0), (.int .i64 0), (.int .i64 0)] [(0, (.t 11))]),
 A 13 (.app 72 3 24 (.t 10) (.t 12)),
 ⟨none, (.store 1 (.t 2) (.t 13)), none, 0⟩] [])) .skip))) }
def a69 : AFunc :=
 { np := 2, nt := 14, mv := false, res := [(.tmp 4)], code :=
 (.seq (.region [A 2 (.box 30 (.t 0)),
 A 4 (.mv (.c .nil))] [])
 (.seq (.seq (.region [A 5 (.mv (.t 1)),
 A 6 (.bin .eql (.t 5) (.c (.int .i64 (-1))))] [])
 (.cond (.t 6) (.seq (.region [A 7 (.lit 3 1 1 [(.int .i64 0)] [(0, (.c (.int .i64 0)))]),
 A 4 (.mv (.t 7))] [])
 .ret) .skip))
 (.seq (.region [A 8 (.fld 3 (.t 2)),
 A 9 (.load 1 false (.t 8)),
 A 10 (.mv (.t 1)),
 A 11 (.ixa 3 (.t 9) (.t 10)),
 A 12 (.fld 1 (.t 11)),
 A 13 (.load 1 false (.t 12)),
 A 4 (.mv (.t 13))] [])
 .ret))) }
def a70 : AFunc :=
 { np := 3, nt := 46, mv := false, res := [(.tmp 6)], code :=
 (.seq (.region [A 6 (.mv (.c .nil))] [])
 (.seq (.region [A 7 (.mv (.c .nil))] [])
 (.seq (.seq (.region [A 10 (.mv (.t 1)),
 A 11 (.len (.t 10)),
 A 12 (.mv (.c (.int .i64 0)))] [])
 (.block 0 (.loop [0, 2, 7, 10, 11, 12] (.seq (.region [A 13 (.bin .lss (.t 12) (.t 11))] [])
 (.seq (.cond (.t 13) .skip (.exit 0))
 (.seq (.block 1 (.seq (.region [A 14 (.ixa 1 (.t 10) (.t 12)),
 A 15 (.load 1 false (.t 14)),
 A 9 (.mv (.t 15))] [])
 (.seq (.seq (.region [A 16 (.mv (.t 9)),
 A 17 (.bin .lss (.t 16) (.c (.int .i64 0)))] [])
 (.cond (.t 17) (.seq (.region [A 18 (.mv (.t 7)),
 A 19 (.mv (.t 9)),
 A 20 (.bin .sub (.c (.int .i64 (-1))) (.t 19)),
 A 21 (.litF 3 1 1 [(.int .i64 0)] [(0, (.t 20))]),
 A 22 (.app 3 1 8 (.t 18) (.t 21)),
 A 6 (.mv (.t 22))] [])
 .ret) .skip))
 (.seq (.region [A 23 (.mv (.t 7)),
 A 24 (.mv (.t 0)),
 A 25 (.chk (.t 24)),
 A 26 (.fld 8 (.t 25)),
 A 27 (.load 1 false (.t 26)),
 A 28 (.mv (.t 9)),
 A 29 (.ixa 1 (.t 27) (.t 28)),
 A 30 (.load 1 false (.t 29)),
 A 31 (.app 3 1 8 (.t 23) (.t 30)),
 A 7 (.mv (.t 31))] [])
 (.seq (.region [A 32 (.mv (.t 0)),
 A 33 (.chk (.t 32)),
 A 34 (.fld 7 (.t 33)),
 A 35 (.load 1 false (.t 34)),
 A 36 (.mv (.t 9)),
 A 37 (.ixa 1 (.t 35) (.t 36)),
 A 38 (.load 1 false (.t 37)),
 A 39 (.un .not (.t 38))] [])
 (.cond (.t 39) (.seq (.region [A 40 (.mv (.t 7)),
 A 6 (.mv (.t 40))] [])
 .ret) .skip))))))
 (.region [A 41 (.bin .add (.t 12) (.c (.int .i64 1))),
 A 12 (.mv (.t 41))] [])))))))
 (.seq (.region [A 42 (.mv (.t 7)),
 A 43 (.mv (.t 2)),
 A 44 (.litF 3 1 1 [(.int .i64 0)] [(0, (.t 43))]),
 A 45 (.app 3 1 8 (.t 42) (.t 44)),
 A 6 (.mv (.t 45))] [])
 .ret)))) }
def a71 : AFunc :=
 { np := 2, nt := 14, mv := false, res := [], code :=
 (.seq (.region [A 5 (.mv (.t 0)),
 A 6 (.len (.t 5)),
 A 4 (.mv (.t 6))] [])
 (.region [A 7 (.mv (.t 0)),
 A 8 (.mv (.t 4)),
 A 9 (.mv (.t 4)),
 A 10 (.conv .u64 (.t 9)),
 A 11 (.call 107 [(.t 10)]),
 A 12 (.mv (.t 1)),
 A 13 (.call 106 [(.t 7), (.c (.int .i64 0)), (.t 8), (.t 11), (.t 12)])] [])) }
def a72 : AFunc :=
 { np := 2, nt := 22, mv := false, res := [(.tmp 4)], code :=
 (.seq (.region [A 2 (.box 72 (.t 0)),
 A 3 (.box 72 (.t 1)),
 A 4 (.mv (.c (.int .i64 0)))] [])
 (.seq (.region [A 5 (.fld 0 (.t 2)),
 A 6 (.load 1 false (.t 5)),
 A 7 (.fld 0 (.t 3)),
 A 8 (.load 1 false (.t 7)),
 A 9 (.bin .sub (.t 6) (.t 8)),
 A 10 (.fld 1 (.t 2)),
 A 11 (.load 1 false (.t 10)),
 A 12 (.fld 1 (.t 3)),
 A 13 (.load 1 false (.t 12)),
 A 14 (.bin .sub (.t 11) (.t 13)),
 A 15 (.fld 2 (.t 2)),
 A 16 (.load 1 false (.t 15)),
 A 17 (.fld 2 (.t 3)),
 A 18 (.load 1 false (.t 17)),
 A 19 (.bin .sub (.t 16) (.t 18)),
 A 20 (.litF 3 1 3 [(.int .i64 0)] [(0, (.t 9)), (1, (.t 14)), (2, (.t 19))]),
 A 21 (.call 108 [(.t 20)]),
 A 4 (.mv (.t 21))] [])
 .ret)) }
def a73 : AFunc :=
 { np := 2, nt := 19, mv := false, res := [(.tmp 4)], code :=
 (.seq (.region [A 4 (.mv (.c (.int .i64 0)))] [])
 (.seq (.seq (.region [A 6 (.mv (.t 0)),
 A 7 (.len (.t 6)),
 A 8 (.mv (.c (.int .i64 0)))] [])
 (.block 0 (.loop [0, 1, 7, 8] (.seq (.region [A 9 (.bin .lss (.t 8) (.t 7))] [])
 (.seq (.cond (.t 9) .skip (.exit 0))
 (.seq (.block 1 (.seq (.region [A 10 (.mv (.t 8)),
 A 5 (.mv (.t 10))] [])
 (.seq (.region [A 11 (.mv (.t 1)),
 A 12 (.mv (.t 0)),
 A 13 (.mv (.t 5)),
 A 14 (.ixa 1 (.t 12) (.t 13)),
 A 15 (.load 1 false (.t 14)),
 A 16 (.callv (.t 11) [(.t 15)])] [])
 (.cond (.t 16) (.seq (.region [A 17 (.mv (.t 5)),
 A 4 (.mv (.t 17))] [])
 .ret) .skip))))
 (.region [A 18 (.bin .add (.t 8) (.c (.int .i64 1))),
 A 8 (.mv (.t 18))] [])))))))
 (.seq (.region [A 4 (.mv (.c (.int .i64 (-1))))] [])
 .ret))) }
def a74 : AFunc :=
 { np := 2, nt := 30, mv := false, res := [(.tmp 4), (.tmp 5)], code :=
 (.seq (.region [A 4 (.mv (.c (.int .u64 0))),
 A 5 (.mv (.c (.int .u64 0)))] [])
 (.seq (.cond (.c (.bool false)) (.seq (.region [A 11 (.mv (.t 0)),
 A 12 (.conv .u32 (.t 11)),
 A 13 (.mv (.t 1)),
 A 14 (.conv .u32 (.t 13)),
 A 15 (.call 109 [(.t 12), (.t 14)]),
 A 10 (.mv (.t 15)),
 A 16 (.ext (.t 10) 0),
 A 17 (.ext (.t 10) 1),
 A 6 (.mv (.t 16)),
 A 7 (.mv (.t 17))] [])
 (.seq (.region [A 18 (.mv (.t 6)),
 A 19 (.conv .u64 (.t 18)),
 A 20 (.mv (.t 7)),
 A 21 (.conv .u64 (.t 20)),
 A 4 (.mv (.t 19)),
 A 5 (.mv (.t 21))] [])
 .ret)) .skip)
 (.seq (.region [A 23 (.mv (.t 0)),
 A 24 (.mv (.t 1)),
 A 25 (.call 110 [(.t 23), (.t 24)]),
 A 22 (.mv (.t 25)),
 A 26 (.ext (.t 22) 0),
 A 27 (.ext (.t 22) 1),
 A 8 (.mv (.t 26)),
 A 9 (.mv (.t 27))] [])
 (.seq (.region [A 28 (.mv (.t 8)),
 A 29 (.mv (.t 9)),
 A 4 (.mv (.t 28)),
 A 5 (.mv (.t 29))] [])
 .ret)))) }
def a75 : AFunc :=
 { np := 2, nt := 12, mv := false, res := [(.tmp 3)], code :=
 (.seq (.region [A 3 (.mv (.c (.bool false)))] [])
 (.seq (.region [A 4 (.load 1 false (.t 1)),
 A 5 (.len (.t 4)),
 A 6 (.bin .gtr (.t 5) (.c (.int .i64 0))),
 A 7 (.mv (.t 6)),
 ⟨some 8, (.mv (.t 0)), (some (7, true)), 0⟩,
 ⟨some 9, (.load 1 false (.t 1)), (some (7, true)), 0⟩,
 ⟨some 10, (.call 35 [(.t 8), (.t 9)]), (some (7, true)), 0⟩,
 A 11 (.pick (.t 7) (.t 10) (.c (.bool false))),
 A 3 (.mv (.t 11))] [])
 .ret)) }
def a76 : AFunc :=
 { np := 4, nt := 42, mv := false, res := [], code :=
 (.seq (.region [A 7 (.box 70 (.t 3))] [])
 (.seq (.seq (.region [A 8 (.mv (.t 2)),
 A 9 (.bin .eql (.t 8) (.c (.int .i64 1000)))] [])
 (.cond (.t 9) (.region [A 10 (.mv (.t 0)),
 A 11 (.chk (.t 10)),
 A 12 (.fld 0 (.t 11)),
 A 13 (.fld 0 (.t 12)),
 A 14 (.load 1 false (.t 13)),
 A 15 (.len (.t 14)),
 A 2 (.mv (.t 15))] []) .skip))
 (.seq (.seq (.region [A 16 (.mv (.t 0)),
 A 17 (.chk (.t 16)),
 A 18 (.fld 8 (.t 17)),
 A 19 (.fld 0 (.t 18)),
 A 20 (.load 1 false (.t 19)),
 A 21 (.mv (.t 1)),
 A 22 (.ixa 1 (.t 20) (.t 21)),
 A 23 (.load 1 false (.t 22)),
 A 24 (.mv (.t 2)),
 A 25 (.ixa 2 (.t 23) (.t 24)),
 A 26 (.fld 0 (.t 25)),
 A 27 (.load 1 false (.t 26)),
 A 28 (.bin .neq (.t 27) (.c (.int .i64 0)))] [])
 (.cond (.t 28) (.region [A 29 (.build [] []),
 A 30 (.iface 87 (.t 29)),
 ⟨none, (.panic (.t 30)), none, 0⟩] []) .skip))
 (.region [A 31 (.mv (.t 0)),
 ⟨some 32, (.chk (.t 31)), none, 1⟩,
 ⟨some 33, (.fld 8 (.t 32)), none, 3⟩,
 ⟨some 34, (.fld 0 (.t 33)), none, 7⟩,
 ⟨some 35, (.load 1 false (.t 34)), none, 15⟩,
 A 36 (.mv (.t 1)),
 ⟨some 37, (.ixa 1 (.t 35) (.t 36)), none, 63⟩,
 ⟨some 38, (.load 1 false (.t 37)), none, 127⟩,
 A 39 (.mv (.t 2)),
 A 40 (.load 2 true (.t 7)),
 ⟨some 41, (.ixa 2 (.t 38) (.t 39)), none, 1023⟩,
 ⟨none, (.store 2 (.t 41) (.t 40)), none, 2047⟩] [])))) }
def a77 : AFunc :=
 { np := 1, nt := 144, mv := false, res := [(.cell 2 7 true), (.tmp 3), (.tmp 4)], code :=
 (.seq (.region [A 2 (.alloc 30 [(.v .nil), (.v .nil), (.v .nil), (.v .nil), (.v .nil), (.v .nil), (.v (.int .i64 0))]),
 A 3 (.mv (.c (.int .i64 0))),
 A 4 (.mv (.c (.int .i64 0)))] [])
 (.seq (.seq (.region [A 13 (.mv (.t 0)),
 A 14 (.lenS (.t 13)),
 A 15 (.bin .gtr (.t 14) (.c (.int .i64 1500)))] [])
 (.cond (.t 15) (.seq (.region [A 16 (.build [.nil, .nil, .nil, .nil, .nil, .nil, (.int .i64 0)] []),
 ⟨none, (.store 7 (.t 2) (.t 16)), none, 0⟩,
 A 3 (.mv (.c (.int .i64 0))),
 A 4 (.mv (.c (.int .i64 5)))] [])
 .ret) .skip))
 (.seq (.region [A 18 (.mv (.t 0)),
 A 19 (.call 111 [(.t 18)]),
 A 17 (.mv (.t 19)),
 A 20 (.ext (.t 17) 0),
 A 21 (.ext (.t 17) 1),
 A 5 (.mv (.t 20)),
 A 6 (.mv (.t 21))] [])
 (.seq (.region [A 22 (.build [.nil, .nil, .nil, .nil, .nil, .nil, (.int .i64 0), .nil, (.int .i64 0), (.bool false), (.bool false)] []),
 A 23 (.box 189 (.t 22)),
 A 7 (.mv (.t 23))] [])
 (.seq (.seq (.region [A 8 (.mv (.c (.int .i64 0)))] [])
 (.block 0 (.loop [2, 5, 6, 7, 8, 39, 40, 41, 42, 45, 46, 47, 48, 51, 52, 53, 54, 57, 58, 59, 60, 61, 62, 63, 64, 65, 88, 89, 90, 91, 92, 95, 96, 97, 98, 99, 100, 101, 102, 129, 130, 131, 132, 133, 136, 137] (.seq (.seq (.region [A 24 (.mv (.t 8)),
 A 25 (.mv (.t 5)),
 A 26 (.len (.t 25)),
 A 27 (.bin .lss (.t 24) (.t 26))] [])
 (.cond (.t 27) .skip (.exit 0)))
 (.seq (.block 1 (.seq (.region [A 30 (.mv (.t 5)),
 A 31 (.mv (.t 8)),
 A 32 (.ixa 1 (.t 30) (.t 31)),
 A 33 (.load 1 false (.t 32)),
 A 34 (.call 112 [(.t 33)]),
 A 9 (.mv (.t 34))] [])
 (.seq (.region [A 35 (.mv (.t 9)),
 ⟨some 36, (.len (.t 35)), none, 1⟩,
 ⟨some 37, (.bin .geq (.t 36) (.c (.int .i64 3))), none, 3⟩,
 ⟨some 38, (.mv (.t 37)), none, 7⟩,
 ⟨some 39, (.mv (.t 9)), (some (38, true)), 15⟩,
 ⟨some 40, (.ixa 1 (.t 39) (.c (.int .i64 0))), (some (38, true)), 31⟩,
 ⟨some 41, (.load 1 false (.t 40)), (some (38, true)), 63⟩,
 ⟨some 42, (.bin .eql (.t 41) (.c (.str ⟨#[114, 117, 108, 101]⟩))), (some (38, true)), 127⟩,
 ⟨some 43, (.pick (.t 38) (.t 42) (.c (.bool false))), none, 255⟩,
 ⟨some 44, (.mv (.t 43)), none, 511⟩,
 ⟨some 45, (.mv (.t 9)), (some (44, true)), 1023⟩,
 ⟨some 46, (.ixa 1 (.t 45) (.c (.int .i64 2))), (some (44, true)), 2047⟩,
 ⟨some 47, (.load 1 false (.t 46)), (some (44, true)), 4095⟩,
 ⟨some 48, (.bin .eql (.t 47) (.c (.str ⟨#[61]⟩))), (some (44, true)), 8191⟩,
 ⟨some 49, (.pick (.t 44) (.t 48) (.c (.bool false))), none, 16383⟩,
 ⟨some 50, (.mv (.t 49)), none, 32767⟩,
 ⟨some 51, (.mv (.t 9)), (some (50, true)), 65535⟩,
 ⟨some 52, (.ixa 1 (.t 51) (.c (.int .i64 1))), (some (50, true)), 131071⟩,
 ⟨some 53, (.load 1 false (.t 52)), (some (50, true)), 262143⟩,
 ⟨some 54, (.call 55 [(.t 53)]), (some (50, true)), 524287⟩,
 ⟨some 55, (.pick (.t 50) (.t 54) (.c (.bool false))), none, 1048575⟩,
 ⟨some 56, (.mv (.t 55)), none, 2097151⟩,
 ⟨some 57, (.mv (.t 7)), (some (56, true)), 4194303⟩,
 ⟨some 58, (.chk (.t 57)), (some (56, true)), 8388607⟩,
 ⟨some 59, (.fld 7 (.t 58)), (some (56, true)), 16777215⟩,
 ⟨some 60, (.load 1 false (.t 59)), (some (56, true)), 33554431⟩,
 ⟨some 61, (.mv (.t 9)), (some (56, true)), 4194303⟩,
 ⟨some 62, (.ixa 1 (.t 61) (.c (.int .i64 1))), (some (56, true)), 71303167⟩,
 ⟨some 63, (.load 1 false (.t 62)), (some (56, true)), 205520895⟩,
 ⟨some 64, (.call 88 [(.t 60), (.t 63)]), (some (56, true)), 536870911⟩,
 ⟨some 65, (.bin .lss (.t 64) (.c (.int .i64 0))), (some (56, true)), 1073741823⟩,
 ⟨some 66, (.pick (.t 56) (.t 65) (.c (.bool false))), none, 2147483647⟩] [])
 (.cond (.t 66) (.region [A 67 (.mv (.t 7)),
 A 68 (.mv (.t 7)),
 ⟨some 69, (.chk (.t 68)), none, 2⟩,
 ⟨some 70, (.fld 7 (.t 69)), none, 6⟩,
 ⟨some 71, (.load 1 false (.t 70)), none, 14⟩,
 A 72 (.mv (.t 9)),
 ⟨some 73, (.ixa 1 (.t 72) (.c (.int .i64 1))), none, 32⟩,
 ⟨some 74, (.load 1 false (.t 73)), none, 96⟩,
 ⟨some 75, (.litF 9 1 1 [(.str ⟨#[]⟩)] [(0, (.t 74))]), none, 224⟩,
 ⟨some 76, (.app 9 1 16 (.t 71) (.t 75)), none, 510⟩,
 ⟨some 77, (.chk (.t 67)), none, 1023⟩,
 ⟨some 78, (.fld 7 (.t 77)), none, 2047⟩,
 ⟨none, (.store 1 (.t 78) (.t 76)), none, 4095⟩] [(0, 9)]) .skip))))
 (.region [A 28 (.mv (.t 8)),
 A 29 (.bin .add (.t 28) (.c (.int .i64 1))),
 A 8 (.mv (.t 29))] []))))))
 (.seq (.seq (.region [A 10 (.mv (.c (.int .i64 0)))] [])
 (.block 2 (.loop [2, 5, 6, 7, 10, 88, 89, 90, 91, 92, 95, 96, 97, 98, 99, 100, 101, 102, 129, 130, 131, 132, 133, 136, 137] (.seq (.seq (.region [A 79 (.mv (.t 10)),
 A 80 (.mv (.t 5)),
 A 81 (.len (.t 80)),
 A 82 (.bin .lss (.t 79) (.t 81))] [])
 (.cond (.t 82) .skip (.exit 2)))
 (.seq (.block 3 (.seq (.region [A 85 (.mv (.t 6)),
 A 86 (.un .not (.t 85)),
 A 87 (.mv (.t 86)),
 ⟨some 88, (.mv (.t 10)), (some (87, true)), 0⟩,
 ⟨some 89, (.mv (.t 5)), (some (87, true)), 0⟩,
 ⟨some 90, (.len (.t 89)), (some (87, true)), 0⟩,
 ⟨some 91, (.bin .sub (.t 90) (.c (.int .i64 1))), (some (87, true)), 0⟩,
 ⟨some 92, (.bin .eql (.t 88) (.t 91)), (some (87, true)), 0⟩,
 A 93 (.pick (.t 87) (.t 92) (.c (.bool false))),
 A 94 (.mv (.t 93)),
 ⟨some 95, (.mv (.t 7)), (some (94, false)), 0⟩,
 ⟨some 96, (.mv (.t 5)), (some (94, false)), 0⟩,
 ⟨some 97, (.mv (.t 10)), (some (94, false)), 0⟩,
 ⟨some 98, (.ixa 1 (.t 96) (.t 97)), (some (94, false)), 0⟩,
 ⟨some 99, (.load 1 false (.t 98)), (some (94, false)), 0⟩,
 ⟨some 100, (.call 112 [(.t 99)]), (some (94, false)), 0⟩,
 ⟨some 101, (.call 113 [(.t 95), (.t 100)]), (some (94, false)), 0⟩,
 ⟨some 102, (.un .not (.t 101)), (some (94, false)), 0⟩,
 A 103 (.pick (.t 94) (.c (.bool true)) (.t 102))] [])
 (.cond (.t 103) (.seq (.region [A 104 (.build [.nil, .nil, .nil, .nil, .nil, .nil, (.int .i64 0)] []),
 A 105 (.mv (.t 10)),
 A 106 (.bin .add (.t 105) (.c (.int .i64 1))),
 ⟨none, (.store 7 (.t 2) (.t 104)), none, 0⟩,
 A 3 (.mv (.t 106)),
 A 4 (.mv (.c (.int .i64 5)))] [])
 .ret) .skip)))
 (.region [A 83 (.mv (.t 10)),
 A 84 (.bin .add (.t 83) (.c (.int .i64 1))),
 A 10 (.mv (.t 84))] []))))))
 (.seq (.region [A 107 (.mv (.t 7)),
 A 108 (.mv (.t 7)),
 A 109 (.chk (.t 108)),
 A 110 (.fld 7 (.t 109)),
 A 111 (.load 1 false (.t 110)),
 A 112 (.chk (.t 107)),
 A 113 (.fld 0 (.t 112)),
 A 114 (.fld 1 (.t 113)),
 ⟨none, (.store 1 (.t 114) (.t 111)), none, 0⟩] [])
 (.seq (.region [A 116 (.mv (.t 7)),
 A 117 (.chk (.t 116)),
 A 118 (.fld 0 (.t 117)),
 A 119 (.load 7 true (.t 118)),
 A 120 (.call 27 [(.t 119)]),
 A 115 (.mv (.t 120)),
 A 121 (.ext (.t 115) 0),
 A 122 (.ext (.t 115) 1),
 A 11 (.mv (.t 121)),
 A 12 (.mv (.t 122))] [])
 (.seq (.seq (.region [A 123 (.mv (.t 7)),
 A 124 (.chk (.t 123)),
 A 125 (.fld 9 (.t 124)),
 A 126 (.load 1 false (.t 125)),
 A 127 (.un .not (.t 126)),
 A 128 (.mv (.t 127)),
 ⟨some 129, (.mv (.t 7)), (some (128, false)), 0⟩,
 ⟨some 130, (.chk (.t 129)), (some (128, false)), 0⟩,
 ⟨some 131, (.fld 10 (.t 130)), (some (128, false)), 0⟩,
 ⟨some 132, (.load 1 false (.t 131)), (some (128, false)), 0⟩,
 ⟨some 133, (.un .not (.t 132)), (some (128, false)), 0⟩,
 A 134 (.pick (.t 128) (.c (.bool true)) (.t 133)),
 A 135 (.mv (.t 134)),
 ⟨some 136, (.mv (.t 12)), (some (135, false)), 0⟩,
 ⟨some 137, (.bin .neq (.t 136) (.c (.int .i64 0))), (some (135, false)), 0⟩,
 A 138 (.pick (.t 135) (.c (.bool true)) (.t 137))] [])
 (.cond (.t 138) (.seq (.region [A 139 (.build [.nil, .nil, .nil, .nil, .nil, .nil, (.int .i64 0)] []),
 ⟨none, (.store 7 (.t 2) (.t 139)), none, 0⟩,
 A 3 (.mv (.c (.int .i64 0))),
 A 4 (.mv (.c (.int .i64 5)))] [])
 .ret) .skip))
 (.seq (.region [A 140 (.mv (.t 7)),
 A 141 (.chk (.t 140)),
 A 142 (.fld 0 (.t 141)),
 A 143 (.load 7 true (.t 142)),
 ⟨none, (.store 7 (.t 2) (.t 143)), none, 0⟩,
 A 3 (.mv (.c (.int .i64 0))),
 A 4 (.mv (.c (.int .i64 0)))] [])
 .ret)))))))))) }
def a78 : AFunc :=
 { np := 1, nt := 126, mv := false, res := [(.cell 2 258 true), (.tmp 3)], code :=
 (.seq (.region [A 2 (.alloc 141 [(.v (.int .u8 0)), (.v (.int .u8 0)), (.v (.int .u8 0)), (.v (.int .u8 0)), (.v (.int .u8 0)), (.v (.int .u8 0)), (.v (.int .u8 0)), (.v (.int .u8 0)), (.v (.int .u8 0)), (.v (.int .u8 0)), (.v (.int .u8 0)), (.v (.int .u8 0)), (.v (.int .u8 0)), (.v (.int .u8 0)), (.v (.int .u8 0)), (.v (.int .u8 0)), (.v (.int .u8 0)), (.v (.int .u8 0)), (.v (.int .u8 0)), (.v (.int .u8 0)), (.v (.int .u8 0)), (.v (.int .u8 0)), (.v (.int .u8 0)), (.v (.int .u8 0)), (.v (.int .u8 0)), (.v (.int .u8 0)), (.v (.int .u8 0)), (.v (.int .u8 0)), (.v (.int .u8 0)), (.v (.int .u8 0)), (.v (.int .u8 0)), (.v (.int .u8 0)), (.v (.int .u8 0)), (.v (.int .u8 0)), (.v (.int .u8 0)), (.v (.int .u8 0)), (.v (.int .u8 0)), (.v (.int .u8 0)), (.v (.int .u8 0)), (.v (.int .u8 0)), (.v (.int .u8 0)), (.v (.int .u8 0)), (.v (.int .u8 0)), (.v (.int .u8 0)), (.v (.int .u8 0)), (.v (.int .u8 0)), (.v (.int .u8 0)), (.v (.int .u8 0)), (.v (.int .u8 0)), (.v (.int .u8 0)), (.v (.int .u8 0)), (.v (.int .u8 0)), (.v (.int .u8 0)), (.v (.int .u8 0)), (.v (.int .u8 0)), (.v (.int .u8 0)), (.v (.int .u8 0)), (.v (.int .u8 0)), (.v (.int .u8 0)), (.v (.int .u8 0)), (.v (.int .u8 0)), (.v (.int .u8 0)), (.v (.int .u8 0)), (.v (.int .u8 0)), (.v (.int .u8 0)), (.v (.int .u8 0)), (.v (.int .u8 0)), (.v (.int .u8 0)), (.v (.int .u8 0)), (.v (.int .u8 0)), (.v (.int .u8 0)), (.v (.int .u8 0)), (.v (.int .u8 0)), (.v (.int .u8 0)), (.v (.int .u8 0)), (.v (.int .u8 0)), (.v (.int .u8 0)), (.v (.int .u8 0)), (.v (.int .u8 0)), (.v (.int .u8 0)), (.v (.int .u8 0)), (.v (.int .u8 0)), (.v (.int .u8 0)), (.v (.int .u8 0)), (.v (.int .u8 0)), (.v (.int .u8 0)), (.v (.int .u8 0)), (.v (.int .u8 0)), (.v (.int .u8 0)), (.v (.int .u8 0)), (.v (.int .u8 0)), (.v (.int .u8 0)), (.v (.int .u8 0)), (.v (.int .u8 0)), (.v (.int .u8 0)), (.v (.int .u8 0)), (.v (.int .u8 0)), (.v (.int .u8 0)), (.v (.int .u8 0)), (.v (.int .u8 0)), (.v (.int .u8 0)), (.v (.int .u8 0)), (.v (.int .u8 0)), (.v (.int .u8 0)), (.v (.int .u8 0)), (.v (.int .u8 0)), (.v (.int .u8 0)), (.v (.int .u8 0)), (.v (.int .u8 0)), (.v (.int .u8 0)), (.v (.int .u8 0)), (.v (.int .u8 0)), (.v (.int .u8 0)), (.v (.int .u8 0)), (.v (.int .u8 0)), (.v (.int .u8 0)), (.v (.int .u8 0)), (.v (.int .u8 0)), (.v (.int .u8 0)), (.v (.int .u8 0)), (.v (.int .u8 0)), (.v (.int .u8 0)), (.v (.int .u8 0)), (.v (.int .u8 0)), (.v (.int .u8 0)), (.v (.int .u8 0)), (.v (.int .u8 0)), (.v (.int .u8 0)), (.v (.int .u8 0)), (.v (.int .u8 0)), (.v (.int .u8 0)), (.v (.int .u8 0)), (.v (.int .u8 0)), (.v (.int .u8 0)), (.v (.int .u8 0)), (.v (.int .u8 0)), (.v (.int .u8 0)), (.v (.int .u8 0)), (.v (.int .u8 0)), (.v (.int .u8 0)), (.v (.int .u8 0)), (.v (.int .u8 0)), (.v (.int .u8 0)), (.v (.int .u8 0)), (.v (.int .u8 0)), (.v (.int .u8 0)), (.v (.int .u8 0)), (.v (.int .u8 0)), (.v (.int .u8 0)), (.v (.int .u8 0)), (.v (.int .u8 0)), (.v (.int .u8 0)), (.v (.int .u8 0)), (.v (.int .u8 0)), (.v (.int .u8 0)), (.v (.int .u8 0)), (.v (.int .u8 0)), (.v (.int .u8 0)), (.v (.int .u8 0)), (.v (.int .u8 0)), (.v (.int .u8 0)), (.v (.int .u8 0)), (.v (.int .u8 0)), (.v (.int .u8 0)), (.v (.int .u8 0)), (.v (.int .u8 0)), (.v (.int .u8 0)), (.v (.int .u8 0)), (.v (.int .u8 0)), (.v (.int .u8 0)), (.v (.int .u8 0)), (.v (.int .u8 0)), (.v (.int .u8 0)), (.v (.int .u8 0)), (.v (.int .u8 0)), (.v (.int .u8 0)), (.v (.int .u8 0)), (.v (.int .u8 0)), (.v (.int .u8 0)), (.v (.int .u8 0)), (.v (.int .u8 0)), (.v (.int .u8 0)), (.v (.int .u8 0)), (.v (.int .u8 0)), (.v (.int .u8 0)), (.v (.int .u8 0)), (.v (.int .u8 0)), (.v (.int .u8 0)), (.v (.int .u8 0)), (.v (.int .u8 0)), (.v (.int .u8 0)), (.v (.int .u8 0)), (.v (.int .u8 0)), (.v (.int .u8 0)), (.v (.int .u8 0)), (.v (.int .u8 0)), (.v (.int .u8 0)), (.v (.int .u8 0)), (.v (.int .u8 0)), (.v (.int .u8 0)), (.v (.int .u8 0)), (.v (.int .u8 0)), (.v (.int .u8 0)), (.v (.int .u8 0)), (.v (.int .u8 0)), (.v (.int .u8 0)), (.v (.int .u8 0)), (.v (.int .u8 0)), (.v (.int .u8 0)), (.v (.int .u8 0)), (.v (.int .u8 0)), (.v (.int .u8 0)), (.v (.int .u8 0)), (.v (.int .u8 0)), (.v (.int .u8 0)), (.v (.int .u8 0)), (.v (.int .u8 0)), (.v (.int .u8 0)), (.v (.int .u8 0)), (.v (.int .u8 0)), (.v (.int .u8 0)), (.v (.int .u8 0)), (.v (.int .u8 0)), (.v (.int .u8 0)), (.v (.int .u8 0)), (.v (.int .u8 0)), (.v (.int .u8 0)), (.v (.int .u8 0)), (.v (.int .u8 0)), (.v (.int .u8 0)), (.v (.int .u8 0)), (.v (.int .u8 0)), (.v (.int .u8 0)), (.v (.int .u8 0)), (.v (.int .u8 0)), (.v (.int .u8 0)), (.v (.int .u8 0)), (.v (.int .u8 0)), (.v (.int .u8 0)), (.v (.int .u8 0)), (.v (.int .u8 0)), (.v (.int .u8 0)), (.v (.int .u8 0)), (.v (.int .u8 0)), (.v (.int .u8 0)), (.v (.int .u8 0)), (.v (.int .u8 0)), (.v (.int .u8 0)), (.v (.int .u8 0)), (.v (.int .u8 0)), (.v (.int .u8 0)), (.v (.int .u8 0)), (.v (.int .u8 0)), (.v (.int .u8 0)), (.v (.int .u8 0)), (.v (.int .u8 0)), (.v .nil), (.v .nil)]),
 A 3 (.mv (.c (.int .i64 0)))] [])
 (.seq (.region [A 14 (.lit 198 1 1 [.nil] [(0, (.c .nil))]),
 A 15 (.build [.nil, .nil, .nil] [(1, 1, (.t 14))]),
 A 16 (.box 196 (.t 15)),
 A 4 (.mv (.t 16))] [])
 (.seq (.seq (.region [A 5 (.mv (.c (.int .i64 0)))] [])
 (.block 0 (.loop [0, 2, 4, 5] (.seq (.seq (.region [A 17 (.mv (.t 5)),
 A 18 (.mv (.t 0)),
 A 19 (.len (.t 18)),
 A 20 (.bin .lss (.t 17) (.t 19))] [])
 (.cond (.t 20) .skip (.exit 0)))
 (.seq (.block 1 (.seq (.region [A 24 (.mv (.t 0)),
 A 25 (.mv (.t 5)),
 A 26 (.ixa 8 (.t 24) (.t 25)),
 A 27 (.fld 1 (.t 26)),
 A 28 (.load 6 true (.t 27)),
 A 29 (.call 87 [(.t 28)]),
 A 23 (.mv (.t 29)),
 A 30 (.ext (.t 23) 0),
 A 31 (.ext (.t 23) 1),
 A 6 (.alloc 159 [(.v .nil), (.v .nil), (.v .nil), (.v .nil), (.v (.bool false))]),
 ⟨none, (.store 5 (.t 6) (.t 30)), none, 0⟩,
 A 7 (.mv (.t 31))] [])
 (.seq (.seq (.region [A 32 (.mv (.t 7)),
 A 33 (.bin .neq (.t 32) (.c (.int .i64 0)))] [])
 (.cond (.t 33) (.seq (.region [A 34 (.build [(.int .u8 0), (.int .u8 0), (.int .u8 0), (.int .u8 0), (.int .u8 0), (.int .u8 0), (.int .u8 0), (.int .u8 0), (.int .u8 0), (.int .u8 0), (.int .u8 0), (.int .u8 0), (.int .u8 0), (.int .u8 0), (.int .u8 0), (.int .u8 0), (.int .u8 0), (.int .u8 0), (.int .u8 0), (.int .u8 0), (.int .u8 0), (.int .u8 0), (.int .u8 0), (.int .u8 0), (.int .u8 0), (.int .u8 0), (.int .u8 0), (.int .u8 0), (.int .u8 0), (.int .u8 0), (.int .u8 0), (.int .u8 0), (.int .u8 0), (.int .u8 0), (.int .u8 0), (.int .u8 0), (.int .u8 0), (.int .u8 0), (.int .u8 0), (.int .u8 0), (.int .u8 0), (.int .u8 0), (.int .u8 0), (.int .u8 0), (.int .u8 0), (.int .u8 0), (.int .u8 0), (.int .u8 0), (.int .u8 0), (.int .u8 0), (.int .u8 0), (.int .u8 0), (.int .u8 0), (.int .u8 0), (.int .u8 0), (.int .u8 0), (.int .u8 0), (.int .u8 0), (.int .u8 0), (.int .u8 0), (.int .u8 0), (.int .u8 0), (.int .u8 0), (.int .u8 0), (.int .u8 0), (.int .u8 0), (.int .u8 0), (.int .u8 0), (.int .u8 0), (.int .u8 0), (.int .u8 0), (.int .u8 0), (.int .u8 0), (.int .u8 0), (.int .u8 0), (.int .u8 0), (.int .u8 0), (.int .u8 0), (.int .u8 0), (.int .u8 0), (.int .u8 0), (.int .u8 0), (.int .u8 0), (.int .u8 0), (.int .u8 0), (.int .u8 0), (.int .u8 0), (.int .u8 0), (.int .u8 0), (.int .u8 0), (.int .u8 0), (.int .u8 0), (.int .u8 0), (.int .u8 0), (.int .u8 0), (.int .u8 0), (.int .u8 0), (.int .u8 0), (.int .u8 0), (.int .u8 0), (.int .u8 0), (.int .u8 0), (.int .u8 0), (.int .u8 0), (.int .u8 0), (.int .u8 0), (.int .u8 0), (.int .u8 0), (.int .u8 0), (.int .u8 0), (.int .u8 0), (.int .u8 0), (.int .u8 0), (.int .u8 0), (.int .u8 0), (.int .u8 0), (.int .u8 0), (.int .u8 0), (.int .u8 0), (.int .u8 0), (.int .u8 0), (.int .u8 0), (.int .u8 0), (.int .u8 0), (.int .u8 0), (.int .u8 0), (.int .u8 0), (.int .u8 0), (.int .u8 0), (.int .u8 0), (.int .u8 0), (.int .u8 0), (.int .u8 0), (.int .u8 0), (.int .u8 0), (.int .u8 0), (.int .u8 0), (.int .u8 0), (.int .u8 0), (.int .u8 0), (.int .u8 0), (.int .u8 0), (.int .u8 0), (.int .u8 0), (.int .u8 0), (.int .u8 0), (.int .u8 0), (.int .u8 0), (.int .u8 0), (.int .u8 0), (.int .u8 0), (.int .u8 0), (.int .u8 0), (.int .u8 0), (.int .u8 0), (.int .u8 0), (.int .u8 0), (.int .u8 0), (.int .u8 0), (.int .u8 0), (.int .u8 0), (.int .u8 0), (.int .u8 0), (.int .u8 0), (.int .u8 0), (.int .u8 0), (.int .u8 0), (.int .u8 0), (.int .u8 0), (.int .u8 0), (.int .u8 0), (.int .u8 0), (.int .u8 0), (.int .u8 0), (.int .u8 0), (.int .u8 0), (.int .u8 0), (.int .u8 0), (.int .u8 0), (.int .u8 0), (.int .u8 0), (.int .u8 0), (.int .u8 0), (.int .u8 0), (.int .u8 0), (.int .u8 0), (.int .u8 0), (.int .u8 0), (.int .u8 0), (.int .u8 0), (.int .u8 0), (.int .u8 0), (.int .u8 0), (.int .u8 0), (.int .u8 0), (.int .u8 0), (.int .u8 0), (.int .u8 0), (.int .u8 0), (.int .u8 0), (.int .u8 0), (.int .u8 0), (.int .u8 0), (.int .u8 0), (.int .u8 0), (.int .u8 0), (.int .u8 0), (.int .u8 0), (.int .u8 0), (.int .u8 0), (.int .u8 0), (.int .u8 0), (.int .u8 0), (.int .u8 0), (.int .u8 0), (.int .u8 0), (.int .u8 0), (.int .u8 0), (.int .u8 0), (.int .u8 0), (.int .u8 0), (.int .u8 0), (.int .u8 0), (.int .u8 0), (.int .u8 0), (.int .u8 0), (.int .u8 0), (.int .u8 0), (.int .u8 0), (.int .u8 0), (.int .u8 0), (.int .u8 0), (.int .u8 0), (.int .u8 0), (.int .u8 0), (.int .u8 0), (.int .u8 0), (.int .u8 0), (.int .u8 0), (.int .u8 0), (.int .u8 0), (.int .u8 0), (.int .u8 0), (.int .u8 0), (.int .u8 0), (.int .u8 0), (.int .u8 0), (.int .u8 0), (.int .u8 0), (.int .u8 0), (.int .u8 0), (.int .u8 0), (.int .u8 0), (.int .u8 0), (.int .u8 0), (.int .u8 0), .nil, .nil] []),
 A 35 (.mv (.t 7)),
 ⟨none, (.store 258 (.t 2) (.t 34)), none, 0⟩,
 A 3 (.mv (.t 35))] [])
 .ret) .skip))
 (.region [A 36 (.mv (.t 4)),
 A 37 (.mv (.t 4)),
 ⟨some 38, (.chk (.t 37)), none, 2⟩,
 ⟨some 39, (.fld 0 (.t 38)), none, 6⟩,
 ⟨some 40, (.load 1 false (.t 39)), none, 14⟩,
 A 41 (.load 5 true (.t 6)),
 ⟨some 42, (.lit 159 5 1 [.nil, .nil, .nil, .nil, (.bool false)] [(0, (.t 41))]), none, 32⟩,
 ⟨some 43, (.app 159 5 104 (.t 40) (.t 42)), none, 126⟩,
 ⟨some 44, (.chk (.t 36)), none, 255⟩,
 ⟨some 45, (.fld 0 (.t 44)), none, 511⟩,
 ⟨none, (.store 1 (.t 45) (.t 43)), none, 1023⟩] [(0, 6), (0, 7), (1, 6), (2, 6), (3, 6), (4, 6)]))))
 (.region [A 21 (.mv (.t 5)),
 A 22 (.bin .add (.t 21) (.c (.int .i64 1))),
 A 5 (.mv (.t 22))] []))))))
 (.seq (.region [A 46 (.mv (.t 4)),
 A 47 (.call 114 [(.t 46)]),
 A 48 (.build [(.int .u8 0), (.int .u8 0), (.int .u8 0), (.int .u8 0), (.int .u8 0), (.int .u8 0), (.int .u8 0), (.int .u8 0), (.int .u8 0), (.int .u8 0), (.int .u8 0), (.int .u8 0), (.int .u8 0), (.int .u8 0), (.int .u8 0), (.int .u8 0), (.int .u8 0), (.int .u8 0), (.int .u8 0), (.int .u8 0), (.int .u8 0), (.int .u8 0), (.int .u8 0), (.int .u8 0), (.int .u8 0), (.int .u8 0), (.int .u8 0), (.int .u8 0), (.int .u8 0), (.int .u8 0), (.int .u8 0), (.int .u8 0), (.int .u8 0), (.int .u8 0), (.int .u8 0), (.int .u8 0), (.int .u8 0), (.int .u8 0), (.int .u8 0), (.int .u8 0), (.int .u8 0), (.int .u8 0), (.int .u8 0), (.int .u8 0), (.int .u8 0), (.int .u8 0), (.int .u8 0), (.int .u8 0), (.int .u8 0), (.int .u8 0), (.int .u8 0), (.int .u8 0), (.int .u8 0), (.int .u8 0), (.int .u8 0), (.int .u8 0), (.int .u8 0), (.int .u8 0), (.int .u8 0), (.int .u8 0), (.int .u8 0), (.int .u8 0), (.int .u8 0), (.int .u8 0), (.int .u8 0), (.int .u8 0), (.int .u8 0), (.int .u8 0), (.int .u8 0), (.int .u8 0), (.int .u8 0), (.int .u8 0), (.int .u8 0), (.int .u8 0), (.int .u8 0), (.int .u8 0), (.int .u8 0), (.int .u8 0), (.int .u8 0), (.int .u8 0), (.int .u8 0), (.int .u8 0), (.int .u8 0), (.int .u8 0), (.int .u8 0), (.int .u8 0), (.int .u8 0), (.int .u8 0), (.int .u8 0), (.int .u8 0), (.int .u8 0), (.int .u8 0), (.int .u8 0), (.int .u8 0), (.int .u8 0), (.int .u8 0), (.int .u8 0), (.int .u8 0), (.int .u8 0), (.int .u8 0), (.int .u8 0), (.int .u8 0), (.int .u8 0), (.int .u8 0), (.int .u8 0), (.int .u8 0), (.int .u8 0), (.int .u8 0), (.int .u8 0), (.int .u8 0), (.int .u8 0), (.int .u8 0), (.int .u8 0), (.int .u8 0), (.int .u8 0), (.int .u8 0), (.int .u8 0), (.int .u8 0), (.int .u8 0), (.int .u8 0), (.int .u8 0), (.int .u8 0), (.int .u8 0), (.int .u8 0), (.int .u8 0), (.int .u8 0), (.int .u8 0), (.int .u8 0), (.int .u8 0), (.int .u8 0), (.int .u8 0), (.int .u8 0), (.int .u8 0), (.int .u8 0), (.int .u8 0), (.int .u8 0), (.int .u8 0), (.int .u8 0), (.int .u8 0), (.int .u8 0), (.int .u8 0), (.int .u8 0), (.int .u8 0), (.int .u8 0), (.int .u8 0), (.int .u8 0), (.int .u8 0), (.int .u8 0), (.int .u8 0), (.int .u8 0), (.int .u8 0), (.int .u8 0), (.int .u8 0), (.int .u8 0), (.int .u8 0), (.int .u8 0), (.int .u8 0), (.int .u8 0), (.int .u8 0), (.int .u8 0), (.int .u8 0), (.int .u8 0), (.int .u8 0), (.int .u8 0), (.int .u8 0), (.int .u8 0), (.int .u8 0), (.int .u8 0), (.int .u8 0), (.int .u8 0), (.int .u8 0), (.int .u8 0), (.int .u8 0), (.int .u8 0), (.int .u8 0), (.int .u8 0), (.int .u8 0), (.int .u8 0), (.int .u8 0), (.int .u8 0), (.int .u8 0), (.int .u8 0), (.int .u8 0), (.int .u8 0), (.int .u8 0), (.int .u8 0), (.int .u8 0), (.int .u8 0), (.int .u8 0), (.int .u8 0), (.int .u8 0), (.int .u8 0), (.int .u8 0), (.int .u8 0), (.int .u8 0), (.int .u8 0), (.int .u8 0), (.int .u8 0), (.int .u8 0), (.int .u8 0), (.int .u8 0), (.int .u8 0), (.int .u8 0), (.int .u8 0), (.int .u8 0), (.int .u8 0), (.int .u8 0), (.int .u8 0), (.int .u8 0), (.int .u8 0), (.int .u8 0), (.int .u8 0), (.int .u8 0), (.int .u8 0), (.int .u8 0), (.int .u8 0), (.int .u8 0), (.int .u8 0), (.int .u8 0), (.int .u8 0), (.int .u8 0), (.int .u8 0), (.int .u8 0), (.int .u8 0), (.int .u8 0), (.int .u8 0), (.int .u8 0), (.int .u8 0), (.int .u8 0), (.int .u8 0), (.int .u8 0), (.int .u8 0), (.int .u8 0), (.int .u8 0), (.int .u8 0), (.int .u8 0), (.int .u8 0), (.int .u8 0), (.int .u8 0), (.int .u8 0), (.int .u8 0), (.int .u8 0), (.int .u8 0), (.int .u8 0), (.int .u8 0), (.int .u8 0), (.int .u8 0), (.int .u8 0), (.int .u8 0), (.int .u8 0), (.int .u8 0), (.int .u8 0), (.int .u8 0), (.int .u8 0), (.int .u8 0), (.int .u8 0), .nil, .nil] [(0, 256, (.t 47))]),
 A 8 (.alloc 141 [(.v (.int .u8 0)), (.v (.int .u8 0)), (.v (.int .u8 0)), (.v (.int .u8 0)), (.v (.int .u8 0)), (.v (.int .u8 0)), (.v (.int .u8 0)), (.v (.int .u8 0)), (.v (.int .u8 0)), (.v (.int .u8 0)), (.v (.int .u8 0)), (.v (.int .u8 0)), (.v (.int .u8 0)), (.v (.int .u8 0)), (.v (.int .u8 0)), (.v (.int .u8 0)), (.v (.int .u8 0)), (.v (.int .u8 0)), (.v (.int .u8 0)), (.v (.int .u8 0)), (.v (.int .u8 0)), (.v (.int .u8 0)), (.v (.int .u8 0)), (.v (.int .u8 0)), (.v (.int .u8 0)), (.v (.int .u8 0)), (.v (.int .u8 0)), (.v (.int .u8 0)), (.v (.int .u8 0)), (.v (.int .u8 0)), (.v (.int .u8 0)), (.v (.int .u8 0)), (.v (.int .u8 0)), (.v (.int .u8 0)), (.v (.int .u8 0)), (.v (.int .u8 0)), (.v (.int .u8 0)), (.v (.int .u8 0)), (.v (.int .u8 0)), (.v (.int .u8 0)), (.v (.int .u8 0)), (.v (.int .u8 0)), (.v (.int .u8 0)), (.v (.int .u8 0)), (.v (.int .u8 0)), (.v (.int .u8 0)), (.v (.int .u8 0)), (.v (.int .u8 0)), (.v (.int .u8 0)), (.v (.int .u8 0)), (.v (.int .u8 0)), (.v (.int .u8 0)), (.v (.int .u8 0)), (.v (.int .u8 0)), (.v (.int .u8 0)), (.v (.int .u8 0)), (.v (.int .u8 0)), (.v (.int .u8 0)), (.v (.int .u8 0)), (.v (.int .u8 0)), (.v (.int .u8 0)), (.v (.int .u8 0)), (.v (.int .u8 0)), (.v (.int .u8 0)), (.v (.int .u8 0)), (.v (.int .u8 0)), (.v (.int .u8 0)), (.v (.int .u8 0)), (.v (.int .u8 0)), (.v (.int .u8 0)), (.v (.int .u8 0)), (.v (.int .u8 0)), (.v (.int .u8 0)), (.v (.int .u8 0)), (.v (.int .u8 0)), (.v (.int .u8 0)), (.v (.int .u8 0)), (.v (.int .u8 0)), (.v (.int .u8 0)), (.v (.int .u8 0)), (.v (.int .u8 0)), (.v (.int .u8 0)), (.v (.int .u8 0)), (.v (.int .u8 0)), (.v (.int .u8 0)), (.v (.int .u8 0)), (.v (.int .u8 0)), (.v (.int .u8 0)), (.v (.int .u8 0)), (.v (.int .u8 0)), (.v (.int .u8 0)), (.v (.int .u8 0)), (.v (.int .u8 0)), (.v (.int .u8 0)), (.v (.int .u8 0)), (.v (.int .u8 0)), (.v (.int .u8 0)), (.v (.int .u8 0)), (.v (.int .u8 0)), (.v (.int .u8 0)), (.v (.int .u8 0)), (.v (.int .u8 0)), (.v (.int .u8 0)), (.v (.int .u8 0)), (.v (.int .u8 0)), (.v (.int .u8 0)), (.v (.int .u8 0)), (.v (.int .u8 0)), (.v (.int .u8 0)), (.v (.int .u8 0)), (.v (.int .u8 0)), (.v (.int .u8 0)), (.v (.int .u8 0)), (.v (.int .u8 0)), (.v (.int .u8 0)), (.v (.int .u8 0)), (.v (.int .u8 0)), (.v (.int .u8 0)), (.v (.int .u8 0)), (.v (.int .u8 0)), (.v (.int .u8 0)), (.v (.int .u8 0)), (.v (.int .u8 0)), (.v (.int .u8 0)), (.v (.int .u8 0)), (.v (.int .u8 0)), (.v (.int .u8 0)), (.v (.int .u8 0)), (.v (.int .u8 0)), (.v (.int .u8 0)), (.v (.int .u8 0)), (.v (.int .u8 0)), (.v (.int .u8 0)), (.v (.int .u8 0)), (.v (.int .u8 0)), (.v (.int .u8 0)), (.v (.int .u8 0)), (.v (.int .u8 0)), (.v (.int .u8 0)), (.v (.int .u8 0)), (.v (.int .u8 0)), (.v (.int .u8 0)), (.v (.int .u8 0)), (.v (.int .u8 0)), (.v (.int .u8 0)), (.v (.int .u8 0)), (.v (.int .u8 0)), (.v (.int .u8 0)), (.v (.int .u8 0)), (.v (.int .u8 0)), (.v (.int .u8 0)), (.v (.int .u8 0)), (.v (.int .u8 0)), (.v (.int .u8 0)), (.v (.int .u8 0)), (.v (.int .u8 0)), (.v (.int .u8 0)), (.v (.int .u8 0)), (.v (.int .u8 0)), (.v (.int .u8 0)), (.v (.int .u8 0)), (.v (.int .u8 0)), (.v (.int .u8 0)), (.v (.int .u8 0)), (.v (.int .u8 0)), (.v (.int .u8 0)), (.v (.int .u8 0)), (.v (.int .u8 0)), (.v (.int .u8 0)), (.v (.int .u8 0)), (.v (.int .u8 0)), (.v (.int .u8 0)), (.v (.int .u8 0)), (.v (.int .u8 0)), (.v (.int .u8 0)), (.v (.int .u8 0)), (.v (.int .u8 0)), (.v (.int .u8 0)), (.v (.int .u8 0)), (.v (.int .u8 0)), (.v (.int .u8 0)), (.v (.int .u8 0)), (.v (.int .u8 0)), (.v (.int .u8 0)), (.v (.int .u8 0)), (.v (.int .u8 0)), (.v (.int .u8 0)), (.v (.int .u8 0)), (.v (.int .u8 0)), (.v (.int .u8 0)), (.v (.int .u8 0)), (.v (.int .u8 0)), (.v (.int .u8 0)), (.v (.int .u8 0)), (.v (.int .u8 0)), (.v (.int .u8 0)), (.v (.int .u8 0)), (.v (.int .u8 0)), (.v (.int .u8 0)), (.v (.int .u8 0)), (.v (.int .u8 0)), (.v (.int .u8 0)), (.v (.int .u8 0)), (.v (.int .u8 0)), (.v (.int .u8 0)), (.v (.int .u8 0)), (.v (.int .u8 0)), (.v (.int .u8 0)), (.v (.int .u8 0)), (.v (.int .u8 0)), (.v (.int .u8 0)), (.v (.int .u8 0)), (.v (.int .u8 0)), (.v (.int .u8 0)), (.v (.int .u8 0)), (.v (.int .u8 0)), (.v (.int .u8 0)), (.v (.int .u8 0)), (.v (.int .u8 0)), (.v (.int .u8 0)), (.v (.int .u8 0)), (.v (.int .u8 0)), (.v (.int .u8 0)), (.v (.int .u8 0)), (.v (.int .u8 0)), (.v (.int .u8 0)), (.v (.int .u8 0)), (.v (.int .u8 0)), (.v (.int .u8 0)), (.v (.int .u8 0)), (.v (.int .u8 0)), (.v (.int .u8 0)), (.v (.int .u8 0)), (.v (.int .u8 0)), (.v (.int .u8 0)), (.v (.int .u8 0)), (.v (.int .u8 0)), (.v (.int .u8 0)), (.v (.int .u8 0)), (.v (.int .u8 0)), (.v (.int .u8 0)), (.v (.int .u8 0)), (.v (.int .u8 0)), (.v (.int .u8 0)), (.v (.int .u8 0)), (.v (.int .u8 0)), (.v (.int .u8 0)), (.v (.int .u8 0)), (.v (.int .u8 0)), (.v (.int .u8 0)), (.v (.int .u8 0)), (.v (.int .u8 0)), (.v (.int .u8 0)), (.v (.int .u8 0)), (.v (.int .u8 0)), (.v (.int .u8 0)), (.v .nil), (.v .nil)]),
 ⟨none, (.store 258 (.t 8) (.t 48)), none, 0⟩] [])
 (.seq (.seq (.region [A 9 (.mv (.c (.int .i64 0)))] [])
 (.block 2 (.loop [2, 4, 8, 9] (.seq (.seq (.region [A 49 (.mv (.t 9)),
 A 50 (.mv (.t 4)),
 A 51 (.chk (.t 50)),
 A 52 (.fld 1 (.t 51)),
 A 53 (.load 1 false (.t 52)),
 A 54 (.len (.t 53)),
 A 55 (.bin .lss (.t 49) (.t 54))] [])
 (.cond (.t 55) .skip (.exit 2)))
 (.seq (.block 3 (.seq (.region [A 10 (.mv (.c .nil))] [])
 (.seq (.seq (.region [A 11 (.mv (.c (.int .i64 0)))] [])
 (.block 4 (.loop [2, 4, 8, 9, 10, 11] (.seq (.seq (.region [A 58 (.mv (.t 11)),
 A 59 (.mv (.t 4)),
 A 60 (.chk (.t 59)),
 A 61 (.fld 2 (.t 60)),
 A 62 (.load 1 false (.t 61)),
 A 63 (.len (.t 62)),
 A 64 (.bin .lss (.t 58) (.t 63))] [])
 (.cond (.t 64) .skip (.exit 4)))
 (.seq (.block 5 (.seq (.region [A 67 (.mv (.t 4)),
 A 68 (.mv (.t 9)),
 A 69 (.mv (.t 4)),
 A 70 (.chk (.t 69)),
 A 71 (.fld 2 (.t 70)),
 A 72 (.load 1 false (.t 71)),
 A 73 (.mv (.t 11)),
 A 74 (.ixa 1 (.t 72) (.t 73)),
 A 75 (.load 1 false (.t 74)),
 A 76 (.call 115 [(.t 67), (.t 68), (.t 75)]),
 A 12 (.mv (.t 76))] [])
 (.seq (.region [A 13 (.mv (.c (.int .i64 (-1))))] [])
 (.seq (.seq (.region [A 77 (.mv (.t 12)),
 A 78 (.len (.t 77)),
 A 79 (.bin .gtr (.t 78) (.c (.int .i64 0)))] [])
 (.cond (.t 79) (.seq (.region [A 80 (.mv (.t 4)),
 A 81 (.mv (.t 12)),
 A 82 (.call 116 [(.t 80), (.t 81)]),
 A 13 (.mv (.t 82))] [])
 (.seq (.region [A 83 (.mv (.t 13)),
 A 84 (.bin .lss (.t 83) (.c (.int .i64 0)))] [])
 (.cond (.t 84) (.seq (.region [A 85 (.mv (.t 4)),
 A 86 (.chk (.t 85)),
 A 87 (.fld 1 (.t 86)),
 A 88 (.load 1 false (.t 87)),
 A 89 (.len (.t 88)),
 A 13 (.mv (.t 89))] [])
 (.region [A 90 (.mv (.t 4)),
 A 91 (.mv (.t 4)),
 A 92 (.chk (.t 91)),
 A 93 (.fld 1 (.t 92)),
 A 94 (.load 1 false (.t 93)),
 A 95 (.mv (.t 12)),
 A 96 (.lit 198 1 1 [.nil] [(0, (.t 95))]),
 A 97 (.app 198 1 24 (.t 94) (.t 96)),
 A 98 (.chk (.t 90)),
 A 99 (.fld 1 (.t 98)),
 ⟨none, (.store 1 (.t 99) (.t 97)), none, 0⟩] [])) .skip))) .skip))
 (.seq (.seq (.region [A 100 (.mv (.t 4)),
 A 101 (.chk (.t 100)),
 A 102 (.fld 1 (.t 101)),
 A 103 (.load 1 false (.t 102)),
 A 104 (.len (.t 103)),
 A 105 (.bin .gtr (.t 104) (.c (.int .i64 60)))] [])
 (.cond (.t 105) (.seq (.region [A 106 (.build [(.int .u8 0), (.int .u8 0), (.int .u8 0), (.int .u8 0), (.int .u8 0), (.int .u8 0), (.int .u8 0), (.int .u8 0), (.int .u8 0), (.int .u8 0), (.int .u8 0), (.int .u8 0), (.int .u8 0), (.int .u8 0), (.int .u8 0), (.int .u8 0), (.int .u8 0), (.int .u8 0), (.int .u8 0), (.int .u8 0), (.int .u8 0), (.int .u8 0), (.int .u8 0), (.int .u8 0), (.int .u8 0), (.int .u8 0), (.int .u8 0), (.int .u8 0), (.int .u8 0), (.int .u8 0), (.int .u8 0), (.int .u8 0), (.int .u8 0), (.int .u8 0), (.int .u8 0), (.int .u8 0), (.int .u8 0), (.int .u8 0), (.int .u8 0), (.int .u8 0), (.int .u8 0), (.int .u8 0), (.int .u8 0), (.int .u8 0), (.int .u8 0), (.int .u8 0), (.int .u8 0), (.int .u8 0), (.int .u8 0), (.int .u8 0), (.int .u8 0), (.int .u8 0), (.int .u8 0), (.int .u8 0), (.int .u8 0), (.int .u8 0), (.int .u8 0), (.int .u8 0), (.int .u8 0), (.int .u8 0), (.int .u8 0), (.int .u8 0), (.int .u8 0), (.int .u8 0), (.int .u8 0), (.int .u8 0), (.int .u8 0), (.int .u8 0), (.int .u8 0), (.int .u8 0), (.int .u8 0), (.int .u8 0), (.int .u8 0), (.int .u8 0), (.int .u8 0), (.int .u8 0), (.int .u8 0), (.int .u8 0), (.int .u8 0), (.int .u8 0), (.int .u8 0), (.int .u8 0), (.int .u8 0), (.int .u8 0), (.int .u8 0), (.int .u8 0), (.int .u8 0), (.int .u8 0), (.int .u8 0), (.int .u8 0), (.int .u8 0), (.int .u8 0), (.int .u8 0), (.int .u8 0), (.int .u8 0), (.int .u8 0), (.int .u8 0), (.int .u8 0), (.int .u8 0), (.int .u8 0), (.int .u8 0), (.int .u8 0), (.int .u8 0), (.int .u8 0), (.int .u8 0), (.int .u8 0), (.int .u8 0), (.int .u8 0), (.int .u8 0), (.int .u8 0), (.int .u8 0), (.int .u8 0), (.int .u8 0), (.int .u8 0), (.int .u8 0), (.int .u8 0), (.int .u8 0), (.int .u8 0), (.int .u8 0), (.int .u8 0), (.int .u8 0), (.int .u8 0), (.int .u8 0), (.int .u8 0), (.int .u8 0), (.int .u8 0), (.int .u8 0), (.int .u8 0), (.int .u8 0), (.int .u8 0), (.int .u8 0), (.int .u8 0), (.int .u8 0), (.int .u8 0), (.int .u8 0), (.int .u8 0), (.int .u8 0), (.int .u8 0), (.int .u8 0), (.int .u8 0), (.int .u8 0), (.int .u8 0), (.int .u8 0), (.int .u8 0), (.int .u8 0), (.int .u8 0), (.int .u8 0), (.int .u8 0), (.int .u8 0), (.int .u8 0), (.int .u8 0), (.int .u8 0), (.int .u8 0), (.int .u8 0), (.int .u8 0), (.int .u8 0), (.int .u8 0), (.int .u8 0), (.int .u8 0), (.int .u8 0), (.int .u8 0), (.int .u8 0), (.int .u8 0), (.int .u8 0), (.int .u8 0), (.int .u8 0), (.int .u8 0), (.int .u8 0), (.int .u8 0), (.int .u8 0), (.int .u8 0), (.int .u8 0), (.int .u8 0), (.int .u8 0), (.int .u8 0), (.int .u8 0), (.int .u8 0), (.int .u8 0), (.int .u8 0), (.int .u8 0), (.int .u8 0), (.int .u8 0), (.int .u8 0), (.int .u8 0), (.int .u8 0), (.int .u8 0), (.int .u8 0), (.int .u8 0), (.int .u8 0), (.int .u8 0), (.int .u8 0), (.int .u8 0), (.int .u8 0), (.int .u8 0), (.int .u8 0), (.int .u8 0), (.int .u8 0), (.int .u8 0), (.int .u8 0), (.int .u8 0), (.int .u8 0), (.int .u8 0), (.int .u8 0), (.int .u8 0), (.int .u8 0), (.int .u8 0), (.int .u8 0), (.int .u8 0), (.int .u8 0), (.int .u8 0), (.int .u8 0), (.int .u8 0), (.int .u8 0), (.int .u8 0), (.int .u8 0), (.int .u8 0), (.int .u8 0), (.int .u8 0), (.int .u8 0), (.int .u8 0), (.int .u8 0), (.int .u8 0), (.int .u8 0), (.int .u8 0), (.int .u8 0), (.int .u8 0), (.int .u8 0), (.int .u8 0), (.int .u8 0), (.int .u8 0), (.int .u8 0), (.int .u8 0), (.int .u8 0), (.int .u8 0), (.int .u8 0), (.int .u8 0), (.int .u8 0), (.int .u8 0), (.int .u8 0), (.int .u8 0), (.int .u8 0), (.int .u8 0), (.int .u8 0), (.int .u8 0), (.int .u8 0), (.int .u8 0), (.int .u8 0), (.int .u8 0), (.int .u8 0), (.int .u8 0), (.int .u8 0), (.int .u8 0), (.int .u8 0), (.int .u8 0), (.int .u8 0), (.int .u8 0), .nil, .nil] []),
 ⟨none, (.store 258 (.t 2) (.t 106)), none, 0⟩,
 A 3 (.mv (.c (.int .i64 6)))] [])
 .ret) .skip))
 (.region [A 107 (.mv (.t 10)),
 A 108 (.mv (.t 13)),
 A 109 (.litF 3 1 1 [(.int .i64 0)] [(0, (.t 108))]),
 A 110 (.app 3 1 8 (.t 107) (.t 109)),
 A 10 (.mv (.t 110))] []))))))
 (.region [A 65 (.mv (.t 11)),
 A 66 (.bin .add (.t 65) (.c (.int .i64 1))),
 A 11 (.mv (.t 66))] []))))))
 (.region [A 111 (.fld 256 (.t 8)),
 ⟨some 112, (.load 1 false (.t 111)), none, 1⟩,
 A 113 (.mv (.t 10)),
 ⟨some 114, (.lit 53 1 1 [.nil] [(0, (.t 113))]), none, 4⟩,
 ⟨some 115, (.app 53 1 24 (.t 112) (.t 114)), none, 15⟩,
 A 116 (.fld 257 (.t 8)),
 ⟨some 117, (.load 1 false (.t 116)), none, 32⟩,
 A 118 (.mv (.t 4)),
 A 119 (.mv (.t 9)),
 ⟨some 120, (.call 117 [(.t 118), (.t 119)]), none, 415⟩,
 ⟨some 121, (.litF 3 1 1 [(.int .i64 0)] [(0, (.t 120))]), none, 927⟩,
 ⟨some 122, (.app 3 1 8 (.t 117) (.t 121)), none, 2047⟩,
 ⟨some 123, (.fld 256 (.t 8)), none, 127⟩,
 ⟨none, (.store 1 (.t 123) (.t 115)), none, 8191⟩,
 ⟨some 124, (.fld 257 (.t 8)), none, 16383⟩,
 ⟨none, (.store 1 (.t 124) (.t 122)), none, 32767⟩] [(0, 3), (1, 3), (5, 3), (5, 4), (5, 9), (6, 3), (6, 4), (6, 9), (7, 3), (7, 4), (8, 3), (8, 4), (12, 9), (12, 11)]))))
 (.region [A 56 (.mv (.t 9)),
 A 57 (.bin .add (.t 56) (.c (.int .i64 1))),
 A 9 (.mv (.t 57))] []))))))
 (.seq (.region [A 125 (.load 258 true (.t 8)),
 ⟨none, (.store 258 (.t 2) (.t 125)), none, 0⟩,
 A 3 (.mv (.c (.int .i64 0)))] [])
 .ret)))))) }
def a79 : AFunc :=
 { np := 1, nt := 99, mv := false, res := [(.tmp 2), (.tmp 3)], code :=
 (.seq (.region [A 1 (.box 30 (.t 0)),
 A 2 (.mv (.c (.int .i64 0))),
 A 3 (.mv (.c (.int .i64 0)))] [])
 (.seq (.region [A 12 (.load 7 true (.t 1)),
 A 13 (.call 118 [(.t 12)]),
 A 4 (.mv (.t 13))] [])
 (.seq (.region [A 14 (.fld 4 (.t 1)),
 ⟨some 15, (.load 1 false (.t 14)), none, 1⟩,
 ⟨some 16, (.len (.t 15)), none, 3⟩,
 A 17 (.fld 5 (.t 1)),
 ⟨some 18, (.load 1 false (.t 17)), none, 8⟩,
 ⟨some 19, (.len (.t 18)), none, 24⟩,
 ⟨some 5, (.mv (.t 16)), none, 7⟩,
 ⟨some 6, (.mv (.t 19)), none, 127⟩] [])
 (.seq (.seq (.region [A 7 (.mv (.c (.int .i64 2)))] [])
 (.block 0 (.loop [1, 4, 5, 6, 7, 35, 36, 37, 38, 39, 40, 41, 52, 53, 54, 55, 56, 72, 73, 74, 75, 76] (.seq (.seq (.region [A 20 (.mv (.t 7)),
 A 21 (.fld 6 (.t 1)),
 A 22 (.load 1 false (.t 21)),
 A 23 (.bin .leq (.t 20) (.t 22))] [])
 (.cond (.t 23) .skip (.exit 0)))
 (.seq (.block 1 (.seq (.region [A 8 (.mv (.c (.int .i64 1)))] [])
 (.block 2 (.loop [1, 4, 5, 6, 7, 8, 35, 36, 37, 38, 39, 40, 41, 52, 53, 54, 55, 56, 72, 73, 74, 75, 76] (.seq (.seq (.region [A 26 (.mv (.t 8)),
 A 27 (.mv (.t 7)),
 A 28 (.bin .lss (.t 26) (.t 27))] [])
 (.cond (.t 28) .skip (.exit 2)))
 (.seq (.block 3 (.seq (.region [A 9 (.mv (.c .nil))] [])
 (.seq (.seq (.region [A 10 (.mv (.c (.int .i64 0)))] [])
 (.block 4 (.loop [1, 4, 5, 6, 7, 8, 9, 10, 35, 36, 37, 38, 39, 40, 41, 52, 53, 54, 55, 56, 72, 73, 74, 75, 76] (.seq (.seq (.region [A 31 (.mv (.t 10)),
 A 32 (.mv (.t 7)),
 A 33 (.bin .lss (.t 31) (.t 32)),
 A 34 (.mv (.t 33)),
 ⟨some 35, (.mv (.t 10)), (some (34, true)), 0⟩,
 ⟨some 36, (.bin .eql (.t 35) (.c (.int .i64 0))), (some (34, true)), 0⟩,
 ⟨some 37, (.mv (.t 36)), (some (34, true)), 0⟩,
 ⟨some 38, (.mv (.t 9)), (some (37, false)), 0⟩,
 ⟨some 39, (.len (.t 38)), (some (37, false)), 0⟩,
 ⟨some 40, (.bin .gtr (.t 39) (.c (.int .i64 0))), (some (37, false)), 0⟩,
 ⟨some 41, (.pick (.t 37) (.c (.bool true)) (.t 40)), (some (34, true)), 0⟩,
 A 42 (.pick (.t 34) (.t 41) (.c (.bool false)))] [])
 (.cond (.t 42) .skip (.exit 4)))
 (.seq (.block 5 (.seq (.region [A 45 (.build [(.int .u64 0), (.int .u64 0), (.int .u64 0), (.int .u64 0)] []),
 A 46 (.call 86 [(.t 45)]),
 A 11 (.alloc 60 [(.v (.int .u64 0)), (.v (.int .u64 0)), (.v (.int .u64 0)), (.v (.int .u64 0))]),
 ⟨none, (.store 4 (.t 11) (.t 46)), none, 0⟩] [])
 (.seq (.block 6 (.seq (.region [A 48 (.mv (.t 10)),
 A 49 (.mv (.t 8)),
 A 50 (.bin .lss (.t 48) (.t 49)),
 A 51 (.mv (.t 50)),
 ⟨some 52, (.mv (.t 10)), (some (51, true)), 0⟩,
 ⟨some 53, (.mv (.t 8)), (some (51, true)), 0⟩,
 ⟨some 54, (.mv (.t 5)), (some (51, true)), 0⟩,
 ⟨some 55, (.bin .sub (.t 53) (.t 54)), (some (51, true)), 0⟩,
 ⟨some 56, (.bin .geq (.t 52) (.t 55)), (some (51, true)), 0⟩,
 A 57 (.pick (.t 51) (.t 56) (.c (.bool false))),
 A 47 (.mv (.t 57))] [])
 (.cond (.t 47) (.region [A 58 (.fld 4 (.t 1)),
 A 59 (.load 1 false (.t 58)),
 A 60 (.mv (.t 10)),
 A 61 (.mv (.t 8)),
 A 62 (.mv (.t 5)),
 A 63 (.bin .sub (.t 61) (.t 62)),
 A 64 (.bin .sub (.t 60) (.t 63)),
 A 65 (.ixa 4 (.t 59) (.t 64)),
 A 66 (.load 4 true (.t 65)),
 ⟨none, (.store 4 (.t 11) (.t 66)), none, 0⟩] []) (.seq (.region [A 68 (.mv (.t 10)),
 A 69 (.mv (.t 8)),
 A 70 (.bin .geq (.t 68) (.t 69)),
 A 71 (.mv (.t 70)),
 ⟨some 72, (.mv (.t 10)), (some (71, true)), 0⟩,
 ⟨some 73, (.mv (.t 8)), (some (71, true)), 0⟩,
 ⟨some 74, (.mv (.t 6)), (some (71, true)), 0⟩,
 ⟨some 75, (.bin .add (.t 73) (.t 74)), (some (71, true)), 0⟩,
 ⟨some 76, (.bin .lss (.t 72) (.t 75)), (some (71, true)), 0⟩,
 A 77 (.pick (.t 71) (.t 76) (.c (.bool false))),
 A 67 (.mv (.t 77))] [])
 (.cond (.t 67) (.region [A 78 (.fld 5 (.t 1)),
 A 79 (.load 1 false (.t 78)),
 A 80 (.mv (.t 10)),
 A 81 (.mv (.t 8)),
 A 82 (.bin .sub (.t 80) (.t 81)),
 A 83 (.ixa 4 (.t 79) (.t 82)),
 A 84 (.load 4 true (.t 83)),
 ⟨none, (.store 4 (.t 11) (.t 84)), none, 0⟩] []) .skip)))))
 (.seq (.region [A 85 (.mv (.t 10)),
 A 86 (.bin .eql (.t 85) (.c (.int .i64 0)))] [])
 (.cond (.t 86) (.region [A 87 (.mv (.t 4)),
 A 88 (.load 4 true (.t 11)),
 A 89 (.call 119 [(.t 87), (.t 88)]),
 A 9 (.mv (.t 89))] []) (.region [A 90 (.mv (.t 4)),
 A 91 (.mv (.t 9)),
 A 92 (.load 4 true (.t 11)),
 A 93 (.call 120 [(.t 90), (.t 91), (.t 92)]),
 A 9 (.mv (.t 93))] []))))))
 (.region [A 43 (.mv (.t 10)),
 A 44 (.bin .add (.t 43) (.c (.int .i64 1))),
 A 10 (.mv (.t 44))] []))))))
 (.seq (.region [A 94 (.mv (.t 4)),
 A 95 (.mv (.t 9)),
 A 96 (.call 121 [(.t 94), (.t 95)])] [])
 (.cond (.t 96) (.seq (.region [A 97 (.mv (.t 7)),
 A 98 (.mv (.t 8)),
 A 2 (.mv (.t 97)),
 A 3 (.mv (.t 98))] [])
 .ret) .skip)))))
 (.region [A 29 (.mv (.t 8)),
 A 30 (.bin .add (.t 29) (.c (.int .i64 1))),
 A 8 (.mv (.t 30))] [])))))))
 (.region [A 24 (.mv (.t 7)),
 A 25 (.bin .add (.t 24) (.c (.int .i64 1))),
 A 7 (.mv (.t 25))] []))))))
 (.seq (.region [A 2 (.mv (.c (.int .i64 0))),
 A 3 (.mv (.c (.int .i64 0)))] [])
 .ret))))) }
def a80 : AFunc :=
 { np := 0, nt := 2, mv := false, res := [(.tmp 0)], code :=
 (.seq (.region [A 0 (.mv (.c .nil))] [])
 (.seq (.region [A 1 (.lit 9 1 5 [(.str ⟨#[]⟩)] [(0, (.c (.str ⟨#[116, 111, 107, 101, 110, 32, 97, 32, 61, 32, 97, 10, 116, 111, 107, 101, 110, 32, 98, 32, 61, 32, 98, 10, 116, 114, 105, 118, 105, 97, 32, 119, 32, 61, 32, 92, 120, 50, 48, 10, 115, 99, 111, 112, 101, 32, 104, 111, 116, 32, 61, 32, 49, 46, 53, 10, 115, 99, 111, 112, 101, 32, 111, 100, 100, 32, 61, 32, 110, 97, 110, 10, 114, 117, 108, 101, 32, 115, 32, 61, 32, 97, 32, 116, 32, 98, 32, 58, 32, 104, 111, 116, 10, 114, 117, 108, 101, 32, 116, 32, 61, 32, 115, 32, 58, 32, 111, 100, 100, 10, 114, 117, 108, 101, 32, 116, 32, 61, 10, 115, 121, 110, 99, 32, 92, 120, 48, 97, 32, 124, 10, 109, 97, 120, 32, 49, 50, 10]⟩))), (1, (.c (.str ⟨#[116, 111, 107, 101, 110, 32, 110, 32, 61, 32, 91, 48, 45, 50, 93, 43, 10, 116, 111, 107, 101, 110, 32, 109, 32, 61, 32, 92, 45, 10, 116, 114, 105, 118, 105, 97, 32, 119, 32, 61, 32, 91, 92, 120, 50, 48, 93, 43, 10, 115, 99, 111, 112, 101, 32, 120, 32, 61, 32, 48, 46, 50, 53, 10, 115, 99, 111, 112, 101, 32, 121, 32, 61, 32, 45, 105, 110, 102, 10, 115, 99, 111, 112, 101, 32, 122, 32, 61, 32, 105, 110, 102, 10, 114, 117, 108, 101, 32, 115, 32, 61, 32, 115, 32, 109, 32, 102, 32, 58, 32, 120, 10, 114, 117, 108, 101, 32, 115, 32, 61, 32, 102, 10, 114, 117, 108, 101, 32, 102, 32, 61, 32, 110, 32, 58, 32, 121, 10, 114, 117, 108, 101, 32, 102, 32, 61, 32, 109, 32, 102, 32, 58, 32, 122, 10, 115, 121, 110, 99, 32, 124, 32, 92, 120, 48, 97, 10, 109, 97, 120, 32, 49, 48, 10]⟩))), (2, (.c (.str ⟨#[116, 111, 107, 101, 110, 32, 97, 32, 61, 32, 97, 43, 10, 116, 111, 107, 101, 110, 32, 98, 32, 61, 32, 98, 40, 97, 124, 98, 41, 42, 10, 115, 99, 111, 112, 101, 32, 104, 32, 61, 32, 45, 48, 10, 114, 117, 108, 101, 32, 115, 32, 61, 32, 97, 32, 58, 32, 104, 10, 114, 117, 108, 101, 32, 115, 32, 61, 32, 98, 10, 115, 121, 110, 99, 32, 92, 120, 48, 97, 32, 124, 32, 46, 10, 109, 97, 120, 32, 57, 10]⟩))), (3, (.c (.str ⟨#[116, 111, 107, 101, 110, 32, 113, 32, 61, 32, 92, 120, 50, 50, 91, 94, 92, 120, 50, 50, 92, 120, 48, 97, 93, 42, 92, 120, 50, 50, 10, 116, 111, 107, 101, 110, 32, 99, 32, 61, 32, 58, 10, 116, 111, 107, 101, 110, 32, 108, 32, 61, 32, 92, 120, 55, 98, 10, 116, 111, 107, 101, 110, 32, 114, 32, 61, 32, 92, 120, 55, 100, 10, 116, 111, 107, 101, 110, 32, 107, 32, 61, 32, 44, 10, 116, 114, 105, 118, 105, 97, 32, 119, 32, 61, 32, 92, 120, 50, 48, 10, 115, 99, 111, 112, 101, 32, 107, 101, 121, 32, 61, 32, 48, 46, 53, 10, 115, 99, 111, 112, 101, 32, 111, 98, 106, 32, 61, 32, 50, 10, 114, 117, 108, 101, 32, 111, 32, 61, 32, 108, 32, 114, 32, 58, 32, 111, 98, 106, 10, 114, 117, 108, 101, 32, 111, 32, 61, 32, 108, 32, 109, 32, 114, 32, 58, 32, 111, 98, 106, 10, 114, 117, 108, 101, 32, 109, 32, 61, 32, 112, 10, 114, 117, 108, 101, 32, 109, 32, 61, 32, 109, 32, 107, 32, 112, 10, 114, 117, 108, 101, 32, 112, 32, 61, 32, 121, 32, 99, 32, 118, 10, 114, 117, 108, 101, 32, 121, 32, 61, 32, 113, 32, 58, 32, 107, 101, 121, 10, 114, 117, 108, 101, 32, 118, 32, 61, 32, 113, 10, 114, 117, 108, 101, 32, 118, 32, 61, 32, 111, 10, 115, 121, 110, 99, 32, 92, 120, 48, 97, 32, 124, 32, 91, 97, 45, 122, 93, 10, 109, 97, 120, 32, 50, 52, 10]⟩))), (4, (.c (.str ⟨#[116, 111, 107, 101, 110, 32, 97, 116, 32, 61, 32, 97, 116, 10, 116, 111, 107, 101, 110, 32, 100, 32, 61, 32, 92, 46, 10, 116, 111, 107, 101, 110, 32, 110, 32, 61, 32, 91, 97, 45, 122, 93, 43, 10, 116, 114, 105, 118, 105, 97, 32, 116, 32, 61, 32, 92, 120, 48, 97, 92, 120, 50, 48, 42, 10, 115, 99, 111, 112, 101, 32, 102, 32, 61, 32, 51, 10, 114, 117, 108, 101, 32, 115, 32, 61, 32, 97, 116, 32, 112, 10, 114, 117, 108, 101, 32, 115, 32, 61, 32, 115, 32, 97, 116, 32, 112, 32, 58, 32, 102, 10, 114, 117, 108, 101, 32, 112, 32, 61, 32, 110, 10, 114, 117, 108, 101, 32, 112, 32, 61, 32, 112, 32, 100, 32, 110, 10, 115, 121, 110, 99, 32, 92, 120, 48, 97, 32, 124, 32, 91, 48, 45, 57, 93, 10, 109, 97, 120, 32, 50, 48, 10]⟩)))]),
 A 0 (.mv (.t 1))] [])
 .ret)) }
def a82 : AFunc :=
 { np := 2, nt := 46, mv := false, res := [(.tmp 4), (.tmp 5)], code :=
 (.seq (.region [A 3 (.box 72 (.t 1)),
 A 4 (.mv (.c .nil)),
 A 5 (.mv (.c (.bool false)))] [])
 (.seq (.region [A 6 (.mv (.c (.int .i64 0)))] [])
 (.seq (.block 0 (.loop [0, 3, 6, 12, 13, 14, 15, 16, 17, 26, 27, 28, 29, 30, 31] (.seq (.seq (.region [A 7 (.mv (.t 6)),
 A 8 (.mv (.t 0)),
 ⟨some 9, (.len (.t 8)), none, 2⟩,
 ⟨some 10, (.bin .lss (.t 7) (.t 9)), none, 7⟩,
 ⟨some 11, (.mv (.t 10)), none, 15⟩,
 ⟨some 12, (.mv (.t 0)), (some (11, true)), 31⟩,
 ⟨some 13, (.mv (.t 6)), (some (11, true)), 31⟩,
 ⟨some 14, (.ixa 3 (.t 12) (.t 13)), (some (11, true)), 127⟩,
 ⟨some 15, (.load 3 true (.t 14)), (some (11, true)), 255⟩,
 ⟨some 16, (.load 3 true (.t 3)), (some (11, true)), 31⟩,
 ⟨some 17, (.call 123 [(.t 15), (.t 16)]), (some (11, true)), 1023⟩,
 ⟨some 18, (.pick (.t 11) (.t 17) (.c (.bool false))), none, 2047⟩] [])
 (.cond (.t 18) .skip (.exit 0)))
 (.block 1 (.region [A 19 (.mv (.t 6)),
 A 20 (.bin .add (.t 19) (.c (.int .i64 1))),
 A 6 (.mv (.t 20))] [])))))
 (.seq (.seq (.region [A 21 (.mv (.t 6)),
 A 22 (.mv (.t 0)),
 ⟨some 23, (.len (.t 22)), none, 2⟩,
 ⟨some 24, (.bin .lss (.t 21) (.t 23)), none, 7⟩,
 ⟨some 25, (.mv (.t 24)), none, 15⟩,
 ⟨some 26, (.mv (.t 0)), (some (25, true)), 31⟩,
 ⟨some 27, (.mv (.t 6)), (some (25, true)), 31⟩,
 ⟨some 28, (.ixa 3 (.t 26) (.t 27)), (some (25, true)), 127⟩,
 ⟨some 29, (.load 3 true (.t 28)), (some (25, true)), 255⟩,
 ⟨some 30, (.load 3 true (.t 3)), (some (25, true)), 31⟩,
 ⟨some 31, (.eqA 3 false (.t 29) (.t 30)), (some (25, true)), 1023⟩,
 ⟨some 32, (.pick (.t 25) (.t 31) (.c (.bool false))), none, 2047⟩] [])
 (.cond (.t 32) (.seq (.region [A 33 (.mv (.t 0)),
 A 4 (.mv (.t 33)),
 A 5 (.mv (.c (.bool false)))] [])
 .ret) .skip))
 (.seq (.region [A 34 (.litF 72 3 0 [(.int .i64 0), (.int .i64 0), (.int .i64 0)] []),
 A 35 (.mv (.t 0)),
 A 36 (.mv (.t 6)),
 ⟨some 37, (.cutD 3 (.t 35) none (some (.t 36))), none, 6⟩,
 ⟨some 38, (.app 72 3 24 (.t 34) (.t 37)), none, 15⟩,
 A 39 (.load 3 true (.t 3)),
 ⟨some 40, (.litF 72 3 1 [(.int .i64 0), (.int .i64 0), (.int .i64 0)] [(0, (.t 39))]), none, 32⟩,
 ⟨some 41, (.app 72 3 24 (.t 38) (.t 40)), none, 127⟩,
 A 42 (.mv (.t 0)),
 A 43 (.mv (.t 6)),
 ⟨some 44, (.cutD 3 (.t 42) (some (.t 43)) none), none, 768⟩,
 ⟨some 45, (.app 72 3 24 (.t 41) (.t 44)), none, 2047⟩,
 ⟨some 4, (.mv (.t 45)), none, 4095⟩,
 ⟨some 5, (.mv (.c (.bool true))), none, 8191⟩] [(5, 4), (6, 4), (8, 4), (8, 7), (9, 4), (9, 7), (10, 4), (10, 7)])
 .ret))))) }
def a83 : AFunc :=
 { np := 3, nt := 105, mv := false, res := [(.tmp 6)], code :=
 (.seq (.region [A 3 (.box 30 (.t 0)),
 A 6 (.mv (.c .nil))] [])
 (.seq (.region [A 15 (.load 7 true (.t 3)),
 ⟨some 16, (.call 124 [(.t 15)]), none, 1⟩,
 A 17 (.load 7 true (.t 3)),
 ⟨some 18, (.call 125 [(.t 17), (.c (.bool true))]), none, 7⟩,
 ⟨some 7, (.mv (.t 16)), none, 15⟩,
 ⟨some 8, (.mv (.t 18)), none, 31⟩] [(2, 1)])
 (.seq (.region [A 19 (.fld 0 (.t 3)),
 A 20 (.load 1 false (.t 19)),
 A 21 (.len (.t 20)),
 A 22 (.mksl 4 1 1 [(.bool false)] (.t 21) (.t 21)),
 A 9 (.mv (.t 22))] [])
 (.seq (.region [A 10 (.mv (.c (.bool true)))] [])
 (.seq (.seq (.region [A 11 (.mv (.c (.int .i64 0)))] [])
 (.block 0 (.loop [1, 2, 3, 7, 8, 9, 10, 11, 28, 50, 51, 52, 53, 56, 57, 58, 59, 60, 61, 62, 63, 64, 65, 66, 72, 73, 74, 75, 79, 80, 83, 84, 85, 86, 98, 99] (.seq (.seq (.region [A 23 (.mv (.t 11)),
 A 24 (.mv (.t 1)),
 A 25 (.len (.t 24)),
 A 26 (.bin .lss (.t 23) (.t 25)),
 A 27 (.mv (.t 26)),
 ⟨some 28, (.mv (.t 10)), (some (27, true)), 0⟩,
 A 29 (.pick (.t 27) (.t 28) (.c (.bool false)))] [])
 (.cond (.t 29) .skip (.exit 0)))
 (.seq (.block 1 (.seq (.region [A 32 (.mv (.t 1)),
 A 33 (.mv (.t 11)),
 A 34 (.ixa 1 (.t 32) (.t 33)),
 A 35 (.load 1 false (.t 34)),
 A 12 (.mv (.t 35))] [])
 (.seq (.seq (.region [A 13 (.mv (.c (.int .i64 0)))] [])
 (.block 2 (.loop [1, 2, 3, 7, 8, 9, 11, 12, 13, 28, 50, 51, 52, 53, 56, 57, 58, 59, 60, 61, 62, 63, 64, 65, 66, 72, 73, 74, 75, 79, 80, 83, 84, 85, 86, 98, 99] (.seq (.seq (.region [A 36 (.mv (.t 13)),
 A 37 (.fld 0 (.t 3)),
 A 38 (.load 1 false (.t 37)),
 A 39 (.len (.t 38)),
 A 40 (.bin .lss (.t 36) (.t 39))] [])
 (.cond (.t 40) .skip (.exit 2)))
 (.seq (.block 3 (.region [A 43 (.mv (.t 9)),
 A 44 (.mv (.t 13)),
 A 45 (.mv (.t 9)),
 A 46 (.mv (.t 13)),
 A 47 (.ixa 1 (.t 45) (.t 46)),
 A 48 (.load 1 false (.t 47)),
 A 49 (.mv (.t 48)),
 ⟨some 50, (.mv (.t 12)), (some (49, false)), 0⟩,
 ⟨some 51, (.mv (.t 13)), (some (49, false)), 0⟩,
 ⟨some 52, (.bin .sub (.c (.int .i64 (-1))) (.t 51)), (some (49, false)), 0⟩,
 ⟨some 53, (.bin .eql (.t 50) (.t 52)), (some (49, false)), 0⟩,
 A 54 (.pick (.t 49) (.c (.bool true)) (.t 53)),
 A 55 (.mv (.t 54)),
 ⟨some 56, (.mv (.t 12)), (some (55, false)), 0⟩,
 ⟨some 57, (.bin .geq (.t 56) (.c (.int .i64 0))), (some (55, false)), 0⟩,
 ⟨some 58, (.mv (.t 57)), (some (55, false)), 0⟩,
 ⟨some 59, (.mv (.t 8)), (some (58, true)), 0⟩,
 ⟨some 60, (.mv (.t 12)), (some (58, true)), 0⟩,
 ⟨some 61, (.ixa 1 (.t 59) (.t 60)), (some (58, true)), 0⟩,
 ⟨some 62, (.load 1 false (.t 61)), (some (58, true)), 0⟩,
 ⟨some 63, (.mv (.t 13)), (some (58, true)), 0⟩,
 ⟨some 64, (.ixa 1 (.t 62) (.t 63)), (some (58, true)), 0⟩,
 ⟨some 65, (.load 1 false (.t 64)), (some (58, true)), 0⟩,
 ⟨some 66, (.pick (.t 58) (.t 65) (.c (.bool false))), (some (55, false)), 0⟩,
 A 67 (.pick (.t 55) (.c (.bool true)) (.t 66)),
 A 68 (.ixa 1 (.t 43) (.t 44)),
 ⟨none, (.store 1 (.t 68) (.t 67)), none, 0⟩] []))
 (.region [A 41 (.mv (.t 13)),
 A 42 (.bin .add (.t 41) (.c (.int .i64 1))),
 A 13 (.mv (.t 42))] []))))))
 (.region [A 69 (.mv (.t 12)),
 A 70 (.bin .geq (.t 69) (.c (.int .i64 0))),
 A 71 (.mv (.t 70)),
 ⟨some 72, (.mv (.t 7)), (some (71, true)), 0⟩,
 ⟨some 73, (.mv (.t 12)), (some (71, true)), 0⟩,
 ⟨some 74, (.ixa 1 (.t 72) (.t 73)), (some (71, true)), 0⟩,
 ⟨some 75, (.load 1 false (.t 74)), (some (71, true)), 0⟩,
 A 76 (.pick (.t 71) (.t 75) (.c (.bool false))),
 A 10 (.mv (.t 76))] []))))
 (.region [A 30 (.mv (.t 11)),
 A 31 (.bin .add (.t 30) (.c (.int .i64 1))),
 A 11 (.mv (.t 31))] []))))))
 (.seq (.seq (.region [A 77 (.mv (.t 10)),
 A 78 (.mv (.t 77)),
 ⟨some 79, (.mv (.t 2)), (some (78, true)), 0⟩,
 ⟨some 80, (.bin .geq (.t 79) (.c (.int .i64 0))), (some (78, true)), 0⟩,
 A 81 (.pick (.t 78) (.t 80) (.c (.bool false))),
 A 82 (.mv (.t 81)),
 ⟨some 83, (.mv (.t 2)), (some (82, true)), 0⟩,
 ⟨some 84, (.mv (.t 9)), (some (82, true)), 0⟩,
 ⟨some 85, (.len (.t 84)), (some (82, true)), 0⟩,
 ⟨some 86, (.bin .lss (.t 83) (.t 85)), (some (82, true)), 0⟩,
 A 87 (.pick (.t 82) (.t 86) (.c (.bool false)))] [])
 (.cond (.t 87) (.region [A 88 (.mv (.t 9)),
 A 89 (.mv (.t 2)),
 A 90 (.ixa 1 (.t 88) (.t 89)),
 ⟨none, (.store 1 (.t 90) (.c (.bool true))), none, 0⟩] []) .skip))
 (.seq (.region [A 91 (.mv (.t 9)),
 A 92 (.lit 42 1 1 [.nil] [(0, (.t 91))]),
 A 93 (.call 126 [(.t 92)]),
 A 94 (.ixa 1 (.t 93) (.c (.int .i64 0))),
 A 95 (.load 1 false (.t 94)),
 A 14 (.mv (.t 95))] [])
 (.seq (.seq (.region [A 96 (.mv (.t 10)),
 A 97 (.mv (.t 96)),
 ⟨some 98, (.mv (.t 2)), (some (97, true)), 0⟩,
 ⟨some 99, (.bin .eql (.t 98) (.c (.int .i64 1000))), (some (97, true)), 0⟩,
 A 100 (.pick (.t 97) (.t 99) (.c (.bool false)))] [])
 (.cond (.t 100) (.region [A 101 (.mv (.t 14)),
 A 102 (.litF 3 1 1 [(.int .i64 0)] [(0, (.c (.int .i64 1000)))]),
 A 103 (.app 3 1 8 (.t 101) (.t 102)),
 A 14 (.mv (.t 103))] []) .skip))
 (.seq (.region [A 104 (.mv (.t 14)),
 A 6 (.mv (.t 104))] [])
 .ret))))))))) }
def a84 : AFunc :=
 { np := 2, nt := 14, mv := false, res := [(.tmp 4)], code :=
 (.seq (.region [A 2 (.box 63 (.t 0)),
 A 4 (.mv (.c (.bool false)))] [])
 (.seq (.region [A 5 (.load 6 true (.t 2)),
 A 6 (.mv (.t 1)),
 A 7 (.call 127 [(.t 5), (.t 6)]),
 A 8 (.ixa 1 (.t 7) (.c (.int .i64 0))),
 A 9 (.load 1 false (.t 8)),
 A 10 (.mv (.t 1)),
 A 11 (.len (.t 10)),
 A 12 (.ixa 1 (.t 9) (.t 11)),
 A 13 (.load 1 false (.t 12)),
 A 4 (.mv (.t 13))] [])
 .ret)) }
def a85 : AFunc :=
 { np := 1, nt := 27, mv := false, res := [(.cell 2 4 true)], code :=
 (.seq (.region [A 2 (.alloc 60 [(.v (.int .u64 0)), (.v (.int .u64 0)), (.v (.int .u64 0)), (.v (.int .u64 0))])] [])
 (.seq (.region [A 3 (.alloc 60 [(.v (.int .u64 0)), (.v (.int .u64 0)), (.v (.int .u64 0)), (.v (.int .u64 0))])] [])
 (.seq (.seq (.region [A 4 (.mv (.c (.int .i64 0)))] [])
 (.block 0 (.loop [0, 2, 3, 4] (.seq (.seq (.region [A 5 (.mv (.t 4)),
 A 6 (.mv (.t 0)),
 A 7 (.len (.t 6)),
 A 8 (.bin .lss (.t 5) (.t 7))] [])
 (.cond (.t 8) .skip (.exit 0)))
 (.seq (.block 1 (.region [A 11 (.mv (.t 0)),
 A 12 (.mv (.t 4)),
 ⟨some 13, (.ixa 1 (.t 11) (.t 12)), none, 3⟩,
 ⟨some 14, (.load 1 false (.t 13)), none, 7⟩,
 ⟨some 15, (.bin .quo (.t 14) (.c (.int .u8 64))), none, 15⟩,
 ⟨some 16, (.ixp 1 4 (.t 3) (.t 15)), none, 31⟩,
 ⟨some 17, (.load 1 false (.t 16)), none, 63⟩,
 A 18 (.mv (.t 0)),
 A 19 (.mv (.t 4)),
 ⟨some 20, (.ixa 1 (.t 18) (.t 19)), none, 384⟩,
 ⟨some 21, (.load 1 false (.t 20)), none, 896⟩,
 ⟨some 22, (.bin .rem (.t 21) (.c (.int .u8 64))), none, 1920⟩,
 ⟨some 23, (.bin .shl (.c (.int .u64 1)) (.t 22)), none, 3968⟩,
 ⟨some 24, (.bin .or (.t 17) (.t 23)), none, 8191⟩,
 ⟨some 25, (.ixp 1 4 (.t 3) (.t 15)), none, 16383⟩,
 ⟨none, (.store 1 (.t 25) (.t 24)), none, 32767⟩] []))
 (.region [A 9 (.mv (.t 4)),
 A 10 (.bin .add (.t 9) (.c (.int .i64 1))),
 A 4 (.mv (.t 10))] []))))))
 (.seq (.region [A 26 (.load 4 true (.t 3)),
 ⟨none, (.store 4 (.t 2) (.t 26)), none, 0⟩] [])
 .ret)))) }
def a86 : AFunc :=
 { np := 1, nt := 21, mv := false, res := [(.cell 2 4 true)], code :=
 (.seq (.region [A 1 (.box 60 (.t 0)),
 A 2 (.alloc 60 [(.v (.int .u64 0)), (.v (.int .u64 0)), (.v (.int .u64 0)), (.v (.int .u64 0))])] [])
 (.seq (.region [A 3 (.mv (.c .nil))] [])
 (.seq (.seq (.region [A 4 (.mv (.c (.int .i64 0)))] [])
 (.block 0 (.loop [1, 2, 3, 4] (.seq (.seq (.region [A 5 (.mv (.t 4)),
 A 6 (.bin .lss (.t 5) (.c (.int .i64 256)))] [])
 (.cond (.t 6) .skip (.exit 0)))
 (.seq (.block 1 (.seq (.region [A 9 (.load 4 true (.t 1)),
 A 10 (.mv (.t 4)),
 A 11 (.conv .u8 (.t 10)),
 A 12 (.call 128 [(.t 9), (.t 11)]),
 A 13 (.un .not (.t 12))] [])
 (.cond (.t 13) (.region [A 14 (.mv (.t 3)),
 A 15 (.mv (.t 4)),
 A 16 (.conv .u8 (.t 15)),
 A 17 (.litF 5 1 1 [(.int .u8 0)] [(0, (.t 16))]),
 A 18 (.app 5 1 1 (.t 14) (.t 17)),
 A 3 (.mv (.t 18))] []) .skip)))
 (.region [A 7 (.mv (.t 4)),
 A 8 (.bin .add (.t 7) (.c (.int .i64 1))),
 A 4 (.mv (.t 8))] []))))))
 (.seq (.region [A 19 (.mv (.t 3)),
 A 20 (.call 85 [(.t 19)]),
 ⟨none, (.store 4 (.t 2) (.t 20)), none, 0⟩] [])
 .ret)))) }
def a87 : AFunc :=
 { np := 1, nt := 63, mv := false, res := [(.cell 2 5 true), (.tmp 3)], code :=
 (.seq (.region [A 1 (.box 63 (.t 0)),
 A 2 (.alloc 159 [(.v .nil), (.v .nil), (.v .nil), (.v .nil), (.v (.bool false))]),
 A 3 (.mv (.c (.int .i64 0)))] [])
 (.seq (.region [A 9 (.load 6 true (.t 1)),
 A 10 (.call 129 [(.t 9)]),
 A 4 (.mv (.t 10))] [])
 (.seq (.seq (.region [A 11 (.mv (.t 4)),
 A 12 (.bin .neq (.t 11) (.c (.int .i64 0)))] [])
 (.cond (.t 12) (.seq (.region [A 13 (.build [.nil, .nil, .nil, .nil, (.bool false)] []),
 A 14 (.mv (.t 4)),
 ⟨none, (.store 5 (.t 2) (.t 13)), none, 0⟩,
 A 3 (.mv (.t 14))] [])
 .ret) .skip))
 (.seq (.region [A 15 (.build [.nil, .nil, .nil, .nil, (.bool false)] []),
 A 16 (.box 159 (.t 15)),
 A 5 (.mv (.t 16))] [])
 (.seq (.region [A 17 (.mv (.t 5)),
 A 18 (.load 6 true (.t 1)),
 A 19 (.call 130 [(.t 17), (.t 18)]),
 A 6 (.alloc 159 [(.v .nil), (.v .nil), (.v .nil), (.v .nil), (.v (.bool false))]),
 ⟨none, (.store 5 (.t 6) (.t 19)), none, 0⟩] [])
 (.seq (.seq (.region [A 20 (.mv (.t 5)),
 A 21 (.chk (.t 20)),
 A 22 (.fld 0 (.t 21)),
 A 23 (.load 1 false (.t 22)),
 A 24 (.len (.t 23)),
 A 25 (.bin .gtr (.t 24) (.c (.int .i64 40)))] [])
 (.cond (.t 25) (.seq (.region [A 26 (.build [.nil, .nil, .nil, .nil, (.bool false)] []),
 ⟨none, (.store 5 (.t 2) (.t 26)), none, 0⟩,
 A 3 (.mv (.c (.int .i64 6)))] [])
 .ret) .skip))
 (.seq (.region [A 27 (.mv (.t 5)),
 ⟨some 28, (.chk (.t 27)), none, 1⟩,
 ⟨some 29, (.fld 0 (.t 28)), none, 3⟩,
 ⟨some 30, (.load 1 false (.t 29)), none, 7⟩,
 A 31 (.fld 1 (.t 6)),
 ⟨some 32, (.load 1 false (.t 31)), none, 16⟩,
 ⟨some 33, (.call 131 [(.t 32)]), none, 48⟩,
 A 34 (.fld 2 (.t 6)),
 ⟨some 35, (.load 1 false (.t 34)), none, 128⟩,
 ⟨some 36, (.call 131 [(.t 35)]), none, 496⟩,
 A 37 (.fld 4 (.t 6)),
 ⟨some 38, (.load 1 false (.t 37)), none, 1024⟩,
 ⟨some 39, (.build [.nil, .nil, .nil, .nil, (.bool false)] [(0, 1, (.t 30)), (1, 1, (.t 33)), (2, 1, (.t 36)), (4, 1, (.t 38))]), none, 4095⟩,
 A 7 (.galloc 159 5),
 ⟨some 7, (.gstore 159 5 7 (.t 39)), none, 16383⟩] [(0, 6), (0, 9), (1, 6), (1, 9), (2, 6), (2, 9), (3, 6), (3, 9), (7, 6), (8, 6), (10, 6), (10, 9), (11, 6), (11, 9), (13, 6), (13, 9)])
 (.seq (.seq (.region [A 8 (.mv (.c (.int .i64 0)))] [])
 (.block 0 (.loop [2, 5, 7, 8] (.seq (.seq (.region [A 40 (.mv (.t 8)),
 A 41 (.mv (.t 5)),
 A 42 (.chk (.t 41)),
 A 43 (.fld 3 (.t 42)),
 A 44 (.load 1 false (.t 43)),
 A 45 (.len (.t 44)),
 A 46 (.bin .lss (.t 40) (.t 45))] [])
 (.cond (.t 46) .skip (.exit 0)))
 (.seq (.block 1 (.region [A 49 (.fld 3 (.t 7)),
 ⟨some 50, (.load 1 false (.t 49)), none, 1⟩,
 A 51 (.mv (.t 5)),
 ⟨some 52, (.chk (.t 51)), none, 4⟩,
 ⟨some 53, (.fld 3 (.t 52)), none, 12⟩,
 ⟨some 54, (.load 1 false (.t 53)), none, 28⟩,
 A 55 (.mv (.t 8)),
 ⟨some 56, (.ixa 1 (.t 54) (.t 55)), none, 124⟩,
 ⟨some 57, (.load 1 false (.t 56)), none, 252⟩,
 ⟨some 58, (.call 131 [(.t 57)]), none, 508⟩,
 ⟨some 59, (.lit 53 1 1 [.nil] [(0, (.t 58))]), none, 1020⟩,
 ⟨some 60, (.app 53 1 24 (.t 50) (.t 59)), none, 2047⟩,
 ⟨some 61, (.fld 3 (.t 7)), none, 4095⟩,
 ⟨none, (.store 1 (.t 61) (.t 60)), none, 8191⟩] [(0, 9), (0, 10), (1, 9), (1, 10)]))
 (.region [A 47 (.mv (.t 8)),
 A 48 (.bin .add (.t 47) (.c (.int .i64 1))),
 A 8 (.mv (.t 48))] []))))))
 (.seq (.region [A 62 (.load 5 true (.t 7)),
 ⟨none, (.store 5 (.t 2) (.t 62)), none, 0⟩,
 A 3 (.mv (.c (.int .i64 0)))] [])
 .ret))))))))) }
def a88 : AFunc :=
 { np := 2, nt := 19, mv := false, res := [(.tmp 4)], code :=
 (.seq (.region [A 4 (.mv (.c (.int .i64 0)))] [])
 (.seq (.seq (.region [A 5 (.mv (.c (.int .i64 0)))] [])
 (.block 0 (.loop [0, 1, 5] (.seq (.seq (.region [A 6 (.mv (.t 5)),
 A 7 (.mv (.t 0)),
 A 8 (.len (.t 7)),
 A 9 (.bin .lss (.t 6) (.t 8))] [])
 (.cond (.t 9) .skip (.exit 0)))
 (.seq (.block 1 (.seq (.region [A 12 (.mv (.t 0)),
 A 13 (.mv (.t 5)),
 A 14 (.ixa 1 (.t 12) (.t 13)),
 A 15 (.load 1 false (.t 14)),
 A 16 (.mv (.t 1)),
 A 17 (.bin .eql (.t 15) (.t 16))] [])
 (.cond (.t 17) (.seq (.region [A 18 (.mv (.t 5)),
 A 4 (.mv (.t 18))] [])
 .ret) .skip)))
 (.region [A 10 (.mv (.t 5)),
 A 11 (.bin .add (.t 10) (.c (.int .i64 1))),
 A 5 (.mv (.t 11))] []))))))
 (.seq (.region [A 4 (.mv (.c (.int .i64 (-1))))] [])
 .ret))) }
def a89 : AFunc :=
 { np := 0, nt := 2, mv := false, res := [(.tmp 0)], code :=
 (.seq (.region [A 0 (.mv (.c (.float .f64 0)))] [])
 (.seq (.region [A 1 (.fof (.c (.int .u64 9221120237041090561))),
 A 0 (.mv (.t 1))] [])
 .ret)) }
def a93 : AFunc :=
 { np := 1, nt := 37, mv := false, res := [], code :=
 (.seq (.region [A 1 (.box 30 (.t 0))] [])
 (.seq (.region [A 2 (.fld 0 (.t 1)),
 A 3 (.load 1 false (.t 2)),
 A 4 (.len (.t 3)),
 A 5 (.fld 1 (.t 1)),
 A 6 (.load 1 false (.t 5)),
 A 7 (.len (.t 6)),
 A 8 (.fld 3 (.t 1)),
 A 9 (.load 1 false (.t 8)),
 A 10 (.len (.t 9)),
 A 11 (.mn3 (.t 4) (.t 7) (.t 10)),
 A 12 (.bin .gtr (.t 11) (.c (.int .i64 0))),
 A 13 (.call 99 [(.t 12), (.c (.int .i64 0))])] [])
 (.region [A 14 (.fld 0 (.t 1)),
 A 15 (.load 1 false (.t 14)),
 A 16 (.len (.t 15)),
 A 17 (.bin .leq (.t 16) (.c (.int .i64 10))),
 A 18 (.mv (.t 17)),
 ⟨some 19, (.fld 1 (.t 1)), (some (18, true)), 0⟩,
 ⟨some 20, (.load 1 false (.t 19)), (some (18, true)), 0⟩,
 ⟨some 21, (.len (.t 20)), (some (18, true)), 0⟩,
 ⟨some 22, (.bin .leq (.t 21) (.c (.int .i64 12))), (some (18, true)), 0⟩,
 A 23 (.pick (.t 18) (.t 22) (.c (.bool false))),
 A 24 (.mv (.t 23)),
 ⟨some 25, (.fld 2 (.t 1)), (some (24, true)), 0⟩,
 ⟨some 26, (.load 1 false (.t 25)), (some (24, true)), 0⟩,
 ⟨some 27, (.len (.t 26)), (some (24, true)), 0⟩,
 ⟨some 28, (.bin .leq (.t 27) (.c (.int .i64 6))), (some (24, true)), 0⟩,
 A 29 (.pick (.t 24) (.t 28) (.c (.bool false))),
 A 30 (.mv (.t 29)),
 ⟨some 31, (.fld 3 (.t 1)), (some (30, true)), 0⟩,
 ⟨some 32, (.load 1 false (.t 31)), (some (30, true)), 0⟩,
 ⟨some 33, (.len (.t 32)), (some (30, true)), 0⟩,
 ⟨some 34, (.bin .leq (.t 33) (.c (.int .i64 24))), (some (30, true)), 0⟩,
 A 35 (.pick (.t 30) (.t 34) (.c (.bool false))),
 A 36 (.call 99 [(.t 35), (.c (.int .i64 0))])] []))) }
def a94 : AFunc :=
 { np := 1, nt := 43, mv := false, res := [], code :=
 (.seq (.region [A 1 (.box 30 (.t 0))] [])
 (.seq (.region [A 6 (.fld 0 (.t 1)),
 A 7 (.load 1 false (.t 6)),
 A 8 (.len (.t 7)),
 A 9 (.mv (.c (.int .i64 0)))] [])
 (.block 0 (.loop [1, 7, 8, 9, 24, 25, 26, 27, 28, 29, 32, 33, 36, 37, 38] (.seq (.region [A 10 (.bin .lss (.t 9) (.t 8))] [])
 (.seq (.cond (.t 10) .skip (.exit 0))
 (.seq (.block 1 (.seq (.region [A 11 (.mv (.t 9)),
 A 12 (.ixa 8 (.t 7) (.t 9)),
 A 13 (.load 8 true (.t 12)),
 A 3 (.alloc 65 [(.v (.str ⟨#[]⟩)), (.v (.int .i64 0)), (.v (.int .u64 0)), (.v (.int .u64 0)), (.v (.int .u64 0)), (.v (.int .u64 0)), (.v .nil), (.v (.bool false))]),
 A 2 (.mv (.t 11)),
 ⟨none, (.store 8 (.t 3) (.t 13)), none, 0⟩] [])
 (.seq (.region [A 15 (.fld 1 (.t 3)),
 A 16 (.load 6 true (.t 15)),
 A 17 (.call 134 [(.t 16)]),
 A 14 (.mv (.t 17)),
 A 18 (.ext (.t 14) 0),
 A 19 (.ext (.t 14) 1),
 A 4 (.alloc 219 [(.v .nil), (.v .nil), (.v .nil), (.v .nil), (.v (.bool false))]),
 ⟨none, (.store 5 (.t 4) (.t 18)), none, 0⟩,
 A 5 (.mv (.t 19))] [])
 (.region [A 20 (.fld 0 (.t 3)),
 A 21 (.load 1 false (.t 20)),
 A 22 (.call 135 [(.t 21)]),
 A 23 (.mv (.t 22)),
 ⟨some 24, (.load 7 true (.t 1)), (some (23, true)), 0⟩,
 ⟨some 25, (.fld 0 (.t 3)), (some (23, true)), 0⟩,
 ⟨some 26, (.load 1 false (.t 25)), (some (23, true)), 0⟩,
 ⟨some 27, (.call 136 [(.t 24), (.t 26)]), (some (23, true)), 0⟩,
 ⟨some 28, (.mv (.t 2)), (some (23, true)), 0⟩,
 ⟨some 29, (.bin .eql (.t 27) (.t 28)), (some (23, true)), 0⟩,
 A 30 (.pick (.t 23) (.t 29) (.c (.bool false))),
 A 31 (.mv (.t 30)),
 ⟨some 32, (.mv (.t 5)), (some (31, true)), 0⟩,
 ⟨some 33, (.bin .eql (.t 32) (.c (.int .i64 0))), (some (31, true)), 0⟩,
 A 34 (.pick (.t 31) (.t 33) (.c (.bool false))),
 A 35 (.mv (.t 34)),
 ⟨some 36, (.fld 4 (.t 4)), (some (35, true)), 0⟩,
 ⟨some 37, (.load 1 false (.t 36)), (some (35, true)), 0⟩,
 ⟨some 38, (.un .not (.t 37)), (some (35, true)), 0⟩,
 A 39 (.pick (.t 35) (.t 38) (.c (.bool false))),
 A 40 (.mv (.t 2)),
 A 41 (.call 99 [(.t 39), (.t 40)])] []))))
 (.region [A 42 (.bin .add (.t 9) (.c (.int .i64 1))),
 A 9 (.mv (.t 42))] [])))))))) }
def a95 : AFunc :=
 { np := 1, nt := 30, mv := false, res := [], code :=
 (.seq (.region [A 1 (.box 30 (.t 0))] [])
 (.seq (.region [A 4 (.fld 1 (.t 1)),
 A 5 (.load 1 false (.t 4)),
 A 6 (.len (.t 5)),
 A 7 (.mv (.c (.int .i64 0)))] [])
 (.block 0 (.loop [1, 5, 6, 7, 15, 16, 17, 18, 21, 22, 23, 24, 25] (.seq (.region [A 8 (.bin .lss (.t 7) (.t 6))] [])
 (.seq (.cond (.t 8) .skip (.exit 0))
 (.seq (.block 1 (.seq (.region [A 9 (.mv (.t 7)),
 A 10 (.ixa 1 (.t 5) (.t 7)),
 A 11 (.load 1 false (.t 10)),
 A 2 (.mv (.t 9)),
 A 3 (.mv (.t 11))] [])
 (.region [A 12 (.mv (.t 3)),
 A 13 (.call 135 [(.t 12)]),
 A 14 (.mv (.t 13)),
 ⟨some 15, (.load 7 true (.t 1)), (some (14, true)), 0⟩,
 ⟨some 16, (.mv (.t 3)), (some (14, true)), 0⟩,
 ⟨some 17, (.call 136 [(.t 15), (.t 16)]), (some (14, true)), 0⟩,
 ⟨some 18, (.bin .lss (.t 17) (.c (.int .i64 0))), (some (14, true)), 0⟩,
 A 19 (.pick (.t 14) (.t 18) (.c (.bool false))),
 A 20 (.mv (.t 19)),
 ⟨some 21, (.load 7 true (.t 1)), (some (20, true)), 0⟩,
 ⟨some 22, (.mv (.t 3)), (some (20, true)), 0⟩,
 ⟨some 23, (.call 137 [(.t 21), (.t 22)]), (some (20, true)), 0⟩,
 ⟨some 24, (.mv (.t 2)), (some (20, true)), 0⟩,
 ⟨some 25, (.bin .eql (.t 23) (.t 24)), (some (20, true)), 0⟩,
 A 26 (.pick (.t 20) (.t 25) (.c (.bool false))),
 A 27 (.mv (.t 2)),
 A 28 (.call 99 [(.t 26), (.t 27)])] [])))
 (.region [A 29 (.bin .add (.t 7) (.c (.int .i64 1))),
 A 7 (.mv (.t 29))] [])))))))) }
def a96 : AFunc :=
 { np := 1, nt := 38, mv := false, res := [], code :=
 (.seq (.region [A 1 (.box 30 (.t 0))] [])
 (.seq (.region [A 6 (.fld 2 (.t 1)),
 A 7 (.load 1 false (.t 6)),
 A 8 (.len (.t 7)),
 A 9 (.mv (.c (.int .i64 0)))] [])
 (.block 0 (.loop [1, 7, 8, 9, 24, 25, 26, 27, 28, 29, 32, 33] (.seq (.region [A 10 (.bin .lss (.t 9) (.t 8))] [])
 (.seq (.cond (.t 10) .skip (.exit 0))
 (.seq (.block 1 (.seq (.region [A 11 (.mv (.t 9)),
 A 12 (.ixa 2 (.t 7) (.t 9)),
 A 13 (.load 2 true (.t 12)),
 A 3 (.alloc 114 [(.v (.str ⟨#[]⟩)), (.v (.str ⟨#[]⟩))]),
 A 2 (.mv (.t 11)),
 ⟨none, (.store 2 (.t 3) (.t 13)), none, 0⟩] [])
 (.seq (.region [A 15 (.fld 1 (.t 3)),
 A 16 (.load 1 false (.t 15)),
 A 17 (.call 138 [(.t 16)]),
 A 14 (.mv (.t 17)),
 A 18 (.ext (.t 14) 0),
 A 19 (.ext (.t 14) 1),
 A 4 (.mv (.t 18)),
 A 5 (.mv (.t 19))] [])
 (.region [A 20 (.fld 0 (.t 3)),
 A 21 (.load 1 false (.t 20)),
 A 22 (.call 135 [(.t 21)]),
 A 23 (.mv (.t 22)),
 ⟨some 24, (.load 7 true (.t 1)), (some (23, true)), 0⟩,
 ⟨some 25, (.fld 0 (.t 3)), (some (23, true)), 0⟩,
 ⟨some 26, (.load 1 false (.t 25)), (some (23, true)), 0⟩,
 ⟨some 27, (.call 139 [(.t 24), (.t 26)]), (some (23, true)), 0⟩,
 ⟨some 28, (.mv (.t 2)), (some (23, true)), 0⟩,
 ⟨some 29, (.bin .eql (.t 27) (.t 28)), (some (23, true)), 0⟩,
 A 30 (.pick (.t 23) (.t 29) (.c (.bool false))),
 A 31 (.mv (.t 30)),
 ⟨some 32, (.mv (.t 5)), (some (31, true)), 0⟩,
 ⟨some 33, (.bin .eql (.t 32) (.c (.int .i64 0))), (some (31, true)), 0⟩,
 A 34 (.pick (.t 31) (.t 33) (.c (.bool false))),
 A 35 (.mv (.t 2)),
 A 36 (.call 99 [(.t 34), (.t 35)])] []))))
 (.region [A 37 (.bin .add (.t 9) (.c (.int .i64 1))),
 A 9 (.mv (.t 37))] [])))))))) }
def a97 : AFunc :=
 { np := 1, nt := 81, mv := false, res := [], code :=
 (.seq (.region [A 1 (.box 30 (.t 0))] [])
 (.seq (.seq (.region [A 7 (.fld 3 (.t 1)),
 A 8 (.load 1 false (.t 7)),
 A 9 (.len (.t 8)),
 A 10 (.mv (.c (.int .i64 0)))] [])
 (.block 0 (.loop [1, 8, 9, 10, 19, 20, 21, 22, 23, 24, 27, 28, 29, 30, 33, 34, 35, 38, 39, 40, 41, 42, 43] (.seq (.region [A 11 (.bin .lss (.t 10) (.t 9))] [])
 (.seq (.cond (.t 11) .skip (.exit 0))
 (.seq (.block 1 (.seq (.region [A 12 (.mv (.t 10)),
 A 13 (.ixa 3 (.t 8) (.t 10)),
 A 14 (.load 3 true (.t 13)),
 A 3 (.alloc 55 [(.v (.int .i64 0)), (.v .nil), (.v (.int .i64 0))]),
 A 2 (.mv (.t 12)),
 ⟨none, (.store 3 (.t 3) (.t 14)), none, 0⟩] [])
 (.seq (.region [A 15 (.fld 0 (.t 3)),
 A 16 (.load 1 false (.t 15)),
 A 17 (.bin .geq (.t 16) (.c (.int .i64 0))),
 A 18 (.mv (.t 17)),
 ⟨some 19, (.fld 0 (.t 3)), (some (18, true)), 0⟩,
 ⟨some 20, (.load 1 false (.t 19)), (some (18, true)), 0⟩,
 ⟨some 21, (.fld 1 (.t 1)), (some (18, true)), 0⟩,
 ⟨some 22, (.load 1 false (.t 21)), (some (18, true)), 0⟩,
 ⟨some 23, (.len (.t 22)), (some (18, true)), 0⟩,
 ⟨some 24, (.bin .lss (.t 20) (.t 23)), (some (18, true)), 0⟩,
 A 25 (.pick (.t 18) (.t 24) (.c (.bool false))),
 A 26 (.mv (.t 25)),
 ⟨some 27, (.fld 1 (.t 3)), (some (26, true)), 0⟩,
 ⟨some 28, (.load 1 false (.t 27)), (some (26, true)), 0⟩,
 ⟨some 29, (.len (.t 28)), (some (26, true)), 0⟩,
 ⟨some 30, (.bin .leq (.t 29) (.c (.int .i64 6))), (some (26, true)), 0⟩,
 A 31 (.pick (.t 26) (.t 30) (.c (.bool false))),
 A 32 (.mv (.t 31)),
 ⟨some 33, (.fld 2 (.t 3)), (some (32, true)), 0⟩,
 ⟨some 34, (.load 1 false (.t 33)), (some (32, true)), 0⟩,
 ⟨some 35, (.bin .geq (.t 34) (.c (.int .i64 (-1)))), (some (32, true)), 0⟩,
 A 36 (.pick (.t 32) (.t 35) (.c (.bool false))),
 A 37 (.mv (.t 36)),
 ⟨some 38, (.fld 2 (.t 3)), (some (37, true)), 0⟩,
 ⟨some 39, (.load 1 false (.t 38)), (some (37, true)), 0⟩,
 ⟨some 40, (.fld 2 (.t 1)), (some (37, true)), 0⟩,
 ⟨some 41, (.load 1 false (.t 40)), (some (37, true)), 0⟩,
 ⟨some 42, (.len (.t 41)), (some (37, true)), 0⟩,
 ⟨some 43, (.bin .lss (.t 39) (.t 42)), (some (37, true)), 0⟩,
 A 44 (.pick (.t 37) (.t 43) (.c (.bool false))),
 A 45 (.mv (.t 2)),
 A 46 (.call 99 [(.t 44), (.t 45)])] [])
 (.seq (.region [A 47 (.fld 1 (.t 3)),
 A 48 (.load 1 false (.t 47)),
 A 49 (.len (.t 48)),
 A 50 (.mv (.c (.int .i64 0)))] [])
 (.block 2 (.loop [1, 2, 8, 9, 10, 19, 20, 21, 22, 23, 24, 27, 28, 29, 30, 33, 34, 35, 38, 39, 40, 41, 42, 43, 48, 49, 50] (.seq (.region [A 51 (.bin .lss (.t 50) (.t 49))] [])
 (.seq (.cond (.t 51) .skip (.exit 2))
 (.seq (.block 3 (.seq (.region [A 52 (.ixa 1 (.t 48) (.t 50)),
 A 53 (.load 1 false (.t 52)),
 A 5 (.mv (.t 53))] [])
 (.region [A 54 (.load 7 true (.t 1)),
 A 55 (.mv (.t 5)),
 A 56 (.call 140 [(.t 54), (.t 55)]),
 A 57 (.mv (.t 2)),
 A 58 (.call 99 [(.t 56), (.t 57)])] [])))
 (.region [A 59 (.bin .add (.t 50) (.c (.int .i64 1))),
 A 50 (.mv (.t 59))] []))))))))))
 (.region [A 60 (.bin .add (.t 10) (.c (.int .i64 1))),
 A 10 (.mv (.t 60))] [])))))))
 (.seq (.seq (.region [A 61 (.fld 1 (.t 1)),
 A 62 (.load 1 false (.t 61)),
 A 63 (.len (.t 62)),
 A 64 (.mv (.c (.int .i64 0)))] [])
 (.block 4 (.loop [1, 63, 64] (.seq (.region [A 65 (.bin .lss (.t 64) (.t 63))] [])
 (.seq (.cond (.t 65) .skip (.exit 4))
 (.seq (.block 5 (.seq (.region [A 66 (.mv (.t 64)),
 A 6 (.alloc 3 [(.v (.int .i64 0))]),
 ⟨none, (.store 1 (.t 6) (.t 66)), none, 0⟩] [])
 (.region [A 67 (.fld 3 (.t 1)),
 ⟨some 68, (.load 1 false (.t 67)), none, 1⟩,
 A 69 (.mkf 142 [(.t 6)]),
 ⟨some 70, (.call 141 [(.t 68), (.t 69)]), none, 7⟩,
 A 71 (.load 1 false (.t 6)),
 ⟨some 72, (.call 99 [(.t 70), (.t 71)]), none, 31⟩] [(4, 3)])))
 (.region [A 73 (.bin .add (.t 64) (.c (.int .i64 1))),
 A 64 (.mv (.t 73))] [])))))))
 (.region [A 74 (.fld 3 (.t 1)),
 A 75 (.load 1 false (.t 74)),
 A 76 (.ixa 3 (.t 75) (.c (.int .i64 0))),
 A 77 (.fld 0 (.t 76)),
 A 78 (.load 1 false (.t 77)),
 A 79 (.bin .eql (.t 78) (.c (.int .i64 0))),
 A 80 (.call 99 [(.t 79), (.c (.int .i64 0))])] [])))) }
def a98 : AFunc :=
 { np := 1, nt := 38, mv := false, res := [], code :=
 (.seq (.region [A 1 (.box 30 (.t 0))] [])
 (.seq (.region [A 5 (.fld 4 (.t 1)),
 A 6 (.load 1 false (.t 5)),
 A 7 (.fld 5 (.t 1)),
 A 8 (.load 1 false (.t 7)),
 A 9 (.lit 28 1 2 [.nil] [(0, (.t 6)), (1, (.t 8))]),
 A 10 (.call 143 [(.t 9)]),
 A 2 (.mv (.t 10))] [])
 (.seq (.region [A 11 (.mv (.t 2)),
 A 12 (.len (.t 11)),
 A 13 (.bin .gtr (.t 12) (.c (.int .i64 0))),
 A 14 (.mv (.t 13)),
 ⟨some 15, (.fld 4 (.t 1)), (some (14, true)), 0⟩,
 ⟨some 16, (.load 1 false (.t 15)), (some (14, true)), 0⟩,
 ⟨some 17, (.len (.t 16)), (some (14, true)), 0⟩,
 ⟨some 18, (.fld 5 (.t 1)), (some (14, true)), 0⟩,
 ⟨some 19, (.load 1 false (.t 18)), (some (14, true)), 0⟩,
 ⟨some 20, (.len (.t 19)), (some (14, true)), 0⟩,
 ⟨some 21, (.mx (.t 17) (.t 20)), (some (14, true)), 0⟩,
 ⟨some 22, (.bin .leq (.t 21) (.c (.int .i64 3))), (some (14, true)), 0⟩,
 A 23 (.pick (.t 14) (.t 22) (.c (.bool false))),
 A 24 (.call 99 [(.t 23), (.c (.int .i64 0))])] [])
 (.seq (.region [A 25 (.mv (.t 2)),
 A 26 (.len (.t 25)),
 A 27 (.mv (.c (.int .i64 0)))] [])
 (.block 0 (.loop [25, 26, 27] (.seq (.region [A 28 (.bin .lss (.t 27) (.t 26))] [])
 (.seq (.cond (.t 28) .skip (.exit 0))
 (.seq (.block 1 (.seq (.region [A 29 (.mv (.t 27)),
 A 30 (.ixa 4 (.t 25) (.t 27)),
 A 31 (.load 4 true (.t 30)),
 A 4 (.alloc 60 [(.v (.int .u64 0)), (.v (.int .u64 0)), (.v (.int .u64 0)), (.v (.int .u64 0))]),
 A 3 (.mv (.t 29)),
 ⟨none, (.store 4 (.t 4) (.t 31)), none, 0⟩] [])
 (.region [A 32 (.load 4 true (.t 4)),
 A 33 (.build [(.int .u64 0), (.int .u64 0), (.int .u64 0), (.int .u64 0)] []),
 A 34 (.eqA 4 true (.t 32) (.t 33)),
 A 35 (.mv (.t 3)),
 A 36 (.call 99 [(.t 34), (.t 35)])] [])))
 (.region [A 37 (.bin .add (.t 27) (.c (.int .i64 1))),
 A 27 (.mv (.t 37))] [])))))))))) }
def a99 : AFunc :=
 { np := 2, nt := 9, mv := false, res := [], code :=
 (.seq (.region [A 4 (.mv (.t 0)),
 A 5 (.un .not (.t 4))] [])
 (.cond (.t 5) (.region [A 6 (.mv (.t 1)),
 A 7 (.build [(.int .i64 0)] [(0, 1, (.t 6))]),
 A 8 (.iface 167 (.t 7)),
 ⟨none, (.panic (.t 8)), none, 0⟩] []) .skip)) }
def a100 : AFunc :=
 { np := 2, nt := 9, mv := false, res := [(.tmp 4)], code :=
 (.seq (.region [A 4 (.mv (.c (.bool false)))] [])
 (.seq (.region [A 5 (.mv (.t 0)),
 A 6 (.mv (.t 1)),
 A 7 (.call 144 [(.t 5), (.t 6)]),
 A 8 (.bin .geq (.t 7) (.c (.int .i64 0))),
 A 4 (.mv (.t 8))] [])
 .ret)) }
def a101 : AFunc :=
 { np := 1, nt := 6, mv := false, res := [(.tmp 2)], code :=
 (.seq (.region [A 1 (.box 65 (.t 0)),
 A 2 (.mv (.c (.bool false)))] [])
 (.seq (.region [A 3 (.fld 7 (.t 1)),
 A 4 (.load 1 false (.t 3)),
 A 5 (.un .not (.t 4)),
 A 2 (.mv (.t 5))] [])
 .ret)) }
def a102 : AFunc :=
 { np := 2, nt := 19, mv := false, res := [(.tmp 4)], code :=
 (.seq (.region [A 4 (.mv (.c (.int .i64 0)))] [])
 (.seq (.seq (.region [A 6 (.mv (.t 0)),
 A 7 (.len (.t 6)),
 A 8 (.mv (.c (.int .i64 0)))] [])
 (.block 0 (.loop [0, 1, 7, 8] (.seq (.region [A 9 (.bin .lss (.t 8) (.t 7))] [])
 (.seq (.cond (.t 9) .skip (.exit 0))
 (.seq (.block 1 (.seq (.region [A 10 (.mv (.t 8)),
 A 5 (.mv (.t 10))] [])
 (.seq (.region [A 11 (.mv (.t 1)),
 A 12 (.mv (.t 0)),
 A 13 (.mv (.t 5)),
 A 14 (.ixa 3 (.t 12) (.t 13)),
 A 15 (.load 3 true (.t 14)),
 A 16 (.callv (.t 11) [(.t 15)])] [])
 (.cond (.t 16) (.seq (.region [A 17 (.mv (.t 5)),
 A 4 (.mv (.t 17))] [])
 .ret) .skip))))
 (.region [A 18 (.bin .add (.t 8) (.c (.int .i64 1))),
 A 8 (.mv (.t 18))] [])))))))
 (.seq (.region [A 4 (.mv (.c (.int .i64 (-1))))] [])
 .ret))) }
def a103 : AFunc :=
 { np := 1, nt := 12, mv := false, res := [(.tmp 2)], code :=
 (.seq (.region [A 1 (.box 30 (.t 0)),
 A 2 (.mv (.c (.bool false)))] [])
 (.seq (.region [A 6 (.load 7 true (.t 1)),
 A 7 (.call 62 [(.t 6)]),
 A 5 (.mv (.t 7)),
 A 8 (.ext (.t 5) 0),
 A 9 (.ext (.t 5) 1),
 A 3 (.mv (.t 8)),
 A 4 (.mv (.t 9))] [])
 (.seq (.region [A 10 (.mv (.t 4)),
 A 11 (.bin .eql (.t 10) (.c (.int .i64 0))),
 A 2 (.mv (.t 11))] [])
 .ret))) }
def a104 : AFunc :=
 { np := 2, nt := 9, mv := false, res := [(.tmp 4)], code :=
 (.seq (.region [A 2 (.box 42 (.t 0)),
 A 4 (.mv (.c (.bool false)))] [])
 (.seq (.region [A 5 (.mv (.t 1)),
 A 6 (.mkf 146 [(.t 2)]),
 A 7 (.call 145 [(.t 5), (.t 6)]),
 A 8 (.un .not (.t 7)),
 A 4 (.mv (.t 8))] [])
 .ret)) }
def a105 : AFunc :=
 { np := 2, nt := 60, mv := false, res := [(.tmp 4)], code :=
 (.seq (.region [A 2 (.box 30 (.t 0)),
 A 4 (.mv (.c .nil))] [])
 (.seq (.seq (.region [A 12 (.load 7 true (.t 2)),
 A 13 (.call 103 [(.t 12)]),
 A 14 (.un .not (.t 13))] [])
 (.cond (.t 14) (.seq (.region [A 4 (.mv (.c .nil))] [])
 .ret) .skip))
 (.seq (.region [A 15 (.load 7 true (.t 2)),
 A 16 (.call 66 [(.t 15)]),
 A 5 (.mv (.t 16))] [])
 (.seq (.region [A 17 (.fld 1 (.t 2)),
 A 18 (.load 1 false (.t 17)),
 A 19 (.len (.t 18)),
 A 20 (.mksl 53 1 24 [.nil] (.t 19) (.t 19)),
 A 6 (.mv (.t 20))] [])
 (.seq (.seq (.region [A 7 (.mv (.c (.bool true)))] [])
 (.block 0 (.loop [1, 2, 5, 6, 7] (.seq (.seq (.region [A 21 (.mv (.t 7))] [])
 (.cond (.t 21) .skip (.exit 0)))
 (.block 1 (.seq (.region [A 7 (.mv (.c (.bool false)))] [])
 (.seq (.region [A 22 (.fld 3 (.t 2)),
 A 23 (.load 1 false (.t 22)),
 A 24 (.len (.t 23)),
 A 25 (.mv (.c (.int .i64 0)))] [])
 (.block 2 (.loop [1, 2, 5, 6, 7, 23, 24, 25] (.seq (.region [A 26 (.bin .lss (.t 25) (.t 24))] [])
 (.seq (.cond (.t 26) .skip (.exit 2))
 (.seq (.block 3 (.seq (.region [A 27 (.mv (.t 25)),
 A 28 (.ixa 3 (.t 23) (.t 25)),
 A 29 (.load 3 true (.t 28)),
 A 9 (.alloc 55 [(.v (.int .i64 0)), (.v .nil), (.v (.int .i64 0))]),
 A 8 (.mv (.t 27)),
 ⟨none, (.store 3 (.t 9) (.t 29)), none, 0⟩] [])
 (.seq (.region [A 30 (.mv (.t 5)),
 A 31 (.mv (.t 6)),
 A 32 (.mv (.t 1)),
 A 33 (.mv (.t 8)),
 A 34 (.ixa 1 (.t 32) (.t 33)),
 A 35 (.load 1 false (.t 34)),
 A 36 (.call 147 [(.t 30), (.t 31), (.t 35)]),
 A 10 (.mv (.t 36))] [])
 (.seq (.region [A 37 (.mv (.t 6)),
 A 38 (.fld 0 (.t 9)),
 A 39 (.load 1 false (.t 38)),
 A 40 (.ixa 1 (.t 37) (.t 39)),
 A 41 (.load 1 false (.t 40)),
 A 42 (.mv (.t 10)),
 A 43 (.call 148 [(.t 41), (.t 42)]),
 A 11 (.mv (.t 43))] [])
 (.seq (.region [A 44 (.mv (.t 11)),
 A 45 (.len (.t 44)),
 A 46 (.mv (.t 6)),
 A 47 (.fld 0 (.t 9)),
 A 48 (.load 1 false (.t 47)),
 A 49 (.ixa 1 (.t 46) (.t 48)),
 A 50 (.load 1 false (.t 49)),
 A 51 (.len (.t 50)),
 A 52 (.bin .gtr (.t 45) (.t 51))] [])
 (.cond (.t 52) (.region [A 53 (.mv (.t 6)),
 A 54 (.fld 0 (.t 9)),
 A 55 (.load 1 false (.t 54)),
 A 56 (.mv (.t 11)),
 A 57 (.ixa 1 (.t 53) (.t 55)),
 ⟨none, (.store 1 (.t 57) (.t 56)), none, 0⟩,
 A 7 (.mv (.c (.bool true)))] []) .skip))))))
 (.region [A 58 (.bin .add (.t 25) (.c (.int .i64 1))),
 A 25 (.mv (.t 58))] [])))))))))))))
 (.seq (.region [A 59 (.mv (.t 6)),
 A 4 (.mv (.t 59))] [])
 .ret)))))) }
def a106 : AFunc :=
 { np := 5, nt := 148, mv := false, res := [], code :=
 (.seq (.region [A 10 (.mv (.c (.bool true)))] [])
 (.seq (.region [A 11 (.mv (.c (.bool true)))] [])
 (.block 0 (.loop [0, 1, 2, 3, 4, 10, 11, 70, 73, 74, 84, 85, 86, 87, 88, 89, 90, 91, 92, 93, 94, 95, 96] (.block 1 (.seq (.region [A 21 (.mv (.t 2)),
 A 22 (.mv (.t 1)),
 A 23 (.bin .sub (.t 21) (.t 22)),
 A 12 (.mv (.t 23))] [])
 (.seq (.seq (.region [A 24 (.mv (.t 12)),
 A 25 (.bin .leq (.t 24) (.c (.int .i64 12)))] [])
 (.cond (.t 25) (.seq (.region [A 26 (.mv (.t 0)),
 A 27 (.mv (.t 1)),
 A 28 (.mv (.t 2)),
 A 29 (.mv (.t 4)),
 A 30 (.call 149 [(.t 26), (.t 27), (.t 28), (.t 29)])] [])
 .ret) .skip))
 (.seq (.seq (.region [A 31 (.mv (.t 3)),
 A 32 (.bin .eql (.t 31) (.c (.int .i64 0)))] [])
 (.cond (.t 32) (.seq (.region [A 33 (.mv (.t 0)),
 A 34 (.mv (.t 1)),
 A 35 (.mv (.t 2)),
 A 36 (.mv (.t 4)),
 A 37 (.call 150 [(.t 33), (.t 34), (.t 35), (.t 36)])] [])
 .ret) .skip))
 (.seq (.seq (.region [A 38 (.mv (.t 10)),
 A 39 (.un .not (.t 38))] [])
 (.cond (.t 39) (.seq (.region [A 40 (.mv (.t 0)),
 A 41 (.mv (.t 1)),
 A 42 (.mv (.t 2)),
 A 43 (.mv (.t 4)),
 A 44 (.call 151 [(.t 40), (.t 41), (.t 42), (.t 43)])] [])
 (.region [A 45 (.mv (.t 3)),
 A 46 (.bin .sub (.t 45) (.c (.int .i64 1))),
 A 3 (.mv (.t 46))] [])) .skip))
 (.seq (.region [A 48 (.mv (.t 0)),
 A 49 (.mv (.t 1)),
 A 50 (.mv (.t 2)),
 A 51 (.mv (.t 4)),
 A 52 (.call 152 [(.t 48), (.t 49), (.t 50), (.t 51)]),
 A 47 (.mv (.t 52)),
 A 53 (.ext (.t 47) 0),
 A 54 (.ext (.t 47) 1),
 A 13 (.mv (.t 53)),
 A 14 (.mv (.t 54))] [])
 (.seq (.seq (.region [A 55 (.mv (.t 14)),
 A 56 (.bin .eql (.t 55) (.c (.int .i64 2)))] [])
 (.cond (.t 56) (.seq (.region [A 57 (.mv (.t 0)),
 A 58 (.mv (.t 1)),
 A 59 (.mv (.t 2)),
 A 60 (.mv (.t 4)),
 A 61 (.call 153 [(.t 57), (.t 58), (.t 59), (.t 60)])] [])
 (.seq (.region [A 62 (.mv (.t 2)),
 A 63 (.bin .sub (.t 62) (.c (.int .i64 1))),
 A 64 (.mv (.t 13)),
 A 65 (.mv (.t 1)),
 A 66 (.bin .sub (.t 64) (.t 65)),
 A 67 (.bin .sub (.t 63) (.t 66)),
 A 13 (.mv (.t 67))] [])
 (.region [A 14 (.mv (.c (.int .i64 1)))] []))) .skip))
 (.seq (.seq (.region [A 68 (.mv (.t 10)),
 A 69 (.mv (.t 68)),
 ⟨some 70, (.mv (.t 11)), (some (69, true)), 0⟩,
 A 71 (.pick (.t 69) (.t 70) (.c (.bool false))),
 A 72 (.mv (.t 71)),
 ⟨some 73, (.mv (.t 14)), (some (72, true)), 0⟩,
 ⟨some 74, (.bin .eql (.t 73) (.c (.int .i64 1))), (some (72, true)), 0⟩,
 A 75 (.pick (.t 72) (.t 74) (.c (.bool false)))] [])
 (.cond (.t 75) (.seq (.region [A 76 (.mv (.t 0)),
 A 77 (.mv (.t 1)),
 A 78 (.mv (.t 2)),
 A 79 (.mv (.t 4)),
 A 80 (.call 154 [(.t 76), (.t 77), (.t 78), (.t 79)])] [])
 (.cond (.t 80) .ret .skip)) .skip))
 (.seq (.seq (.region [A 81 (.mv (.t 1)),
 ⟨some 82, (.bin .gtr (.t 81) (.c (.int .i64 0))), none, 1⟩,
 ⟨some 83, (.mv (.t 82)), none, 3⟩,
 ⟨some 84, (.mv (.t 4)), (some (83, true)), 7⟩,
 ⟨some 85, (.mv (.t 0)), (some (83, true)), 7⟩,
 ⟨some 86, (.mv (.t 1)), (some (83, true)), 7⟩,
 ⟨some 87, (.bin .sub (.t 86) (.c (.int .i64 1))), (some (83, true)), 39⟩,
 ⟨some 88, (.ixa 3 (.t 85) (.t 87)), (some (83, true)), 119⟩,
 ⟨some 89, (.load 3 true (.t 88)), (some (83, true)), 247⟩,
 ⟨some 90, (.mv (.t 0)), (some (83, true)), 7⟩,
 ⟨some 91, (.mv (.t 13)), (some (83, true)), 7⟩,
 ⟨some 92, (.ixa 3 (.t 90) (.t 91)), (some (83, true)), 1543⟩,
 ⟨some 93, (.load 3 true (.t 92)), (some (83, true)), 3591⟩,
 ⟨some 94, (.callv (.t 84) [(.t 89), (.t 93)]), (some (83, true)), 8191⟩,
 ⟨some 95, (.bin .lss (.t 94) (.c (.int .i64 0))), (some (83, true)), 16383⟩,
 ⟨some 96, (.un .not (.t 95)), (some (83, true)), 32767⟩,
 ⟨some 97, (.pick (.t 83) (.t 96) (.c (.bool false))), none, 65535⟩] [])
 (.cond (.t 97) (.seq (.region [A 98 (.mv (.t 0)),
 A 99 (.mv (.t 1)),
 A 100 (.mv (.t 2)),
 A 101 (.mv (.t 13)),
 A 102 (.mv (.t 4)),
 A 103 (.call 155 [(.t 98), (.t 99), (.t 100), (.t 101), (.t 102)]),
 A 15 (.mv (.t 103))] [])
 (.seq (.region [A 104 (.mv (.t 15)),
 A 1 (.mv (.t 104))] [])
 (.exit 1))) .skip))
 (.seq (.region [A 106 (.mv (.t 0)),
 A 107 (.mv (.t 1)),
 A 108 (.mv (.t 2)),
 A 109 (.mv (.t 13)),
 A 110 (.mv (.t 4)),
 A 111 (.call 156 [(.t 106), (.t 107), (.t 108), (.t 109), (.t 110)]),
 A 105 (.mv (.t 111)),
 A 112 (.ext (.t 105) 0),
 A 113 (.ext (.t 105) 1),
 A 16 (.mv (.t 112)),
 A 17 (.mv (.t 113))] [])
 (.seq (.region [A 114 (.mv (.t 17)),
 A 11 (.mv (.t 114))] [])
 (.seq (.region [A 115 (.mv (.t 16)),
 A 116 (.mv (.t 1)),
 A 117 (.bin .sub (.t 115) (.t 116)),
 A 118 (.mv (.t 2)),
 A 119 (.mv (.t 16)),
 A 120 (.bin .sub (.t 118) (.t 119)),
 A 18 (.mv (.t 117)),
 A 19 (.mv (.t 120))] [])
 (.seq (.region [A 121 (.mv (.t 12)),
 A 122 (.bin .quo (.t 121) (.c (.int .i64 8))),
 A 20 (.mv (.t 122))] [])
 (.seq (.region [A 123 (.mv (.t 18)),
 A 124 (.mv (.t 19)),
 A 125 (.bin .lss (.t 123) (.t 124))] [])
 (.cond (.t 125) (.seq (.region [A 126 (.mv (.t 18)),
 A 127 (.mv (.t 20)),
 A 128 (.bin .geq (.t 126) (.t 127)),
 A 10 (.mv (.t 128))] [])
 (.seq (.region [A 129 (.mv (.t 0)),
 A 130 (.mv (.t 1)),
 A 131 (.mv (.t 16)),
 A 132 (.mv (.t 3)),
 A 133 (.mv (.t 4)),
 A 134 (.call 106 [(.t 129), (.t 130), (.t 131), (.t 132), (.t 133)])] [])
 (.region [A 135 (.mv (.t 16)),
 A 136 (.bin .add (.t 135) (.c (.int .i64 1))),
 A 1 (.mv (.t 136))] []))) (.seq (.region [A 137 (.mv (.t 19)),
 A 138 (.mv (.t 20)),
 A 139 (.bin .geq (.t 137) (.t 138)),
 A 10 (.mv (.t 139))] [])
 (.seq (.region [A 140 (.mv (.t 0)),
 A 141 (.mv (.t 16)),
 A 142 (.bin .add (.t 141) (.c (.int .i64 1))),
 A 143 (.mv (.t 2)),
 A 144 (.mv (.t 3)),
 A 145 (.mv (.t 4)),
 A 146 (.call 106 [(.t 140), (.t 142), (.t 143), (.t 144), (.t 145)])] [])
 (.region [A 147 (.mv (.t 16)),
 A 2 (.mv (.t 147))] [])))))))))))))))))))))) }
def a107 : AFunc :=
 { np := 1, nt := 8, mv := false, res := [(.tmp 2)], code :=
 (.seq (.region [A 2 (.mv (.c (.int .i64 0)))] [])
 (.seq (.cond (.c (.bool false)) (.seq (.region [A 3 (.mv (.t 0)),
 A 4 (.conv .u32 (.t 3)),
 A 5 (.call 157 [(.t 4)]),
 A 2 (.mv (.t 5))] [])
 .ret) .skip)
 (.seq (.region [A 6 (.mv (.t 0)),
 A 7 (.call 158 [(.t 6)]),
 A 2 (.mv (.t 7))] [])
 .ret))) }
def a108 : AFunc :=
 { np := 1, nt := 18, mv := false, res := [(.tmp 2)], code :=
 (.seq (.region [A 2 (.mv (.c (.int .i64 0)))] [])
 (.seq (.region [A 3 (.mv (.c (.int .i64 0)))] [])
 (.seq (.seq (.region [A 6 (.mv (.t 0)),
 A 7 (.len (.t 6)),
 A 8 (.mv (.c (.int .i64 0)))] [])
 (.block 0 (.loop [3, 6, 7, 8] (.seq (.region [A 9 (.bin .lss (.t 8) (.t 7))] [])
 (.seq (.cond (.t 9) .skip (.exit 0))
 (.seq (.block 1 (.seq (.region [A 10 (.ixa 1 (.t 6) (.t 8)),
 A 11 (.load 1 false (.t 10)),
 A 5 (.mv (.t 11))] [])
 (.seq (.region [A 12 (.mv (.t 5)),
 A 13 (.mv (.t 3)),
 A 14 (.bin .neq (.t 12) (.t 13))] [])
 (.cond (.t 14) (.seq (.region [A 15 (.mv (.t 5)),
 A 2 (.mv (.t 15))] [])
 .ret) .skip))))
 (.region [A 16 (.bin .add (.t 8) (.c (.int .i64 1))),
 A 8 (.mv (.t 16))] [])))))))
 (.seq (.region [A 17 (.mv (.t 3)),
 A 2 (.mv (.t 17))] [])
 .ret)))) }
def a110 : AFunc :=
 { np := 2, nt := 51, mv := false, res := [(.tmp 4), (.tmp 5)], code :=
 (.seq (.region [A 4 (.mv (.c (.int .u64 0))),
 A 5 (.mv (.c (.int .u64 0)))] [])
 (.seq (.region [A 14 (.mv (.t 0)),
 A 15 (.bin .and (.t 14) (.c (.int .u64 4294967295))),
 A 6 (.mv (.t 15))] [])
 (.seq (.region [A 16 (.mv (.t 0)),
 A 17 (.bin .shr (.t 16) (.c (.int .u64 32))),
 A 7 (.mv (.t 17))] [])
 (.seq (.region [A 18 (.mv (.t 1)),
 A 19 (.bin .and (.t 18) (.c (.int .u64 4294967295))),
 A 8 (.mv (.t 19))] [])
 (.seq (.region [A 20 (.mv (.t 1)),
 A 21 (.bin .shr (.t 20) (.c (.int .u64 32))),
 A 9 (.mv (.t 21))] [])
 (.seq (.region [A 22 (.mv (.t 6)),
 A 23 (.mv (.t 8)),
 A 24 (.bin .mul (.t 22) (.t 23)),
 A 10 (.mv (.t 24))] [])
 (.seq (.region [A 25 (.mv (.t 7)),
 A 26 (.mv (.t 8)),
 A 27 (.bin .mul (.t 25) (.t 26)),
 A 28 (.mv (.t 10)),
 A 29 (.bin .shr (.t 28) (.c (.int .u64 32))),
 A 30 (.bin .add (.t 27) (.t 29)),
 A 11 (.mv (.t 30))] [])
 (.seq (.region [A 31 (.mv (.t 11)),
 A 32 (.bin .and (.t 31) (.c (.int .u64 4294967295))),
 A 12 (.mv (.t 32))] [])
 (.seq (.region [A 33 (.mv (.t 11)),
 A 34 (.bin .shr (.t 33) (.c (.int .u64 32))),
 A 13 (.mv (.t 34))] [])
 (.seq (.region [A 35 (.mv (.t 12)),
 A 36 (.mv (.t 6)),
 A 37 (.mv (.t 9)),
 A 38 (.bin .mul (.t 36) (.t 37)),
 A 39 (.bin .add (.t 35) (.t 38)),
 A 12 (.mv (.t 39))] [])
 (.seq (.region [A 40 (.mv (.t 7)),
 A 41 (.mv (.t 9)),
 A 42 (.bin .mul (.t 40) (.t 41)),
 A 43 (.mv (.t 13)),
 A 44 (.bin .add (.t 42) (.t 43)),
 A 45 (.mv (.t 12)),
 A 46 (.bin .shr (.t 45) (.c (.int .u64 32))),
 A 47 (.bin .add (.t 44) (.t 46)),
 A 4 (.mv (.t 47))] [])
 (.seq (.region [A 48 (.mv (.t 0)),
 A 49 (.mv (.t 1)),
 A 50 (.bin .mul (.t 48) (.t 49)),
 A 5 (.mv (.t 50))] [])
 .ret)))))))))))) }
def a111 : AFunc :=
 { np := 1, nt := 37, mv := false, res := [(.tmp 2), (.tmp 3)], code :=
 (.seq (.region [A 2 (.mv (.c .nil)),
 A 3 (.mv (.c (.bool false)))] [])
 (.seq (.region [A 4 (.mv (.c .nil))] [])
 (.seq (.region [A 5 (.mv (.c (.int .i64 0)))] [])
 (.seq (.seq (.region [A 6 (.mv (.c (.int .i64 0)))] [])
 (.block 0 (.loop [0, 4, 5, 6] (.seq (.seq (.region [A 7 (.mv (.t 6)),
 A 8 (.mv (.t 0)),
 A 9 (.lenS (.t 8)),
 A 10 (.bin .lss (.t 7) (.t 9))] [])
 (.cond (.t 10) .skip (.exit 0)))
 (.seq (.block 1 (.seq (.region [A 13 (.mv (.t 0)),
 A 14 (.mv (.t 6)),
 A 15 (.ixs (.t 13) (.t 14)),
 A 16 (.bin .eql (.t 15) (.c (.int .u8 10)))] [])
 (.cond (.t 16) (.region [A 17 (.mv (.t 4)),
 A 18 (.mv (.t 0)),
 A 19 (.mv (.t 5)),
 A 20 (.mv (.t 6)),
 A 21 (.cutS (.t 18) (some (.t 19)) (some (.t 20))),
 A 22 (.litF 9 1 1 [(.str ⟨#[]⟩)] [(0, (.t 21))]),
 A 23 (.app 9 1 16 (.t 17) (.t 22)),
 A 24 (.mv (.t 6)),
 A 25 (.bin .add (.t 24) (.c (.int .i64 1))),
 A 4 (.mv (.t 23)),
 A 5 (.mv (.t 25))] []) .skip)))
 (.region [A 11 (.mv (.t 6)),
 A 12 (.bin .add (.t 11) (.c (.int .i64 1))),
 A 6 (.mv (.t 12))] []))))))
 (.seq (.seq (.region [A 26 (.mv (.t 5)),
 A 27 (.mv (.t 0)),
 A 28 (.lenS (.t 27)),
 A 29 (.bin .lss (.t 26) (.t 28))] [])
 (.cond (.t 29) (.seq (.region [A 30 (.mv (.t 4)),
 A 31 (.mv (.t 0)),
 A 32 (.mv (.t 5)),
 A 33 (.cutS (.t 31) (some (.t 32)) none),
 A 34 (.litF 9 1 1 [(.str ⟨#[]⟩)] [(0, (.t 33))]),
 A 35 (.app 9 1 16 (.t 30) (.t 34)),
 A 2 (.mv (.t 35)),
 A 3 (.mv (.c (.bool false)))] [])
 .ret) .skip))
 (.seq (.region [A 36 (.mv (.t 4)),
 A 2 (.mv (.t 36)),
 A 3 (.mv (.c (.bool true)))] [])
 .ret)))))) }
def a112 : AFunc :=
 { np := 1, nt := 37, mv := false, res := [(.tmp 2)], code :=
 (.seq (.region [A 2 (.mv (.c .nil))] [])
 (.seq (.region [A 5 (.lit 9 1 1 [(.str ⟨#[]⟩)] [(0, (.c (.str ⟨#[]⟩)))]),
 A 3 (.mv (.t 5))] [])
 (.seq (.seq (.region [A 4 (.mv (.c (.int .i64 0)))] [])
 (.block 0 (.loop [0, 3, 4] (.seq (.seq (.region [A 6 (.mv (.t 4)),
 A 7 (.mv (.t 0)),
 A 8 (.lenS (.t 7)),
 A 9 (.bin .lss (.t 6) (.t 8))] [])
 (.cond (.t 9) .skip (.exit 0)))
 (.seq (.block 1 (.seq (.region [A 12 (.mv (.t 0)),
 A 13 (.mv (.t 4)),
 A 14 (.ixs (.t 12) (.t 13)),
 A 15 (.bin .eql (.t 14) (.c (.int .u8 32)))] [])
 (.cond (.t 15) (.region [A 16 (.mv (.t 3)),
 A 17 (.litF 9 1 1 [(.str ⟨#[]⟩)] [(0, (.c (.str ⟨#[]⟩)))]),
 A 18 (.app 9 1 16 (.t 16) (.t 17)),
 A 3 (.mv (.t 18))] []) (.region [A 19 (.mv (.t 3)),
 A 20 (.mv (.t 3)),
 ⟨some 21, (.len (.t 20)), none, 2⟩,
 ⟨some 22, (.bin .sub (.t 21) (.c (.int .i64 1))), none, 6⟩,
 A 23 (.mv (.t 3)),
 A 24 (.mv (.t 3)),
 ⟨some 25, (.len (.t 24)), none, 32⟩,
 ⟨some 26, (.bin .sub (.t 25) (.c (.int .i64 1))), none, 96⟩,
 ⟨some 27, (.ixa 1 (.t 23) (.t 26)), none, 240⟩,
 ⟨some 28, (.load 1 false (.t 27)), none, 496⟩,
 A 29 (.mv (.t 0)),
 A 30 (.mv (.t 4)),
 A 31 (.mv (.t 4)),
 ⟨some 32, (.bin .add (.t 31) (.c (.int .i64 1))), none, 4096⟩,
 ⟨some 33, (.cutS (.t 29) (some (.t 30)) (some (.t 32))), none, 15360⟩,
 ⟨some 34, (.bin .add (.t 28) (.t 33)), none, 32752⟩,
 ⟨some 35, (.ixa 1 (.t 19) (.t 22)), none, 65535⟩,
 ⟨none, (.store 1 (.t 35) (.t 34)), none, 131071⟩] []))))
 (.region [A 10 (.mv (.t 4)),
 A 11 (.bin .add (.t 10) (.c (.int .i64 1))),
 A 4 (.mv (.t 11))] []))))))
 (.seq (.region [A 36 (.mv (.t 3)),
 A 2 (.mv (.t 36))] [])
 .ret)))) }
def a113 : AFunc :=
 { np := 2, nt := 61, mv := false, res := [(.tmp 4)], code :=
 (.seq (.region [A 4 (.mv (.c (.bool false)))] [])
 (.seq (.seq (.region [A 5 (.mv (.c (.int .i64 0)))] [])
 (.block 0 (.loop [0, 1, 5] (.seq (.seq (.region [A 7 (.mv (.t 5)),
 A 8 (.mv (.t 1)),
 A 9 (.len (.t 8)),
 A 10 (.bin .lss (.t 7) (.t 9))] [])
 (.cond (.t 10) .skip (.exit 0)))
 (.seq (.block 1 (.seq (.region [A 13 (.mv (.t 1)),
 A 14 (.mv (.t 5)),
 A 15 (.ixa 1 (.t 13) (.t 14)),
 A 16 (.load 1 false (.t 15)),
 A 17 (.bin .eql (.t 16) (.c (.str ⟨#[]⟩)))] [])
 (.cond (.t 17) (.seq (.region [A 4 (.mv (.c (.bool false)))] [])
 .ret) .skip)))
 (.region [A 11 (.mv (.t 5)),
 A 12 (.bin .add (.t 11) (.c (.int .i64 1))),
 A 5 (.mv (.t 12))] []))))))
 (.seq (.region [A 18 (.litF 9 1 5 [(.str ⟨#[]⟩)] [(0, (.c (.str ⟨#[116, 111, 107, 101, 110]⟩))), (1, (.c (.str ⟨#[115, 99, 111, 112, 101]⟩))), (2, (.c (.str ⟨#[114, 117, 108, 101]⟩))), (3, (.c (.str ⟨#[115, 121, 110, 99]⟩))), (4, (.c (.str ⟨#[109, 97, 120]⟩)))]),
 A 19 (.mv (.t 1)),
 A 20 (.ixa 1 (.t 19) (.c (.int .i64 0))),
 A 21 (.load 1 false (.t 20)),
 A 22 (.call 88 [(.t 18), (.t 21)]),
 A 6 (.mv (.t 22))] [])
 (.seq (.seq (.region [A 23 (.mv (.t 1)),
 A 24 (.ixa 1 (.t 23) (.c (.int .i64 0))),
 A 25 (.load 1 false (.t 24)),
 A 26 (.bin .eql (.t 25) (.c (.str ⟨#[116, 114, 105, 118, 105, 97]⟩)))] [])
 (.cond (.t 26) (.region [A 6 (.mv (.c (.int .i64 0)))] []) .skip))
 (.seq (.seq (.region [A 27 (.mv (.t 6)),
 A 28 (.mv (.t 0)),
 A 29 (.chk (.t 28)),
 A 30 (.fld 8 (.t 29)),
 A 31 (.load 1 false (.t 30)),
 A 32 (.bin .lss (.t 27) (.t 31))] [])
 (.cond (.t 32) (.seq (.region [A 4 (.mv (.c (.bool false)))] [])
 .ret) .skip))
 (.seq (.region [A 33 (.mv (.t 0)),
 A 34 (.mv (.t 6)),
 A 35 (.chk (.t 33)),
 A 36 (.fld 8 (.t 35)),
 ⟨none, (.store 1 (.t 36) (.t 34)), none, 0⟩] [])
 (.seq (.seq (.region [A 37 (.mv (.t 6))] [])
 (.block 2 (.seq (.region [A 39 (.bin .eql (.t 37) (.c (.int .i64 0))),
 A 38 (.mv (.t 39))] [])
 (.cond (.t 38) (.seq (.region [A 40 (.mv (.t 0)),
 A 41 (.mv (.t 1)),
 A 42 (.call 159 [(.t 40), (.t 41)]),
 A 4 (.mv (.t 42))] [])
 .ret) (.seq (.region [A 44 (.bin .eql (.t 37) (.c (.int .i64 1))),
 A 43 (.mv (.t 44))] [])
 (.cond (.t 43) (.seq (.region [A 45 (.mv (.t 0)),
 A 46 (.mv (.t 1)),
 A 47 (.call 160 [(.t 45), (.t 46)]),
 A 4 (.mv (.t 47))] [])
 .ret) (.seq (.region [A 49 (.bin .eql (.t 37) (.c (.int .i64 2))),
 A 48 (.mv (.t 49))] [])
 (.cond (.t 48) (.seq (.region [A 50 (.mv (.t 0)),
 A 51 (.mv (.t 1)),
 A 52 (.call 161 [(.t 50), (.t 51)]),
 A 4 (.mv (.t 52))] [])
 .ret) (.seq (.region [A 54 (.bin .eql (.t 37) (.c (.int .i64 3))),
 A 53 (.mv (.t 54))] [])
 (.cond (.t 53) (.seq (.region [A 55 (.mv (.t 0)),
 A 56 (.mv (.t 1)),
 A 57 (.call 162 [(.t 55), (.t 56)]),
 A 4 (.mv (.t 57))] [])
 .ret) .skip))))))))))
 (.seq (.region [A 58 (.mv (.t 0)),
 A 59 (.mv (.t 1)),
 A 60 (.call 163 [(.t 58), (.t 59)]),
 A 4 (.mv (.t 60))] [])
 .ret)))))))) }
def a114 : AFunc :=
 { np := 1, nt := 61, mv := false, res := [(.cell 2 256 true)], code :=
 (.seq (.region [A 2 (.alloc 139 [(.v (.int .u8 0)), (.v (.int .u8 0)), (.v (.int .u8 0)), (.v (.int .u8 0)), (.v (.int .u8 0)), (.v (.int .u8 0)), (.v (.int .u8 0)), (.v (.int .u8 0)), (.v (.int .u8 0)), (.v (.int .u8 0)), (.v (.int .u8 0)), (.v (.int .u8 0)), (.v (.int .u8 0)), (.v (.int .u8 0)), (.v (.int .u8 0)), (.v (.int .u8 0)), (.v (.int .u8 0)), (.v (.int .u8 0)), (.v (.int .u8 0)), (.v (.int .u8 0)), (.v (.int .u8 0)), (.v (.int .u8 0)), (.v (.int .u8 0)), (.v (.int .u8 0)), (.v (.int .u8 0)), (.v (.int .u8 0)), (.v (.int .u8 0)), (.v (.int .u8 0)), (.v (.int .u8 0)), (.v (.int .u8 0)), (.v (.int .u8 0)), (.v (.int .u8 0)), (.v (.int .u8 0)), (.v (.int .u8 0)), (.v (.int .u8 0)), (.v (.int .u8 0)), (.v (.int .u8 0)), (.v (.int .u8 0)), (.v (.int .u8 0)), (.v (.int .u8 0)), (.v (.int .u8 0)), (.v (.int .u8 0)), (.v (.int .u8 0)), (.v (.int .u8 0)), (.v (.int .u8 0)), (.v (.int .u8 0)), (.v (.int .u8 0)), (.v (.int .u8 0)), (.v (.int .u8 0)), (.v (.int .u8 0)), (.v (.int .u8 0)), (.v (.int .u8 0)), (.v (.int .u8 0)), (.v (.int .u8 0)), (.v (.int .u8 0)), (.v (.int .u8 0)), (.v (.int .u8 0)), (.v (.int .u8 0)), (.v (.int .u8 0)), (.v (.int .u8 0)), (.v (.int .u8 0)), (.v (.int .u8 0)), (.v (.int .u8 0)), (.v (.int .u8 0)), (.v (.int .u8 0)), (.v (.int .u8 0)), (.v (.int .u8 0)), (.v (.int .u8 0)), (.v (.int .u8 0)), (.v (.int .u8 0)), (.v (.int .u8 0)), (.v (.int .u8 0)), (.v (.int .u8 0)), (.v (.int .u8 0)), (.v (.int .u8 0)), (.v (.int .u8 0)), (.v (.int .u8 0)), (.v (.int .u8 0)), (.v (.int .u8 0)), (.v (.int .u8 0)), (.v (.int .u8 0)), (.v (.int .u8 0)), (.v (.int .u8 0)), (.v (.int .u8 0)), (.v (.int .u8 0)), (.v (.int .u8 0)), (.v (.int .u8 0)), (.v (.int .u8 0)), (.v (.int .u8 0)), (.v (.int .u8 0)), (.v (.int .u8 0)), (.v (.int .u8 0)), (.v (.int .u8 0)), (.v (.int .u8 0)), (.v (.int .u8 0)), (.v (.int .u8 0)), (.v (.int .u8 0)), (.v (.int .u8 0)), (.v (.int .u8 0)), (.v (.int .u8 0)), (.v (.int .u8 0)), (.v (.int .u8 0)), (.v (.int .u8 0)), (.v (.int .u8 0)), (.v (.int .u8 0)), (.v (.int .u8 0)), (.v (.int .u8 0)), (.v (.int .u8 0)), (.v (.int .u8 0)), (.v (.int .u8 0)), (.v (.int .u8 0)), (.v (.int .u8 0)), (.v (.int .u8 0)), (.v (.int .u8 0)), (.v (.int .u8 0)), (.v (.int .u8 0)), (.v (.int .u8 0)), (.v (.int .u8 0)), (.v (.int .u8 0)), (.v (.int .u8 0)), (.v (.int .u8 0)), (.v (.int .u8 0)), (.v (.int .u8 0)), (.v (.int .u8 0)), (.v (.int .u8 0)), (.v (.int .u8 0)), (.v (.int .u8 0)), (.v (.int .u8 0)), (.v (.int .u8 0)), (.v (.int .u8 0)), (.v (.int .u8 0)), (.v (.int .u8 0)), (.v (.int .u8 0)), (.v (.int .u8 0)), (.v (.int .u8 0)), (.v (.int .u8 0)), (.v (.int .u8 0)), (.v (.int .u8 0)), (.v (.int .u8 0)), (.v (.int .u8 0)), (.v (.int .u8 0)), (.v (.int .u8 0)), (.v (.int .u8 0)), (.v (.int .u8 0)), (.v (.int .u8 0)), (.v (.int .u8 0)), (.v (.int .u8 0)), (.v (.int .u8 0)), (.v (.int .u8 0)), (.v (.int .u8 0)), (.v (.int .u8 0)), (.v (.int .u8 0)), (.v (.int .u8 0)), (.v (.int .u8 0)), (.v (.int .u8 0)), (.v (.int .u8 0)), (.v (.int .u8 0)), (.v (.int .u8 0)), (.v (.int .u8 0)), (.v (.int .u8 0)), (.v (.int .u8 0)), (.v (.int .u8 0)), (.v (.int .u8 0)), (.v (.int .u8 0)), (.v (.int .u8 0)), (.v (.int .u8 0)), (.v (.int .u8 0)), (.v (.int .u8 0)), (.v (.int .u8 0)), (.v (.int .u8 0)), (.v (.int .u8 0)), (.v (.int .u8 0)), (.v (.int .u8 0)), (.v (.int .u8 0)), (.v (.int .u8 0)), (.v (.int .u8 0)), (.v (.int .u8 0)), (.v (.int .u8 0)), (.v (.int .u8 0)), (.v (.int .u8 0)), (.v (.int .u8 0)), (.v (.int .u8 0)), (.v (.int .u8 0)), (.v (.int .u8 0)), (.v (.int .u8 0)), (.v (.int .u8 0)), (.v (.int .u8 0)), (.v (.int .u8 0)), (.v (.int .u8 0)), (.v (.int .u8 0)), (.v (.int .u8 0)), (.v (.int .u8 0)), (.v (.int .u8 0)), (.v (.int .u8 0)), (.v (.int .u8 0)), (.v (.int .u8 0)), (.v (.int .u8 0)), (.v (.int .u8 0)), (.v (.int .u8 0)), (.v (.int .u8 0)), (.v (.int .u8 0)), (.v (.int .u8 0)), (.v (.int .u8 0)), (.v (.int .u8 0)), (.v (.int .u8 0)), (.v (.int .u8 0)), (.v (.int .u8 0)), (.v (.int .u8 0)), (.v (.int .u8 0)), (.v (.int .u8 0)), (.v (.int .u8 0)), (.v (.int .u8 0)), (.v (.int .u8 0)), (.v (.int .u8 0)), (.v (.int .u8 0)), (.v (.int .u8 0)), (.v (.int .u8 0)), (.v (.int .u8 0)), (.v (.int .u8 0)), (.v (.int .u8 0)), (.v (.int .u8 0)), (.v (.int .u8 0)), (.v (.int .u8 0)), (.v (.int .u8 0)), (.v (.int .u8 0)), (.v (.int .u8 0)), (.v (.int .u8 0)), (.v (.int .u8 0)), (.v (.int .u8 0)), (.v (.int .u8 0)), (.v (.int .u8 0)), (.v (.int .u8 0)), (.v (.int .u8 0)), (.v (.int .u8 0)), (.v (.int .u8 0)), (.v (.int .u8 0)), (.v (.int .u8 0)), (.v (.int .u8 0)), (.v (.int .u8 0)), (.v (.int .u8 0)), (.v (.int .u8 0)), (.v (.int .u8 0)), (.v (.int .u8 0)), (.v (.int .u8 0)), (.v (.int .u8 0)), (.v (.int .u8 0)), (.v (.int .u8 0)), (.v (.int .u8 0)), (.v (.int .u8 0)), (.v (.int .u8 0)), (.v (.int .u8 0)), (.v (.int .u8 0)), (.v (.int .u8 0)), (.v (.int .u8 0)), (.v (.int .u8 0)), (.v (.int .u8 0))])] [])
 (.seq (.region [A 3 (.alloc 139 [(.v (.int .u8 0)), (.v (.int .u8 0)), (.v (.int .u8 0)), (.v (.int .u8 0)), (.v (.int .u8 0)), (.v (.int .u8 0)), (.v (.int .u8 0)), (.v (.int .u8 0)), (.v (.int .u8 0)), (.v (.int .u8 0)), (.v (.int .u8 0)), (.v (.int .u8 0)), (.v (.int .u8 0)), (.v (.int .u8 0)), (.v (.int .u8 0)), (.v (.int .u8 0)), (.v (.int .u8 0)), (.v (.int .u8 0)), (.v (.int .u8 0)), (.v (.int .u8 0)), (.v (.int .u8 0)), (.v (.int .u8 0)), (.v (.int .u8 0)), (.v (.int .u8 0)), (.v (.int .u8 0)), (.v (.int .u8 0)), (.v (.int .u8 0)), (.v (.int .u8 0)), (.v (.int .u8 0)), (.v (.int .u8 0)), (.v (.int .u8 0)), (.v (.int .u8 0)), (.v (.int .u8 0)), (.v (.int .u8 0)), (.v (.int .u8 0)), (.v (.int .u8 0)), (.v (.int .u8 0)), (.v (.int .u8 0)), (.v (.int .u8 0)), (.v (.int .u8 0)), (.v (.int .u8 0)), (.v (.int .u8 0)), (.v (.int .u8 0)), (.v (.int .u8 0)), (.v (.int .u8 0)), (.v (.int .u8 0)), (.v (.int .u8 0)), (.v (.int .u8 0)), (.v (.int .u8 0)), (.v (.int .u8 0)), (.v (.int .u8 0)), (.v (.int .u8 0)), (.v (.int .u8 0)), (.v (.int .u8 0)), (.v (.int .u8 0)), (.v (.int .u8 0)), (.v (.int .u8 0)), (.v (.int .u8 0)), (.v (.int .u8 0)), (.v (.int .u8 0)), (.v (.int .u8 0)), (.v (.int .u8 0)), (.v (.int .u8 0)), (.v (.int .u8 0)), (.v (.int .u8 0)), (.v (.int .u8 0)), (.v (.int .u8 0)), (.v (.int .u8 0)), (.v (.int .u8 0)), (.v (.int .u8 0)), (.v (.int .u8 0)), (.v (.int .u8 0)), (.v (.int .u8 0)), (.v (.int .u8 0)), (.v (.int .u8 0)), (.v (.int .u8 0)), (.v (.int .u8 0)), (.v (.int .u8 0)), (.v (.int .u8 0)), (.v (.int .u8 0)), (.v (.int .u8 0)), (.v (.int .u8 0)), (.v (.int .u8 0)), (.v (.int .u8 0)), (.v (.int .u8 0)), (.v (.int .u8 0)), (.v (.int .u8 0)), (.v (.int .u8 0)), (.v (.int .u8 0)), (.v (.int .u8 0)), (.v (.int .u8 0)), (.v (.int .u8 0)), (.v (.int .u8 0)), (.v (.int .u8 0)), (.v (.int .u8 0)), (.v (.int .u8 0)), (.v (.int .u8 0)), (.v (.int .u8 0)), (.v (.int .u8 0)), (.v (.int .u8 0)), (.v (.int .u8 0)), (.v (.int .u8 0)), (.v (.int .u8 0)), (.v (.int .u8 0)), (.v (.int .u8 0)), (.v (.int .u8 0)), (.v (.int .u8 0)), (.v (.int .u8 0)), (.v (.int .u8 0)), (.v (.int .u8 0)), (.v (.int .u8 0)), (.v (.int .u8 0)), (.v (.int .u8 0)), (.v (.int .u8 0)), (.v (.int .u8 0)), (.v (.int .u8 0)), (.v (.int .u8 0)), (.v (.int .u8 0)), (.v (.int .u8 0)), (.v (.int .u8 0)), (.v (.int .u8 0)), (.v (.int .u8 0)), (.v (.int .u8 0)), (.v (.int .u8 0)), (.v (.int .u8 0)), (.v (.int .u8 0)), (.v (.int .u8 0)), (.v (.int .u8 0)), (.v (.int .u8 0)), (.v (.int .u8 0)), (.v (.int .u8 0)), (.v (.int .u8 0)), (.v (.int .u8 0)), (.v (.int .u8 0)), (.v (.int .u8 0)), (.v (.int .u8 0)), (.v (.int .u8 0)), (.v (.int .u8 0)), (.v (.int .u8 0)), (.v (.int .u8 0)), (.v (.int .u8 0)), (.v (.int .u8 0)), (.v (.int .u8 0)), (.v (.int .u8 0)), (.v (.int .u8 0)), (.v (.int .u8 0)), (.v (.int .u8 0)), (.v (.int .u8 0)), (.v (.int .u8 0)), (.v (.int .u8 0)), (.v (.int .u8 0)), (.v (.int .u8 0)), (.v (.int .u8 0)), (.v (.int .u8 0)), (.v (.int .u8 0)), (.v (.int .u8 0)), (.v (.int .u8 0)), (.v (.int .u8 0)), (.v (.int .u8 0)), (.v (.int .u8 0)), (.v (.int .u8 0)), (.v (.int .u8 0)), (.v (.int .u8 0)), (.v (.int .u8 0)), (.v (.int .u8 0)), (.v (.int .u8 0)), (.v (.int .u8 0)), (.v (.int .u8 0)), (.v (.int .u8 0)), (.v (.int .u8 0)), (.v (.int .u8 0)), (.v (.int .u8 0)), (.v (.int .u8 0)), (.v (.int .u8 0)), (.v (.int .u8 0)), (.v (.int .u8 0)), (.v (.int .u8 0)), (.v (.int .u8 0)), (.v (.int .u8 0)), (.v (.int .u8 0)), (.v (.int .u8 0)), (.v (.int .u8 0)), (.v (.int .u8 0)), (.v (.int .u8 0)), (.v (.int .u8 0)), (.v (.int .u8 0)), (.v (.int .u8 0)), (.v (.int .u8 0)), (.v (.int .u8 0)), (.v (.int .u8 0)), (.v (.int .u8 0)), (.v (.int .u8 0)), (.v (.int .u8 0)), (.v (.int .u8 0)), (.v (.int .u8 0)), (.v (.int .u8 0)), (.v (.int .u8 0)), (.v (.int .u8 0)), (.v (.int .u8 0)), (.v (.int .u8 0)), (.v (.int .u8 0)), (.v (.int .u8 0)), (.v (.int .u8 0)), (.v (.int .u8 0)), (.v (.int .u8 0)), (.v (.int .u8 0)), (.v (.int .u8 0)), (.v (.int .u8 0)), (.v (.int .u8 0)), (.v (.int .u8 0)), (.v (.int .u8 0)), (.v (.int .u8 0)), (.v (.int .u8 0)), (.v (.int .u8 0)), (.v (.int .u8 0)), (.v (.int .u8 0)), (.v (.int .u8 0)), (.v (.int .u8 0)), (.v (.int .u8 0)), (.v (.int .u8 0)), (.v (.int .u8 0)), (.v (.int .u8 0)), (.v (.int .u8 0)), (.v (.int .u8 0)), (.v (.int .u8 0)), (.v (.int .u8 0)), (.v (.int .u8 0)), (.v (.int .u8 0)), (.v (.int .u8 0)), (.v (.int .u8 0)), (.v (.int .u8 0)), (.v (.int .u8 0)), (.v (.int .u8 0)), (.v (.int .u8 0)), (.v (.int .u8 0)), (.v (.int .u8 0)), (.v (.int .u8 0)), (.v (.int .u8 0)), (.v (.int .u8 0)), (.v (.int .u8 0)), (.v (.int .u8 0)), (.v (.int .u8 0)), (.v (.int .u8 0)), (.v (.int .u8 0)), (.v (.int .u8 0)), (.v (.int .u8 0)), (.v (.int .u8 0)), (.v (.int .u8 0)), (.v (.int .u8 0)), (.v (.int .u8 0)), (.v (.int .u8 0)), (.v (.int .u8 0)), (.v (.int .u8 0)), (.v (.int .u8 0)), (.v (.int .u8 0)), (.v (.int .u8 0))])] [])
 (.seq (.seq (.region [A 4 (.mv (.c (.int .i64 0)))] [])
 (.block 0 (.loop [0, 2, 3, 4, 19, 20] (.seq (.seq (.region [A 7 (.mv (.t 4)),
 A 8 (.bin .lss (.t 7) (.c (.int .i64 256)))] [])
 (.cond (.t 8) .skip (.exit 0)))
 (.seq (.block 1 (.seq (.region [A 5 (.mv (.c (.bool false)))] [])
 (.seq (.seq (.region [A 6 (.mv (.c (.int .i64 0)))] [])
 (.block 2 (.loop [0, 2, 3, 4, 5, 6, 19, 20] (.seq (.seq (.region [A 11 (.mv (.t 6)),
 A 12 (.mv (.t 0)),
 A 13 (.chk (.t 12)),
 A 14 (.fld 2 (.t 13)),
 A 15 (.load 1 false (.t 14)),
 A 16 (.len (.t 15)),
 A 17 (.bin .lss (.t 11) (.t 16)),
 A 18 (.mv (.t 17)),
 ⟨some 19, (.mv (.t 5)), (some (18, true)), 0⟩,
 ⟨some 20, (.un .not (.t 19)), (some (18, true)), 0⟩,
 A 21 (.pick (.t 18) (.t 20) (.c (.bool false)))] [])
 (.cond (.t 21) .skip (.exit 2)))
 (.seq (.block 3 (.seq (.region [A 24 (.mv (.t 0)),
 A 25 (.mv (.t 4)),
 A 26 (.conv .u8 (.t 25)),
 A 27 (.mv (.t 0)),
 A 28 (.chk (.t 27)),
 A 29 (.fld 2 (.t 28)),
 A 30 (.load 1 false (.t 29)),
 A 31 (.mv (.t 6)),
 A 32 (.ixa 1 (.t 30) (.t 31)),
 A 33 (.load 1 false (.t 32)),
 A 34 (.call 164 [(.t 24), (.t 26), (.t 33)])] [])
 (.cond (.t 34) (.region [A 35 (.mv (.t 4)),
 A 36 (.mv (.t 6)),
 A 37 (.conv .u8 (.t 36)),
 A 38 (.ixp 1 256 (.t 3) (.t 35)),
 ⟨none, (.store 1 (.t 38) (.t 37)), none, 0⟩,
 A 5 (.mv (.c (.bool true)))] []) .skip)))
 (.region [A 22 (.mv (.t 6)),
 A 23 (.bin .add (.t 22) (.c (.int .i64 1))),
 A 6 (.mv (.t 23))] []))))))
 (.seq (.region [A 39 (.mv (.t 5)),
 A 40 (.un .not (.t 39))] [])
 (.cond (.t 40) (.seq (.region [A 41 (.mv (.t 4)),
 A 42 (.mv (.t 0)),
 A 43 (.chk (.t 42)),
 A 44 (.fld 2 (.t 43)),
 A 45 (.load 1 false (.t 44)),
 A 46 (.len (.t 45)),
 A 47 (.conv .u8 (.t 46)),
 A 48 (.ixp 1 256 (.t 3) (.t 41)),
 ⟨none, (.store 1 (.t 48) (.t 47)), none, 0⟩] [])
 (.region [A 49 (.mv (.t 0)),
 A 50 (.mv (.t 0)),
 A 51 (.chk (.t 50)),
 A 52 (.fld 2 (.t 51)),
 A 53 (.load 1 false (.t 52)),
 A 54 (.mv (.t 4)),
 A 55 (.conv .u8 (.t 54)),
 A 56 (.litF 5 1 1 [(.int .u8 0)] [(0, (.t 55))]),
 A 57 (.app 5 1 1 (.t 53) (.t 56)),
 A 58 (.chk (.t 49)),
 A 59 (.fld 2 (.t 58)),
 ⟨none, (.store 1 (.t 59) (.t 57)), none, 0⟩] [])) .skip)))))
 (.region [A 9 (.mv (.t 4)),
 A 10 (.bin .add (.t 9) (.c (.int .i64 1))),
 A 4 (.mv (.t 10))] []))))))
 (.seq (.region [A 60 (.load 256 true (.t 3)),
 ⟨none, (.store 256 (.t 2) (.t 60)), none, 0⟩] [])
 .ret)))) }
def a115 : AFunc :=
 { np := 3, nt := 55, mv := false, res := [(.tmp 6)], code :=
 (.seq (.region [A 6 (.mv (.c .nil))] [])
 (.seq (.region [A 7 (.mv (.c .nil))] [])
 (.seq (.seq (.region [A 8 (.mv (.c (.int .i64 0)))] [])
 (.block 0 (.loop [0, 1, 2, 7, 8, 42, 43, 44, 45, 46] (.seq (.seq (.region [A 11 (.mv (.t 8)),
 A 12 (.mv (.t 0)),
 A 13 (.chk (.t 12)),
 A 14 (.fld 0 (.t 13)),
 A 15 (.load 1 false (.t 14)),
 A 16 (.len (.t 15)),
 A 17 (.bin .lss (.t 11) (.t 16))] [])
 (.cond (.t 17) .skip (.exit 0)))
 (.seq (.block 1 (.seq (.region [A 20 (.mv (.t 0)),
 A 21 (.chk (.t 20)),
 A 22 (.fld 0 (.t 21)),
 A 23 (.load 1 false (.t 22)),
 A 24 (.mv (.t 8)),
 A 25 (.ixa 5 (.t 23) (.t 24)),
 A 26 (.load 5 true (.t 25)),
 A 9 (.alloc 159 [(.v .nil), (.v .nil), (.v .nil), (.v .nil), (.v (.bool false))]),
 ⟨none, (.store 5 (.t 9) (.t 26)), none, 0⟩] [])
 (.seq (.region [A 10 (.mv (.c (.int .i64 0)))] [])
 (.block 2 (.loop [0, 1, 2, 7, 8, 9, 10, 42, 43, 44, 45, 46] (.seq (.seq (.region [A 27 (.mv (.t 10)),
 A 28 (.fld 0 (.t 9)),
 A 29 (.load 1 false (.t 28)),
 A 30 (.len (.t 29)),
 A 31 (.bin .lss (.t 27) (.t 30))] [])
 (.cond (.t 31) .skip (.exit 2)))
 (.seq (.block 3 (.seq (.region [A 34 (.fld 0 (.t 9)),
 A 35 (.load 1 false (.t 34)),
 A 36 (.mv (.t 10)),
 A 37 (.ixa 4 (.t 35) (.t 36)),
 A 38 (.load 4 true (.t 37)),
 A 39 (.mv (.t 2)),
 A 40 (.call 128 [(.t 38), (.t 39)]),
 A 41 (.mv (.t 40)),
 ⟨some 42, (.mv (.t 0)), (some (41, true)), 0⟩,
 ⟨some 43, (.mv (.t 1)), (some (41, true)), 0⟩,
 ⟨some 44, (.mv (.t 8)), (some (41, true)), 0⟩,
 ⟨some 45, (.mv (.t 10)), (some (41, true)), 0⟩,
 ⟨some 46, (.call 165 [(.t 42), (.t 43), (.t 44), (.t 45)]), (some (41, true)), 0⟩,
 A 47 (.pick (.t 41) (.t 46) (.c (.bool false)))] [])
 (.cond (.t 47) (.region [A 48 (.mv (.t 7)),
 A 49 (.mv (.t 8)),
 A 50 (.mv (.t 10)),
 A 51 (.build [(.int .i64 0), (.int .i64 0)] [(0, 1, (.t 49)), (1, 1, (.t 50))]),
 A 52 (.litF 242 2 1 [(.int .i64 0), (.int .i64 0)] [(0, (.t 51))]),
 A 53 (.app 242 2 16 (.t 48) (.t 52)),
 A 7 (.mv (.t 53))] []) .skip)))
 (.region [A 32 (.mv (.t 10)),
 A 33 (.bin .add (.t 32) (.c (.int .i64 1))),
 A 10 (.mv (.t 33))] []))))))))
 (.region [A 18 (.mv (.t 8)),
 A 19 (.bin .add (.t 18) (.c (.int .i64 1))),
 A 8 (.mv (.t 19))] []))))))
 (.seq (.region [A 54 (.mv (.t 7)),
 A 6 (.mv (.t 54))] [])
 .ret)))) }
def a116 : AFunc :=
 { np := 2, nt := 54, mv := false, res := [(.tmp 4)], code :=
 (.seq (.region [A 4 (.mv (.c (.int .i64 0)))] [])
 (.seq (.seq (.region [A 5 (.mv (.c (.int .i64 1)))] [])
 (.block 0 (.loop [0, 1, 5, 36, 37, 38, 39, 40, 41, 42, 43, 44, 45, 46, 47, 48, 49, 50] (.seq (.seq (.region [A 8 (.mv (.t 5)),
 A 9 (.mv (.t 0)),
 A 10 (.chk (.t 9)),
 A 11 (.fld 1 (.t 10)),
 A 12 (.load 1 false (.t 11)),
 A 13 (.len (.t 12)),
 A 14 (.bin .lss (.t 8) (.t 13))] [])
 (.cond (.t 14) .skip (.exit 0)))
 (.seq (.block 1 (.seq (.seq (.region [A 17 (.mv (.t 0)),
 A 18 (.chk (.t 17)),
 A 19 (.fld 1 (.t 18)),
 A 20 (.load 1 false (.t 19)),
 A 21 (.mv (.t 5)),
 A 22 (.ixa 1 (.t 20) (.t 21)),
 A 23 (.load 1 false (.t 22)),
 A 24 (.len (.t 23)),
 A 25 (.mv (.t 1)),
 A 26 (.len (.t 25)),
 A 27 (.bin .neq (.t 24) (.t 26))] [])
 (.cond (.t 27) (.exit 1) .skip))
 (.seq (.region [A 6 (.mv (.c (.bool true)))] [])
 (.seq (.seq (.region [A 7 (.mv (.c (.int .i64 0)))] [])
 (.block 2 (.loop [0, 1, 5, 6, 7, 36, 37, 38, 39, 40, 41, 42, 43, 44, 45, 46, 47, 48, 49, 50] (.seq (.seq (.region [A 28 (.mv (.t 7)),
 A 29 (.mv (.t 1)),
 A 30 (.len (.t 29)),
 A 31 (.bin .lss (.t 28) (.t 30))] [])
 (.cond (.t 31) .skip (.exit 2)))
 (.seq (.block 3 (.region [A 34 (.mv (.t 6)),
 ⟨some 35, (.mv (.t 34)), none, 1⟩,
 ⟨some 36, (.mv (.t 0)), (some (35, true)), 3⟩,
 ⟨some 37, (.chk (.t 36)), (some (35, true)), 7⟩,
 ⟨some 38, (.fld 1 (.t 37)), (some (35, true)), 15⟩,
 ⟨some 39, (.load 1 false (.t 38)), (some (35, true)), 31⟩,
 ⟨some 40, (.mv (.t 5)), (some (35, true)), 3⟩,
 ⟨some 41, (.ixa 1 (.t 39) (.t 40)), (some (35, true)), 127⟩,
 ⟨some 42, (.load 1 false (.t 41)), (some (35, true)), 255⟩,
 ⟨some 43, (.mv (.t 7)), (some (35, true)), 3⟩,
 ⟨some 44, (.ixa 2 (.t 42) (.t 43)), (some (35, true)), 1023⟩,
 ⟨some 45, (.load 2 true (.t 44)), (some (35, true)), 2047⟩,
 ⟨some 46, (.mv (.t 1)), (some (35, true)), 3⟩,
 ⟨some 47, (.mv (.t 7)), (some (35, true)), 3⟩,
 ⟨some 48, (.ixa 2 (.t 46) (.t 47)), (some (35, true)), 12291⟩,
 ⟨some 49, (.load 2 true (.t 48)), (some (35, true)), 28675⟩,
 ⟨some 50, (.eqA 2 false (.t 45) (.t 49)), (some (35, true)), 65535⟩,
 ⟨some 51, (.pick (.t 35) (.t 50) (.c (.bool false))), none, 131071⟩,
 ⟨some 6, (.mv (.t 51)), none, 262143⟩] []))
 (.region [A 32 (.mv (.t 7)),
 A 33 (.bin .add (.t 32) (.c (.int .i64 1))),
 A 7 (.mv (.t 33))] []))))))
 (.seq (.region [A 52 (.mv (.t 6))] [])
 (.cond (.t 52) (.seq (.region [A 53 (.mv (.t 5)),
 A 4 (.mv (.t 53))] [])
 .ret) .skip))))))
 (.region [A 15 (.mv (.t 5)),
 A 16 (.bin .add (.t 15) (.c (.int .i64 1))),
 A 5 (.mv (.t 16))] []))))))
 (.seq (.region [A 4 (.mv (.c (.int .i64 (-1))))] [])
 .ret))) }
def a117 : AFunc :=
 { np := 2, nt := 73, mv := false, res := [(.tmp 4)], code :=
 (.seq (.region [A 4 (.mv (.c (.int .i64 0)))] [])
 (.seq (.seq (.region [A 5 (.mv (.c (.int .i64 0)))] [])
 (.block 0 (.loop [0, 1, 5, 27, 28, 57, 58, 59, 60, 61, 62, 63, 64, 65, 66, 67, 68, 69, 70] (.seq (.seq (.region [A 8 (.mv (.t 5)),
 A 9 (.mv (.t 0)),
 A 10 (.chk (.t 9)),
 A 11 (.fld 0 (.t 10)),
 A 12 (.load 1 false (.t 11)),
 A 13 (.len (.t 12)),
 A 14 (.bin .lss (.t 8) (.t 13))] [])
 (.cond (.t 14) .skip (.exit 0)))
 (.seq (.block 1 (.seq (.region [A 17 (.mv (.t 0)),
 A 18 (.chk (.t 17)),
 A 19 (.fld 0 (.t 18)),
 A 20 (.load 1 false (.t 19)),
 A 21 (.mv (.t 5)),
 A 22 (.ixa 5 (.t 20) (.t 21)),
 A 23 (.load 5 true (.t 22)),
 A 6 (.alloc 159 [(.v .nil), (.v .nil), (.v .nil), (.v .nil), (.v (.bool false))]),
 ⟨none, (.store 5 (.t 6) (.t 23)), none, 0⟩] [])
 (.seq (.seq (.region [A 24 (.mv (.t 1)),
 A 25 (.bin .eql (.t 24) (.c (.int .i64 0))),
 A 26 (.mv (.t 25)),
 ⟨some 27, (.fld 4 (.t 6)), (some (26, true)), 0⟩,
 ⟨some 28, (.load 1 false (.t 27)), (some (26, true)), 0⟩,
 A 29 (.pick (.t 26) (.t 28) (.c (.bool false)))] [])
 (.cond (.t 29) (.seq (.region [A 30 (.mv (.t 5)),
 A 4 (.mv (.t 30))] [])
 .ret) .skip))
 (.seq (.region [A 7 (.mv (.c (.int .i64 0)))] [])
 (.block 2 (.loop [0, 1, 5, 6, 7, 27, 28, 57, 58, 59, 60, 61, 62, 63, 64, 65, 66, 67, 68, 69, 70] (.seq (.seq (.region [A 31 (.mv (.t 7)),
 A 32 (.mv (.t 0)),
 A 33 (.chk (.t 32)),
 A 34 (.fld 1 (.t 33)),
 A 35 (.load 1 false (.t 34)),
 A 36 (.mv (.t 1)),
 A 37 (.ixa 1 (.t 35) (.t 36)),
 A 38 (.load 1 false (.t 37)),
 A 39 (.len (.t 38)),
 A 40 (.bin .lss (.t 31) (.t 39))] [])
 (.cond (.t 40) .skip (.exit 2)))
 (.seq (.block 3 (.seq (.region [A 43 (.mv (.t 0)),
 ⟨some 44, (.chk (.t 43)), none, 1⟩,
 ⟨some 45, (.fld 1 (.t 44)), none, 3⟩,
 ⟨some 46, (.load 1 false (.t 45)), none, 7⟩,
 A 47 (.mv (.t 1)),
 ⟨some 48, (.ixa 1 (.t 46) (.t 47)), none, 31⟩,
 ⟨some 49, (.load 1 false (.t 48)), none, 63⟩,
 A 50 (.mv (.t 7)),
 ⟨some 51, (.ixa 2 (.t 49) (.t 50)), none, 255⟩,
 ⟨some 52, (.fld 0 (.t 51)), none, 511⟩,
 ⟨some 53, (.load 1 false (.t 52)), none, 1023⟩,
 A 54 (.mv (.t 5)),
 ⟨some 55, (.bin .eql (.t 53) (.t 54)), none, 4095⟩,
 ⟨some 56, (.mv (.t 55)), none, 8191⟩,
 ⟨some 57, (.fld 2 (.t 6)), (some (56, true)), 16383⟩,
 ⟨some 58, (.load 1 false (.t 57)), (some (56, true)), 32767⟩,
 ⟨some 59, (.mv (.t 0)), (some (56, true)), 16383⟩,
 ⟨some 60, (.chk (.t 59)), (some (56, true)), 81919⟩,
 ⟨some 61, (.fld 1 (.t 60)), (some (56, true)), 212991⟩,
 ⟨some 62, (.load 1 false (.t 61)), (some (56, true)), 475135⟩,
 ⟨some 63, (.mv (.t 1)), (some (56, true)), 16383⟩,
 ⟨some 64, (.ixa 1 (.t 62) (.t 63)), (some (56, true)), 2047999⟩,
 ⟨some 65, (.load 1 false (.t 64)), (some (56, true)), 4145151⟩,
 ⟨some 66, (.mv (.t 7)), (some (56, true)), 16383⟩,
 ⟨some 67, (.ixa 2 (.t 65) (.t 66)), (some (56, true)), 16728063⟩,
 ⟨some 68, (.fld 1 (.t 67)), (some (56, true)), 33505279⟩,
 ⟨some 69, (.load 1 false (.t 68)), (some (56, true)), 67059711⟩,
 ⟨some 70, (.call 166 [(.t 58), (.t 69)]), (some (56, true)), 134217727⟩,
 ⟨some 71, (.pick (.t 56) (.t 70) (.c (.bool false))), none, 268435455⟩] [])
 (.cond (.t 71) (.seq (.region [A 72 (.mv (.t 5)),
 A 4 (.mv (.t 72))] [])
 .ret) .skip)))
 (.region [A 41 (.mv (.t 7)),
 A 42 (.bin .add (.t 41) (.c (.int .i64 1))),
 A 7 (.mv (.t 42))] [])))))))))
 (.region [A 15 (.mv (.t 5)),
 A 16 (.bin .add (.t 15) (.c (.int .i64 1))),
 A 5 (.mv (.t 16))] []))))))
 (.seq (.region [A 4 (.mv (.c (.int .i64 (-1))))] [])
 .ret))) }
def a118 : AFunc :=
 { np := 1, nt := 104, mv := false, res := [(.tmp 2)], code :=
 (.seq (.region [A 1 (.box 30 (.t 0)),
 A 2 (.mv (.c .nilPtr))] [])
 (.seq (.region [A 11 (.load 7 true (.t 1)),
 A 12 (.build [.nil, .nil, .nil, .nil, .nil, .nil, (.int .i64 0), .nil, .nil, .nil, .nil] [(0, 7, (.t 11))]),
 A 13 (.box 245 (.t 12)),
 A 3 (.mv (.t 13))] [])
 (.seq (.seq (.region [A 4 (.mv (.c (.int .i64 0)))] [])
 (.block 0 (.loop [1, 3, 4] (.seq (.seq (.region [A 14 (.mv (.t 4)),
 A 15 (.fld 0 (.t 1)),
 A 16 (.load 1 false (.t 15)),
 A 17 (.len (.t 16)),
 A 18 (.bin .lss (.t 14) (.t 17))] [])
 (.cond (.t 18) .skip (.exit 0)))
 (.seq (.block 1 (.seq (.region [A 22 (.fld 0 (.t 1)),
 A 23 (.load 1 false (.t 22)),
 A 24 (.mv (.t 4)),
 A 25 (.ixa 8 (.t 23) (.t 24)),
 A 26 (.fld 1 (.t 25)),
 A 27 (.load 6 true (.t 26)),
 A 28 (.call 87 [(.t 27)]),
 A 21 (.mv (.t 28)),
 A 29 (.ext (.t 21) 0),
 A 30 (.ext (.t 21) 1),
 A 5 (.alloc 159 [(.v .nil), (.v .nil), (.v .nil), (.v .nil), (.v (.bool false))]),
 ⟨none, (.store 5 (.t 5) (.t 29)), none, 0⟩,
 A 6 (.mv (.t 30))] [])
 (.seq (.region [A 31 (.mv (.t 3)),
 A 32 (.mv (.t 3)),
 ⟨some 33, (.chk (.t 32)), none, 2⟩,
 ⟨some 34, (.fld 7 (.t 33)), none, 6⟩,
 ⟨some 35, (.load 1 false (.t 34)), none, 14⟩,
 A 36 (.load 5 true (.t 5)),
 ⟨some 37, (.lit 159 5 1 [.nil, .nil, .nil, .nil, (.bool false)] [(0, (.t 36))]), none, 32⟩,
 ⟨some 38, (.app 159 5 104 (.t 35) (.t 37)), none, 126⟩,
 ⟨some 39, (.chk (.t 31)), none, 255⟩,
 ⟨some 40, (.fld 7 (.t 39)), none, 511⟩,
 ⟨none, (.store 1 (.t 40) (.t 38)), none, 1023⟩] [(0, 6), (0, 7), (1, 6), (2, 6), (3, 6), (4, 6)])
 (.region [A 41 (.mv (.t 3)),
 A 42 (.mv (.t 3)),
 ⟨some 43, (.chk (.t 42)), none, 2⟩,
 ⟨some 44, (.fld 10 (.t 43)), none, 6⟩,
 ⟨some 45, (.load 1 false (.t 44)), none, 14⟩,
 A 46 (.fld 0 (.t 1)),
 ⟨some 47, (.load 1 false (.t 46)), none, 32⟩,
 ⟨some 48, (.len (.t 47)), none, 96⟩,
 ⟨some 49, (.mksl 4 1 1 [(.bool false)] (.t 48) (.t 48)), none, 224⟩,
 ⟨some 50, (.lits 42 1 [(0, (.t 49))]), none, 480⟩,
 ⟨some 51, (.appN 42 24 (.t 45) (.t 50)), none, 1022⟩,
 ⟨some 52, (.chk (.t 41)), none, 2047⟩,
 ⟨some 53, (.fld 10 (.t 52)), none, 4095⟩,
 ⟨none, (.store 1 (.t 53) (.t 51)), none, 8191⟩] [(0, 8), (0, 9), (0, 10), (1, 8), (1, 9), (2, 8), (2, 9), (3, 8), (3, 9), (4, 8), (4, 9)]))))
 (.region [A 19 (.mv (.t 4)),
 A 20 (.bin .add (.t 19) (.c (.int .i64 1))),
 A 4 (.mv (.t 20))] []))))))
 (.seq (.region [A 54 (.load 7 true (.t 1)),
 ⟨some 55, (.call 167 [(.t 54)]), none, 1⟩,
 A 56 (.load 7 true (.t 1)),
 ⟨some 57, (.call 168 [(.t 56)]), none, 7⟩,
 A 58 (.load 7 true (.t 1)),
 ⟨some 59, (.call 169 [(.t 58)]), none, 31⟩,
 ⟨some 7, (.mv (.t 55)), none, 63⟩,
 ⟨some 8, (.mv (.t 57)), none, 127⟩,
 ⟨some 9, (.mv (.t 59)), none, 255⟩] [(2, 1), (4, 1), (4, 3)])
 (.seq (.region [A 60 (.mv (.t 3)),
 A 61 (.mv (.t 3)),
 A 62 (.mv (.t 7)),
 ⟨some 63, (.ixa 1 (.t 62) (.c (.int .i64 0))), none, 4⟩,
 ⟨some 64, (.load 1 false (.t 63)), none, 12⟩,
 A 65 (.fld 0 (.t 1)),
 ⟨some 66, (.load 1 false (.t 65)), none, 32⟩,
 ⟨some 67, (.len (.t 66)), none, 96⟩,
 ⟨some 68, (.call 170 [(.t 64), (.t 67)]), none, 252⟩,
 A 69 (.mv (.t 8)),
 ⟨some 70, (.ixa 1 (.t 69) (.c (.int .i64 0))), none, 512⟩,
 ⟨some 71, (.load 1 false (.t 70)), none, 1536⟩,
 A 72 (.fld 0 (.t 1)),
 ⟨some 73, (.load 1 false (.t 72)), none, 4096⟩,
 ⟨some 74, (.len (.t 73)), none, 12288⟩,
 ⟨some 75, (.call 170 [(.t 71), (.t 74)]), none, 32764⟩,
 ⟨some 76, (.chk (.t 60)), none, 65533⟩,
 ⟨some 77, (.fld 8 (.t 76)), none, 131069⟩,
 ⟨none, (.store 1 (.t 77) (.t 68)), none, 262141⟩,
 ⟨some 78, (.chk (.t 61)), none, 524287⟩,
 ⟨some 79, (.fld 9 (.t 78)), none, 1048575⟩,
 ⟨none, (.store 1 (.t 79) (.t 75)), none, 2097151⟩] [(0, 8), (0, 15), (1, 8), (1, 15), (1, 18), (9, 8), (10, 8), (11, 8), (12, 8), (13, 8), (14, 8)])
 (.seq (.seq (.region [A 10 (.mv (.c (.int .i64 0)))] [])
 (.block 2 (.loop [3, 9, 10] (.seq (.seq (.region [A 80 (.mv (.t 10)),
 A 81 (.mv (.t 9)),
 A 82 (.len (.t 81)),
 A 83 (.bin .lss (.t 80) (.t 82))] [])
 (.cond (.t 83) .skip (.exit 2)))
 (.seq (.block 3 (.region [A 86 (.mv (.t 3)),
 ⟨some 87, (.chk (.t 86)), none, 1⟩,
 ⟨some 88, (.fld 10 (.t 87)), none, 3⟩,
 ⟨some 89, (.load 1 false (.t 88)), none, 7⟩,
 A 90 (.mv (.t 9)),
 A 91 (.mv (.t 10)),
 ⟨some 92, (.ixa 2 (.t 90) (.t 91)), none, 48⟩,
 ⟨some 93, (.ixp 1 2 (.t 92) (.c (.int .i64 0))), none, 112⟩,
 ⟨some 94, (.load 1 false (.t 93)), none, 240⟩,
 ⟨some 95, (.ixa 1 (.t 89) (.t 94)), none, 511⟩,
 ⟨some 96, (.load 1 false (.t 95)), none, 1023⟩,
 A 97 (.mv (.t 9)),
 A 98 (.mv (.t 10)),
 ⟨some 99, (.ixa 2 (.t 97) (.t 98)), none, 6144⟩,
 ⟨some 100, (.ixp 1 2 (.t 99) (.c (.int .i64 1))), none, 14336⟩,
 ⟨some 101, (.load 1 false (.t 100)), none, 30720⟩,
 ⟨some 102, (.ixa 1 (.t 96) (.t 101)), none, 65535⟩,
 ⟨none, (.store 1 (.t 102) (.c (.bool true))), none, 131071⟩] []))
 (.region [A 84 (.mv (.t 10)),
 A 85 (.bin .add (.t 84) (.c (.int .i64 1))),
 A 10 (.mv (.t 85))] []))))))
 (.seq (.region [A 103 (.mv (.t 3)),
 A 2 (.mv (.t 103))] [])
 .ret))))))) }
def a119 : AFunc :=
 { np := 2, nt := 8, mv := false, res := [(.tmp 4)], code :=
 (.seq (.region [A 3 (.box 60 (.t 1)),
 A 4 (.mv (.c .nil))] [])
 (.seq (.region [A 5 (.mv (.t 0)),
 A 6 (.load 4 true (.t 3)),
 A 7 (.call 171 [(.t 5), (.c .nil), (.c (.int .i64 (-1))), (.t 6)]),
 A 4 (.mv (.t 7))] [])
 .ret)) }
def a120 : AFunc :=
 { np := 3, nt := 92, mv := false, res := [(.tmp 6)], code :=
 (.seq (.region [A 5 (.box 60 (.t 2)),
 A 6 (.mv (.c .nil))] [])
 (.seq (.region [A 7 (.mv (.c .nil))] [])
 (.seq (.seq (.region [A 8 (.mv (.c (.int .i64 0)))] [])
 (.block 0 (.loop [0, 1, 5, 7, 8] (.seq (.seq (.region [A 14 (.mv (.t 8)),
 A 15 (.mv (.t 1)),
 A 16 (.len (.t 15)),
 A 17 (.bin .lss (.t 14) (.t 16))] [])
 (.cond (.t 17) .skip (.exit 0)))
 (.seq (.block 1 (.seq (.region [A 20 (.mv (.t 1)),
 A 21 (.mv (.t 8)),
 A 22 (.ixa 3 (.t 20) (.t 21)),
 A 23 (.load 3 true (.t 22)),
 A 9 (.alloc 251 [(.v (.int .i64 0)), (.v (.int .i64 0)), (.v (.int .i64 0))]),
 ⟨none, (.store 3 (.t 9) (.t 23)), none, 0⟩] [])
 (.seq (.region [A 24 (.mv (.t 0)),
 ⟨some 25, (.chk (.t 24)), none, 1⟩,
 ⟨some 26, (.fld 7 (.t 25)), none, 3⟩,
 ⟨some 27, (.load 1 false (.t 26)), none, 7⟩,
 A 28 (.fld 1 (.t 9)),
 ⟨some 29, (.load 1 false (.t 28)), none, 16⟩,
 ⟨some 30, (.ixa 5 (.t 27) (.t 29)), none, 63⟩,
 ⟨some 31, (.load 5 true (.t 30)), none, 127⟩,
 A 10 (.alloc 159 [(.v .nil), (.v .nil), (.v .nil), (.v .nil), (.v (.bool false))]),
 ⟨none, (.store 5 (.t 10) (.t 31)), none, 511⟩] [(0, 8), (1, 8), (2, 8), (3, 8), (4, 8), (5, 8), (6, 8), (7, 8)])
 (.seq (.region [A 32 (.fld 3 (.t 10)),
 A 33 (.load 1 false (.t 32)),
 A 34 (.fld 2 (.t 9)),
 A 35 (.load 1 false (.t 34)),
 A 36 (.ixa 1 (.t 33) (.t 35)),
 A 37 (.load 1 false (.t 36)),
 A 11 (.mv (.t 37))] [])
 (.seq (.seq (.region [A 12 (.mv (.c (.int .i64 0)))] [])
 (.block 2 (.loop [0, 1, 5, 7, 8, 9, 10, 11, 12] (.seq (.seq (.region [A 38 (.mv (.t 12)),
 A 39 (.mv (.t 11)),
 A 40 (.len (.t 39)),
 A 41 (.bin .lss (.t 38) (.t 40))] [])
 (.cond (.t 41) .skip (.exit 2)))
 (.seq (.block 3 (.seq (.region [A 44 (.fld 0 (.t 10)),
 ⟨some 45, (.load 1 false (.t 44)), none, 1⟩,
 A 46 (.mv (.t 11)),
 A 47 (.mv (.t 12)),
 ⟨some 48, (.ixa 1 (.t 46) (.t 47)), none, 12⟩,
 ⟨some 49, (.load 1 false (.t 48)), none, 28⟩,
 ⟨some 50, (.ixa 4 (.t 45) (.t 49)), none, 63⟩,
 ⟨some 51, (.load 4 true (.t 50)), none, 127⟩,
 A 52 (.load 4 true (.t 5)),
 ⟨some 53, (.call 172 [(.t 51), (.t 52)]), none, 511⟩,
 ⟨some 54, (.call 61 [(.t 53)]), none, 1023⟩,
 ⟨some 55, (.un .not (.t 54)), none, 2047⟩] [])
 (.cond (.t 55) (.region [A 56 (.mv (.t 7)),
 A 57 (.fld 0 (.t 9)),
 ⟨some 58, (.load 1 false (.t 57)), none, 2⟩,
 A 59 (.fld 1 (.t 9)),
 ⟨some 60, (.load 1 false (.t 59)), none, 8⟩,
 A 61 (.mv (.t 11)),
 A 62 (.mv (.t 12)),
 ⟨some 63, (.ixa 1 (.t 61) (.t 62)), none, 96⟩,
 ⟨some 64, (.load 1 false (.t 63)), none, 224⟩,
 ⟨some 65, (.build [(.int .i64 0), (.int .i64 0), (.int .i64 0)] [(0, 1, (.t 58)), (1, 1, (.t 60)), (2, 1, (.t 64))]), none, 510⟩,
 ⟨some 66, (.call 173 [(.t 56), (.t 65)]), none, 1023⟩,
 ⟨some 7, (.mv (.t 66)), none, 2047⟩] []) .skip)))
 (.region [A 42 (.mv (.t 12)),
 A 43 (.bin .add (.t 42) (.c (.int .i64 1))),
 A 12 (.mv (.t 43))] []))))))
 (.seq (.region [A 67 (.fld 2 (.t 10)),
 A 68 (.load 1 false (.t 67)),
 A 69 (.fld 2 (.t 9)),
 A 70 (.load 1 false (.t 69)),
 A 71 (.call 174 [(.t 68), (.t 70)])] [])
 (.cond (.t 71) (.seq (.region [A 72 (.fld 1 (.t 9)),
 A 73 (.load 1 false (.t 72)),
 A 13 (.mv (.t 73))] [])
 (.seq (.seq (.region [A 74 (.mv (.t 0)),
 ⟨some 75, (.chk (.t 74)), none, 1⟩,
 ⟨some 76, (.fld 0 (.t 75)), none, 3⟩,
 ⟨some 77, (.fld 0 (.t 76)), none, 7⟩,
 ⟨some 78, (.load 1 false (.t 77)), none, 15⟩,
 A 79 (.fld 1 (.t 9)),
 ⟨some 80, (.load 1 false (.t 79)), none, 32⟩,
 ⟨some 81, (.ixa 8 (.t 78) (.t 80)), none, 127⟩,
 ⟨some 82, (.fld 7 (.t 81)), none, 255⟩,
 ⟨some 83, (.load 1 false (.t 82)), none, 511⟩] [])
 (.cond (.t 83) (.region [A 84 (.fld 0 (.t 9)),
 A 85 (.load 1 false (.t 84)),
 A 13 (.mv (.t 85))] []) .skip))
 (.region [A 86 (.mv (.t 0)),
 A 87 (.mv (.t 7)),
 A 88 (.mv (.t 13)),
 A 89 (.load 4 true (.t 5)),
 A 90 (.call 171 [(.t 86), (.t 87), (.t 88), (.t 89)]),
 A 7 (.mv (.t 90))] []))) .skip)))))))
 (.region [A 18 (.mv (.t 8)),
 A 19 (.bin .add (.t 18) (.c (.int .i64 1))),
 A 8 (.mv (.t 19))] []))))))
 (.seq (.region [A 91 (.mv (.t 7)),
 A 6 (.mv (.t 91))] [])
 .ret)))) }
def a121 : AFunc :=
 { np := 2, nt := 53, mv := false, res := [(.tmp 4)], code :=
 (.seq (.region [A 4 (.mv (.c (.bool false)))] [])
 (.seq (.seq (.region [A 5 (.mv (.c (.int .i64 0)))] [])
 (.block 0 (.loop [0, 1, 5, 29, 30, 31, 32, 33, 34, 35, 38, 39, 40, 41, 42, 43, 44, 45, 46, 47, 48, 49, 50, 51] (.seq (.seq (.region [A 7 (.mv (.t 5)),
 A 8 (.mv (.t 1)),
 A 9 (.len (.t 8)),
 A 10 (.bin .lss (.t 7) (.t 9))] [])
 (.cond (.t 10) .skip (.exit 0)))
 (.seq (.block 1 (.seq (.region [A 13 (.mv (.t 1)),
 A 14 (.mv (.t 5)),
 A 15 (.ixa 3 (.t 13) (.t 14)),
 A 16 (.fld 1 (.t 15)),
 A 17 (.load 1 false (.t 16)),
 A 6 (.mv (.t 17))] [])
 (.seq (.region [A 18 (.mv (.t 0)),
 ⟨some 19, (.chk (.t 18)), none, 1⟩,
 ⟨some 20, (.fld 0 (.t 19)), none, 3⟩,
 ⟨some 21, (.fld 0 (.t 20)), none, 7⟩,
 ⟨some 22, (.load 1 false (.t 21)), none, 15⟩,
 A 23 (.mv (.t 6)),
 ⟨some 24, (.ixa 8 (.t 22) (.t 23)), none, 63⟩,
 ⟨some 25, (.fld 7 (.t 24)), none, 127⟩,
 ⟨some 26, (.load 1 false (.t 25)), none, 255⟩,
 ⟨some 27, (.un .not (.t 26)), none, 511⟩,
 ⟨some 28, (.mv (.t 27)), none, 1023⟩,
 ⟨some 29, (.mv (.t 0)), (some (28, true)), 2047⟩,
 ⟨some 30, (.chk (.t 29)), (some (28, true)), 4095⟩,
 ⟨some 31, (.fld 9 (.t 30)), (some (28, true)), 8191⟩,
 ⟨some 32, (.load 1 false (.t 31)), (some (28, true)), 16383⟩,
 ⟨some 33, (.mv (.t 6)), (some (28, true)), 2047⟩,
 ⟨some 34, (.ixa 1 (.t 32) (.t 33)), (some (28, true)), 65535⟩,
 ⟨some 35, (.load 1 false (.t 34)), (some (28, true)), 131071⟩,
 ⟨some 36, (.pick (.t 28) (.t 35) (.c (.bool false))), none, 262143⟩,
 ⟨some 37, (.mv (.t 36)), none, 524287⟩,
 ⟨some 38, (.mv (.t 0)), (some (37, true)), 1048575⟩,
 ⟨some 39, (.chk (.t 38)), (some (37, true)), 2097151⟩,
 ⟨some 40, (.fld 7 (.t 39)), (some (37, true)), 4194303⟩,
 ⟨some 41, (.load 1 false (.t 40)), (some (37, true)), 8388607⟩,
 ⟨some 42, (.mv (.t 6)), (some (37, true)), 1048575⟩,
 ⟨some 43, (.ixa 5 (.t 41) (.t 42)), (some (37, true)), 33554431⟩,
 ⟨some 44, (.fld 2 (.t 43)), (some (37, true)), 67108863⟩,
 ⟨some 45, (.load 1 false (.t 44)), (some (37, true)), 134217727⟩,
 ⟨some 46, (.mv (.t 1)), (some (37, true)), 1048575⟩,
 ⟨some 47, (.mv (.t 5)), (some (37, true)), 1048575⟩,
 ⟨some 48, (.ixa 3 (.t 46) (.t 47)), (some (37, true)), 806354943⟩,
 ⟨some 49, (.fld 2 (.t 48)), (some (37, true)), 1880096767⟩,
 ⟨some 50, (.load 1 false (.t 49)), (some (37, true)), 4027580415⟩,
 ⟨some 51, (.call 174 [(.t 45), (.t 50)]), (some (37, true)), 8589934591⟩,
 ⟨some 52, (.pick (.t 37) (.t 51) (.c (.bool false))), none, 17179869183⟩] [])
 (.cond (.t 52) (.seq (.region [A 4 (.mv (.c (.bool true)))] [])
 .ret) .skip))))
 (.region [A 11 (.mv (.t 5)),
 A 12 (.bin .add (.t 11) (.c (.int .i64 1))),
 A 5 (.mv (.t 12))] []))))))
 (.seq (.region [A 4 (.mv (.c (.bool false)))] [])
 .ret))) }
def a123 : AFunc :=
 { np := 2, nt := 30, mv := false, res := [(.tmp 4)], code :=
 (.seq (.region [A 2 (.box 72 (.t 0)),
 A 3 (.box 72 (.t 1)),
 A 4 (.mv (.c (.bool false)))] [])
 (.seq (.seq (.region [A 5 (.fld 0 (.t 2)),
 A 6 (.load 1 false (.t 5)),
 A 7 (.fld 0 (.t 3)),
 A 8 (.load 1 false (.t 7)),
 A 9 (.bin .neq (.t 6) (.t 8))] [])
 (.cond (.t 9) (.seq (.region [A 10 (.fld 0 (.t 2)),
 A 11 (.load 1 false (.t 10)),
 A 12 (.fld 0 (.t 3)),
 A 13 (.load 1 false (.t 12)),
 A 14 (.bin .lss (.t 11) (.t 13)),
 A 4 (.mv (.t 14))] [])
 .ret) .skip))
 (.seq (.seq (.region [A 15 (.fld 1 (.t 2)),
 A 16 (.load 1 false (.t 15)),
 A 17 (.fld 1 (.t 3)),
 A 18 (.load 1 false (.t 17)),
 A 19 (.bin .neq (.t 16) (.t 18))] [])
 (.cond (.t 19) (.seq (.region [A 20 (.fld 1 (.t 2)),
 A 21 (.load 1 false (.t 20)),
 A 22 (.fld 1 (.t 3)),
 A 23 (.load 1 false (.t 22)),
 A 24 (.bin .lss (.t 21) (.t 23)),
 A 4 (.mv (.t 24))] [])
 .ret) .skip))
 (.seq (.region [A 25 (.fld 2 (.t 2)),
 A 26 (.load 1 false (.t 25)),
 A 27 (.fld 2 (.t 3)),
 A 28 (.load 1 false (.t 27)),
 A 29 (.bin .lss (.t 26) (.t 28)),
 A 4 (.mv (.t 29))] [])
 .ret)))) }
def a124 : AFunc :=
 { np := 1, nt := 66, mv := false, res := [(.tmp 2)], code :=
 (.seq (.region [A 1 (.box 30 (.t 0)),
 A 2 (.mv (.c .nil))] [])
 (.seq (.region [A 9 (.fld 1 (.t 1)),
 A 10 (.load 1 false (.t 9)),
 A 11 (.len (.t 10)),
 A 12 (.mksl 4 1 1 [(.bool false)] (.t 11) (.t 11)),
 A 3 (.mv (.t 12))] [])
 (.seq (.seq (.region [A 4 (.mv (.c (.bool true)))] [])
 (.block 0 (.loop [1, 3, 4, 35, 36, 37, 38, 39, 40, 43, 44, 45, 46, 47, 48, 49, 50, 54, 55, 56, 57, 58, 59] (.seq (.seq (.region [A 13 (.mv (.t 4))] [])
 (.cond (.t 13) .skip (.exit 0)))
 (.block 1 (.seq (.region [A 4 (.mv (.c (.bool false)))] [])
 (.seq (.region [A 5 (.mv (.c (.int .i64 0)))] [])
 (.block 2 (.loop [1, 3, 4, 5, 35, 36, 37, 38, 39, 40, 43, 44, 45, 46, 47, 48, 49, 50, 54, 55, 56, 57, 58, 59] (.seq (.seq (.region [A 14 (.mv (.t 5)),
 A 15 (.fld 3 (.t 1)),
 A 16 (.load 1 false (.t 15)),
 A 17 (.len (.t 16)),
 A 18 (.bin .lss (.t 14) (.t 17))] [])
 (.cond (.t 18) .skip (.exit 2)))
 (.seq (.block 3 (.seq (.region [A 21 (.fld 3 (.t 1)),
 A 22 (.load 1 false (.t 21)),
 A 23 (.mv (.t 5)),
 A 24 (.ixa 3 (.t 22) (.t 23)),
 A 25 (.load 3 true (.t 24)),
 A 6 (.alloc 55 [(.v (.int .i64 0)), (.v .nil), (.v (.int .i64 0))]),
 ⟨none, (.store 3 (.t 6) (.t 25)), none, 0⟩] [])
 (.seq (.region [A 7 (.mv (.c (.bool true)))] [])
 (.seq (.seq (.region [A 8 (.mv (.c (.int .i64 0)))] [])
 (.block 4 (.loop [1, 3, 4, 5, 6, 7, 8, 35, 36, 37, 38, 39, 40, 43, 44, 45, 46, 47, 48, 49, 50, 54, 55, 56, 57, 58, 59] (.seq (.seq (.region [A 26 (.mv (.t 8)),
 A 27 (.fld 1 (.t 6)),
 A 28 (.load 1 false (.t 27)),
 A 29 (.len (.t 28)),
 A 30 (.bin .lss (.t 26) (.t 29))] [])
 (.cond (.t 30) .skip (.exit 4)))
 (.seq (.block 5 (.region [A 33 (.mv (.t 7)),
 A 34 (.mv (.t 33)),
 ⟨some 35, (.fld 1 (.t 6)), (some (34, true)), 0⟩,
 ⟨some 36, (.load 1 false (.t 35)), (some (34, true)), 0⟩,
 ⟨some 37, (.mv (.t 8)), (some (34, true)), 0⟩,
 ⟨some 38, (.ixa 1 (.t 36) (.t 37)), (some (34, true)), 0⟩,
 ⟨some 39, (.load 1 false (.t 38)), (some (34, true)), 0⟩,
 ⟨some 40, (.bin .geq (.t 39) (.c (.int .i64 0))), (some (34, true)), 0⟩,
 A 41 (.pick (.t 34) (.t 40) (.c (.bool false))),
 A 42 (.mv (.t 41)),
 ⟨some 43, (.mv (.t 3)), (some (42, true)), 0⟩,
 ⟨some 44, (.fld 1 (.t 6)), (some (42, true)), 0⟩,
 ⟨some 45, (.load 1 false (.t 44)), (some (42, true)), 0⟩,
 ⟨some 46, (.mv (.t 8)), (some (42, true)), 0⟩,
 ⟨some 47, (.ixa 1 (.t 45) (.t 46)), (some (42, true)), 0⟩,
 ⟨some 48, (.load 1 false (.t 47)), (some (42, true)), 0⟩,
 ⟨some 49, (.ixa 1 (.t 43) (.t 48)), (some (42, true)), 0⟩,
 ⟨some 50, (.load 1 false (.t 49)), (some (42, true)), 0⟩,
 A 51 (.pick (.t 42) (.t 50) (.c (.bool false))),
 A 7 (.mv (.t 51))] []))
 (.region [A 31 (.mv (.t 8)),
 A 32 (.bin .add (.t 31) (.c (.int .i64 1))),
 A 8 (.mv (.t 32))] []))))))
 (.seq (.region [A 52 (.mv (.t 7)),
 A 53 (.mv (.t 52)),
 ⟨some 54, (.mv (.t 3)), (some (53, true)), 0⟩,
 ⟨some 55, (.fld 0 (.t 6)), (some (53, true)), 0⟩,
 ⟨some 56, (.load 1 false (.t 55)), (some (53, true)), 0⟩,
 ⟨some 57, (.ixa 1 (.t 54) (.t 56)), (some (53, true)), 0⟩,
 ⟨some 58, (.load 1 false (.t 57)), (some (53, true)), 0⟩,
 ⟨some 59, (.un .not (.t 58)), (some (53, true)), 0⟩,
 A 60 (.pick (.t 53) (.t 59) (.c (.bool false)))] [])
 (.cond (.t 60) (.region [A 61 (.mv (.t 3)),
 A 62 (.fld 0 (.t 6)),
 A 63 (.load 1 false (.t 62)),
 A 64 (.ixa 1 (.t 61) (.t 63)),
 ⟨none, (.store 1 (.t 64) (.c (.bool true))), none, 0⟩,
 A 4 (.mv (.c (.bool true)))] []) .skip))))))
 (.region [A 19 (.mv (.t 5)),
 A 20 (.bin .add (.t 19) (.c (.int .i64 1))),
 A 5 (.mv (.t 20))] []))))))))))))
 (.seq (.region [A 65 (.mv (.t 3)),
 A 2 (.mv (.t 65))] [])
 .ret)))) }
def a125 : AFunc :=
 { np := 2, nt := 122, mv := false, res := [(.tmp 4)], code :=
 (.seq (.region [A 2 (.box 30 (.t 0)),
 A 4 (.mv (.c .nil))] [])
 (.seq (.region [A 14 (.load 7 true (.t 2)),
 A 15 (.call 124 [(.t 14)]),
 A 5 (.mv (.t 15))] [])
 (.seq (.region [A 16 (.fld 1 (.t 2)),
 A 17 (.load 1 false (.t 16)),
 A 18 (.len (.t 17)),
 A 19 (.mkrows 42 24 (.t 18) (.t 18)),
 A 6 (.mv (.t 19))] [])
 (.seq (.seq (.region [A 7 (.mv (.c (.int .i64 0)))] [])
 (.block 0 (.loop [1, 2, 5, 6, 7, 82, 83, 84, 85, 86, 87, 88, 89, 90, 91, 92, 95, 96, 97, 98, 99, 100, 101, 102, 103, 115, 116, 117, 118, 119] (.seq (.seq (.region [A 20 (.mv (.t 7)),
 A 21 (.mv (.t 6)),
 A 22 (.len (.t 21)),
 A 23 (.bin .lss (.t 20) (.t 22))] [])
 (.cond (.t 23) .skip (.exit 0)))
 (.seq (.block 1 (.region [A 26 (.mv (.t 6)),
 A 27 (.mv (.t 7)),
 A 28 (.fld 0 (.t 2)),
 A 29 (.load 1 false (.t 28)),
 A 30 (.len (.t 29)),
 A 31 (.mksl 4 1 1 [(.bool false)] (.t 30) (.t 30)),
 A 32 (.ixa 1 (.t 26) (.t 27)),
 ⟨none, (.store 1 (.t 32) (.t 31)), none, 0⟩] []))
 (.region [A 24 (.mv (.t 7)),
 A 25 (.bin .add (.t 24) (.c (.int .i64 1))),
 A 7 (.mv (.t 25))] []))))))
 (.seq (.seq (.region [A 8 (.mv (.c (.bool true)))] [])
 (.block 2 (.loop [1, 2, 5, 6, 8, 82, 83, 84, 85, 86, 87, 88, 89, 90, 91, 92, 95, 96, 97, 98, 99, 100, 101, 102, 103, 115, 116, 117, 118, 119] (.seq (.seq (.region [A 33 (.mv (.t 8))] [])
 (.cond (.t 33) .skip (.exit 2)))
 (.block 3 (.seq (.region [A 8 (.mv (.c (.bool false)))] [])
 (.seq (.region [A 9 (.mv (.c (.int .i64 0)))] [])
 (.block 4 (.loop [1, 2, 5, 6, 8, 9, 82, 83, 84, 85, 86, 87, 88, 89, 90, 91, 92, 95, 96, 97, 98, 99, 100, 101, 102, 103, 115, 116, 117, 118, 119] (.seq (.seq (.region [A 34 (.mv (.t 9)),
 A 35 (.fld 3 (.t 2)),
 A 36 (.load 1 false (.t 35)),
 A 37 (.len (.t 36)),
 A 38 (.bin .lss (.t 34) (.t 37))] [])
 (.cond (.t 38) .skip (.exit 4)))
 (.seq (.block 5 (.seq (.region [A 41 (.fld 3 (.t 2)),
 A 42 (.load 1 false (.t 41)),
 A 43 (.mv (.t 9)),
 A 44 (.ixa 3 (.t 42) (.t 43)),
 A 45 (.load 3 true (.t 44)),
 A 10 (.alloc 55 [(.v (.int .i64 0)), (.v .nil), (.v (.int .i64 0))]),
 ⟨none, (.store 3 (.t 10) (.t 45)), none, 0⟩] [])
 (.seq (.region [A 11 (.mv (.c (.int .i64 0)))] [])
 (.block 6 (.loop [1, 2, 5, 6, 8, 9, 10, 11, 82, 83, 84, 85, 86, 87, 88, 89, 90, 91, 92, 95, 96, 97, 98, 99, 100, 101, 102, 103, 115, 116, 117, 118, 119] (.seq (.seq (.region [A 46 (.mv (.t 11)),
 A 47 (.fld 1 (.t 10)),
 A 48 (.load 1 false (.t 47)),
 A 49 (.len (.t 48)),
 A 50 (.bin .lss (.t 46) (.t 49))] [])
 (.cond (.t 50) .skip (.exit 6)))
 (.seq (.block 7 (.seq (.region [A 53 (.fld 1 (.t 10)),
 A 54 (.load 1 false (.t 53)),
 A 55 (.mv (.t 11)),
 A 56 (.ixa 1 (.t 54) (.t 55)),
 A 57 (.load 1 false (.t 56)),
 A 12 (.mv (.t 57))] [])
 (.seq (.seq (.region [A 58 (.mv (.t 1)),
 A 59 (.un .not (.t 58))] [])
 (.cond (.t 59) (.region [A 60 (.fld 1 (.t 10)),
 A 61 (.load 1 false (.t 60)),
 A 62 (.fld 1 (.t 10)),
 A 63 (.load 1 false (.t 62)),
 A 64 (.len (.t 63)),
 A 65 (.bin .sub (.t 64) (.c (.int .i64 1))),
 A 66 (.mv (.t 11)),
 A 67 (.bin .sub (.t 65) (.t 66)),
 A 68 (.ixa 1 (.t 61) (.t 67)),
 A 69 (.load 1 false (.t 68)),
 A 12 (.mv (.t 69))] []) .skip))
 (.seq (.seq (.region [A 13 (.mv (.c (.int .i64 0)))] [])
 (.block 8 (.loop [1, 2, 5, 6, 8, 9, 10, 11, 12, 13, 82, 83, 84, 85, 86, 87, 88, 89, 90, 91, 92, 95, 96, 97, 98, 99, 100, 101, 102, 103, 115, 116, 117, 118, 119] (.seq (.seq (.region [A 70 (.mv (.t 13)),
 A 71 (.fld 0 (.t 2)),
 A 72 (.load 1 false (.t 71)),
 A 73 (.len (.t 72)),
 A 74 (.bin .lss (.t 70) (.t 73))] [])
 (.cond (.t 74) .skip (.exit 8)))
 (.seq (.block 9 (.seq (.region [A 77 (.mv (.t 12)),
 A 78 (.mv (.t 13)),
 A 79 (.bin .sub (.c (.int .i64 (-1))) (.t 78)),
 A 80 (.bin .eql (.t 77) (.t 79)),
 A 81 (.mv (.t 80)),
 ⟨some 82, (.mv (.t 12)), (some (81, false)), 0⟩,
 ⟨some 83, (.bin .geq (.t 82) (.c (.int .i64 0))), (some (81, false)), 0⟩,
 ⟨some 84, (.mv (.t 83)), (some (81, false)), 0⟩,
 ⟨some 85, (.mv (.t 6)), (some (84, true)), 0⟩,
 ⟨some 86, (.mv (.t 12)), (some (84, true)), 0⟩,
 ⟨some 87, (.ixa 1 (.t 85) (.t 86)), (some (84, true)), 0⟩,
 ⟨some 88, (.load 1 false (.t 87)), (some (84, true)), 0⟩,
 ⟨some 89, (.mv (.t 13)), (some (84, true)), 0⟩,
 ⟨some 90, (.ixa 1 (.t 88) (.t 89)), (some (84, true)), 0⟩,
 ⟨some 91, (.load 1 false (.t 90)), (some (84, true)), 0⟩,
 ⟨some 92, (.pick (.t 84) (.t 91) (.c (.bool false))), (some (81, false)), 0⟩,
 A 93 (.pick (.t 81) (.c (.bool true)) (.t 92)),
 A 94 (.mv (.t 93)),
 ⟨some 95, (.mv (.t 6)), (some (94, true)), 0⟩,
 ⟨some 96, (.fld 0 (.t 10)), (some (94, true)), 0⟩,
 ⟨some 97, (.load 1 false (.t 96)), (some (94, true)), 0⟩,
 ⟨some 98, (.ixa 1 (.t 95) (.t 97)), (some (94, true)), 0⟩,
 ⟨some 99, (.load 1 false (.t 98)), (some (94, true)), 0⟩,
 ⟨some 100, (.mv (.t 13)), (some (94, true)), 0⟩,
 ⟨some 101, (.ixa 1 (.t 99) (.t 100)), (some (94, true)), 0⟩,
 ⟨some 102, (.load 1 false (.t 101)), (some (94, true)), 0⟩,
 ⟨some 103, (.un .not (.t 102)), (some (94, true)), 0⟩,
 A 104 (.pick (.t 94) (.t 103) (.c (.bool false)))] [])
 (.cond (.t 104) (.region [A 105 (.mv (.t 6)),
 A 106 (.fld 0 (.t 10)),
 A 107 (.load 1 false (.t 106)),
 A 108 (.ixa 1 (.t 105) (.t 107)),
 A 109 (.load 1 false (.t 108)),
 A 110 (.mv (.t 13)),
 A 111 (.ixa 1 (.t 109) (.t 110)),
 ⟨none, (.store 1 (.t 111) (.c (.bool true))), none, 0⟩,
 A 8 (.mv (.c (.bool true)))] []) .skip)))
 (.region [A 75 (.mv (.t 13)),
 A 76 (.bin .add (.t 75) (.c (.int .i64 1))),
 A 13 (.mv (.t 76))] []))))))
 (.seq (.region [A 112 (.mv (.t 12)),
 A 113 (.bin .lss (.t 112) (.c (.int .i64 0))),
 A 114 (.mv (.t 113)),
 ⟨some 115, (.mv (.t 5)), (some (114, false)), 0⟩,
 ⟨some 116, (.mv (.t 12)), (some (114, false)), 0⟩,
 ⟨some 117, (.ixa 1 (.t 115) (.t 116)), (some (114, false)), 0⟩,
 ⟨some 118, (.load 1 false (.t 117)), (some (114, false)), 0⟩,
 ⟨some 119, (.un .not (.t 118)), (some (114, false)), 0⟩,
 A 120 (.pick (.t 114) (.c (.bool true)) (.t 119))] [])
 (.cond (.t 120) (.exit 6) .skip))))))
 (.region [A 51 (.mv (.t 11)),
 A 52 (.bin .add (.t 51) (.c (.int .i64 1))),
 A 11 (.mv (.t 52))] []))))))))
 (.region [A 39 (.mv (.t 9)),
 A 40 (.bin .add (.t 39) (.c (.int .i64 1))),
 A 9 (.mv (.t 40))] []))))))))))))
 (.seq (.region [A 121 (.mv (.t 6)),
 A 4 (.mv (.t 121))] [])
 .ret)))))) }
def a126 : AFunc :=
 { np := 1, nt := 42, mv := true, res := [(.tmp 2)], code :=
 (.seq (.region [A 2 (.mv (.c .nil))] [])
 (.seq (.region [A 6 (.mv (.t 0)),
 A 7 (.len (.t 6)),
 A 8 (.mkrows 53 24 (.t 7) (.t 7)),
 A 3 (.mv (.t 8))] [])
 (.seq (.seq (.region [A 4 (.mv (.c (.int .i64 0)))] [])
 (.block 0 (.loop [0, 3, 4] (.seq (.seq (.region [A 9 (.mv (.t 4)),
 A 10 (.mv (.t 0)),
 A 11 (.len (.t 10)),
 A 12 (.bin .lss (.t 9) (.t 11))] [])
 (.cond (.t 12) .skip (.exit 0)))
 (.seq (.block 1 (.seq (.region [A 5 (.mv (.c (.int .i64 0)))] [])
 (.block 2 (.loop [0, 3, 4, 5] (.seq (.seq (.region [A 15 (.mv (.t 5)),
 A 16 (.mv (.t 0)),
 A 17 (.mv (.t 4)),
 A 18 (.ixa 1 (.t 16) (.t 17)),
 A 19 (.load 1 false (.t 18)),
 A 20 (.len (.t 19)),
 A 21 (.bin .lss (.t 15) (.t 20))] [])
 (.cond (.t 21) .skip (.exit 2)))
 (.seq (.block 3 (.seq (.region [A 24 (.mv (.t 0)),
 A 25 (.mv (.t 4)),
 A 26 (.ixa 1 (.t 24) (.t 25)),
 A 27 (.load 1 false (.t 26)),
 A 28 (.mv (.t 5)),
 A 29 (.ixa 1 (.t 27) (.t 28)),
 A 30 (.load 1 false (.t 29))] [])
 (.cond (.t 30) (.region [A 31 (.mv (.t 3)),
 A 32 (.mv (.t 4)),
 A 33 (.mv (.t 3)),
 A 34 (.mv (.t 4)),
 A 35 (.ixa 1 (.t 33) (.t 34)),
 A 36 (.load 1 false (.t 35)),
 A 37 (.mv (.t 5)),
 A 38 (.litF 3 1 1 [(.int .i64 0)] [(0, (.t 37))]),
 A 39 (.app 3 1 8 (.t 36) (.t 38)),
 A 40 (.ixa 1 (.t 31) (.t 32)),
 ⟨none, (.store 1 (.t 40) (.t 39)), none, 0⟩] []) .skip)))
 (.region [A 22 (.mv (.t 5)),
 A 23 (.bin .add (.t 22) (.c (.int .i64 1))),
 A 5 (.mv (.t 23))] [])))))))
 (.region [A 13 (.mv (.t 4)),
 A 14 (.bin .add (.t 13) (.c (.int .i64 1))),
 A 4 (.mv (.t 14))] []))))))
 (.seq (.region [A 41 (.mv (.t 3)),
 A 2 (.mv (.t 41))] [])
 .ret)))) }
def a127 : AFunc :=
 { np := 2, nt := 198, mv := true, res := [(.tmp 4)], code :=
 (.seq (.region [A 2 (.box 63 (.t 0)),
 A 4 (.mv (.c .nil))] [])
 (.seq (.region [A 18 (.mv (.t 1)),
 A 19 (.len (.t 18)),
 A 20 (.bin .add (.t 19) (.c (.int .i64 1))),
 A 5 (.mv (.t 20))] [])
 (.seq (.region [A 21 (.mv (.t 5)),
 A 22 (.call 175 [(.t 21)]),
 A 6 (.mv (.t 22))] [])
 (.seq (.seq (.region [A 23 (.fld 0 (.t 2)),
 A 24 (.load 1 false (.t 23))] [])
 (.block 0 (.seq (.region [A 26 (.bin .eql (.t 24) (.c (.int .i64 1))),
 A 25 (.mv (.t 26))] [])
 (.cond (.t 25) (.seq (.seq (.region [A 7 (.mv (.c (.int .i64 0)))] [])
 (.block 1 (.loop [1, 2, 5, 6, 7] (.seq (.seq (.region [A 27 (.mv (.t 7)),
 A 28 (.bin .add (.t 27) (.c (.int .i64 1))),
 A 29 (.mv (.t 5)),
 A 30 (.bin .lss (.t 28) (.t 29))] [])
 (.cond (.t 30) .skip (.exit 1)))
 (.seq (.block 2 (.region [A 33 (.mv (.t 6)),
 A 34 (.mv (.t 7)),
 ⟨some 35, (.ixa 1 (.t 33) (.t 34)), none, 3⟩,
 ⟨some 36, (.load 1 false (.t 35)), none, 7⟩,
 A 37 (.mv (.t 7)),
 ⟨some 38, (.bin .add (.t 37) (.c (.int .i64 1))), none, 16⟩,
 A 39 (.fld 1 (.t 2)),
 ⟨some 40, (.load 4 true (.t 39)), none, 64⟩,
 A 41 (.mv (.t 1)),
 A 42 (.mv (.t 7)),
 ⟨some 43, (.ixa 1 (.t 41) (.t 42)), none, 768⟩,
 ⟨some 44, (.load 1 false (.t 43)), none, 1792⟩,
 ⟨some 45, (.call 128 [(.t 40), (.t 44)]), none, 4032⟩,
 ⟨some 46, (.ixa 1 (.t 36) (.t 38)), none, 8191⟩,
 ⟨none, (.store 1 (.t 46) (.t 45)), none, 16383⟩] [(0, 12), (1, 12), (2, 12), (3, 12), (4, 12), (5, 12)]))
 (.region [A 31 (.mv (.t 7)),
 A 32 (.bin .add (.t 31) (.c (.int .i64 1))),
 A 7 (.mv (.t 32))] []))))))
 (.seq (.region [A 47 (.mv (.t 6)),
 A 4 (.mv (.t 47))] [])
 .ret)) (.seq (.region [A 49 (.bin .eql (.t 24) (.c (.int .i64 3))),
 A 48 (.mv (.t 49))] [])
 (.cond (.t 48) (.seq (.seq (.region [A 8 (.mv (.c (.int .i64 0)))] [])
 (.block 3 (.loop [1, 2, 5, 6, 8, 88, 89, 90, 91, 92, 93, 94] (.seq (.seq (.region [A 50 (.mv (.t 8)),
 A 51 (.fld 5 (.t 2)),
 A 52 (.load 1 false (.t 51)),
 A 53 (.len (.t 52)),
 A 54 (.bin .lss (.t 50) (.t 53))] [])
 (.cond (.t 54) .skip (.exit 3)))
 (.seq (.block 4 (.seq (.region [A 57 (.fld 5 (.t 2)),
 A 58 (.load 1 false (.t 57)),
 A 59 (.mv (.t 8)),
 A 60 (.ixa 6 (.t 58) (.t 59)),
 A 61 (.load 6 true (.t 60)),
 A 62 (.mv (.t 1)),
 A 63 (.call 127 [(.t 61), (.t 62)]),
 A 9 (.mv (.t 63))] [])
 (.seq (.region [A 10 (.mv (.c (.int .i64 0)))] [])
 (.block 5 (.loop [1, 2, 5, 6, 8, 9, 10, 88, 89, 90, 91, 92, 93, 94] (.seq (.seq (.region [A 64 (.mv (.t 10)),
 A 65 (.mv (.t 5)),
 A 66 (.bin .lss (.t 64) (.t 65))] [])
 (.cond (.t 66) .skip (.exit 5)))
 (.seq (.block 6 (.seq (.region [A 69 (.mv (.t 10)),
 A 11 (.mv (.t 69))] [])
 (.block 7 (.loop [1, 2, 5, 6, 8, 9, 10, 11, 88, 89, 90, 91, 92, 93, 94] (.seq (.seq (.region [A 70 (.mv (.t 11)),
 A 71 (.mv (.t 5)),
 A 72 (.bin .lss (.t 70) (.t 71))] [])
 (.cond (.t 72) .skip (.exit 7)))
 (.seq (.block 8 (.region [A 75 (.mv (.t 6)),
 A 76 (.mv (.t 10)),
 ⟨some 77, (.ixa 1 (.t 75) (.t 76)), none, 3⟩,
 ⟨some 78, (.load 1 false (.t 77)), none, 7⟩,
 A 79 (.mv (.t 11)),
 A 80 (.mv (.t 6)),
 A 81 (.mv (.t 10)),
 ⟨some 82, (.ixa 1 (.t 80) (.t 81)), none, 96⟩,
 ⟨some 83, (.load 1 false (.t 82)), none, 224⟩,
 A 84 (.mv (.t 11)),
 ⟨some 85, (.ixa 1 (.t 83) (.t 84)), none, 992⟩,
 ⟨some 86, (.load 1 false (.t 85)), none, 2016⟩,
 ⟨some 87, (.mv (.t 86)), none, 4064⟩,
 ⟨some 88, (.mv (.t 9)), (some (87, false)), 8160⟩,
 ⟨some 89, (.mv (.t 10)), (some (87, false)), 8160⟩,
 ⟨some 90, (.ixa 1 (.t 88) (.t 89)), (some (87, false)), 32736⟩,
 ⟨some 91, (.load 1 false (.t 90)), (some (87, false)), 65504⟩,
 ⟨some 92, (.mv (.t 11)), (some (87, false)), 8160⟩,
 ⟨some 93, (.ixa 1 (.t 91) (.t 92)), (some (87, false)), 262112⟩,
 ⟨some 94, (.load 1 false (.t 93)), (some (87, false)), 524256⟩,
 ⟨some 95, (.pick (.t 87) (.c (.bool true)) (.t 94)), none, 1048544⟩,
 ⟨some 96, (.ixa 1 (.t 78) (.t 79)), none, 2097151⟩,
 ⟨none, (.store 1 (.t 96) (.t 95)), none, 4194303⟩] []))
 (.region [A 73 (.mv (.t 11)),
 A 74 (.bin .add (.t 73) (.c (.int .i64 1))),
 A 11 (.mv (.t 74))] [])))))))
 (.region [A 67 (.mv (.t 10)),
 A 68 (.bin .add (.t 67) (.c (.int .i64 1))),
 A 10 (.mv (.t 68))] []))))))))
 (.region [A 55 (.mv (.t 8)),
 A 56 (.bin .add (.t 55) (.c (.int .i64 1))),
 A 8 (.mv (.t 56))] []))))))
 (.seq (.region [A 97 (.mv (.t 6)),
 A 4 (.mv (.t 97))] [])
 .ret)) (.seq (.region [A 99 (.bin .eql (.t 24) (.c (.int .i64 2))),
 A 98 (.mv (.t 99))] [])
 (.cond (.t 98) (.seq (.region [A 100 (.mv (.t 5)),
 A 101 (.call 176 [(.t 100)]),
 A 6 (.mv (.t 101))] [])
 (.seq (.seq (.region [A 12 (.mv (.c (.int .i64 0)))] [])
 (.block 9 (.loop [1, 2, 6, 12] (.seq (.seq (.region [A 102 (.mv (.t 12)),
 A 103 (.fld 5 (.t 2)),
 A 104 (.load 1 false (.t 103)),
 A 105 (.len (.t 104)),
 A 106 (.bin .lss (.t 102) (.t 105))] [])
 (.cond (.t 106) .skip (.exit 9)))
 (.seq (.block 10 (.region [A 109 (.mv (.t 6)),
 A 110 (.fld 5 (.t 2)),
 A 111 (.load 1 false (.t 110)),
 A 112 (.mv (.t 12)),
 A 113 (.ixa 6 (.t 111) (.t 112)),
 A 114 (.load 6 true (.t 113)),
 A 115 (.mv (.t 1)),
 A 116 (.call 127 [(.t 114), (.t 115)]),
 A 117 (.call 177 [(.t 109), (.t 116)]),
 A 6 (.mv (.t 117))] []))
 (.region [A 107 (.mv (.t 12)),
 A 108 (.bin .add (.t 107) (.c (.int .i64 1))),
 A 12 (.mv (.t 108))] []))))))
 (.seq (.region [A 118 (.mv (.t 6)),
 A 4 (.mv (.t 118))] [])
 .ret))) .skip))))))))
 (.seq (.region [A 119 (.fld 5 (.t 2)),
 A 120 (.load 1 false (.t 119)),
 A 121 (.ixa 6 (.t 120) (.c (.int .i64 0))),
 A 122 (.load 6 true (.t 121)),
 A 123 (.mv (.t 1)),
 A 124 (.call 127 [(.t 122), (.t 123)]),
 A 13 (.mv (.t 124))] [])
 (.seq (.seq (.region [A 125 (.fld 0 (.t 2)),
 A 126 (.load 1 false (.t 125)),
 A 127 (.bin .eql (.t 126) (.c (.int .i64 6)))] [])
 (.cond (.t 127) (.seq (.seq (.region [A 14 (.mv (.c (.int .i64 0)))] [])
 (.block 11 (.loop [5, 13, 14] (.seq (.seq (.region [A 128 (.mv (.t 14)),
 A 129 (.mv (.t 5)),
 A 130 (.bin .lss (.t 128) (.t 129))] [])
 (.cond (.t 130) .skip (.exit 11)))
 (.seq (.block 12 (.region [A 133 (.mv (.t 13)),
 A 134 (.mv (.t 14)),
 A 135 (.ixa 1 (.t 133) (.t 134)),
 A 136 (.load 1 false (.t 135)),
 A 137 (.mv (.t 14)),
 A 138 (.ixa 1 (.t 136) (.t 137)),
 ⟨none, (.store 1 (.t 138) (.c (.bool true))), none, 0⟩] []))
 (.region [A 131 (.mv (.t 14)),
 A 132 (.bin .add (.t 131) (.c (.int .i64 1))),
 A 14 (.mv (.t 132))] []))))))
 (.seq (.region [A 139 (.mv (.t 13)),
 A 4 (.mv (.t 139))] [])
 .ret)) .skip))
 (.seq (.region [A 140 (.mv (.t 5)),
 A 141 (.call 176 [(.t 140)]),
 A 6 (.mv (.t 141))] [])
 (.seq (.seq (.region [A 15 (.mv (.c (.int .i64 0)))] [])
 (.block 13 (.loop [2, 5, 6, 13, 15, 159, 160, 161, 162, 163, 164, 165, 182, 183, 184, 185, 186, 187, 188] (.seq (.seq (.region [A 142 (.mv (.t 15)),
 A 143 (.mv (.t 5)),
 A 144 (.bin .lss (.t 142) (.t 143))] [])
 (.cond (.t 144) .skip (.exit 13)))
 (.seq (.block 14 (.seq (.region [A 147 (.mv (.t 15)),
 A 16 (.mv (.t 147))] [])
 (.block 15 (.loop [2, 5, 6, 13, 15, 16, 159, 160, 161, 162, 163, 164, 165, 182, 183, 184, 185, 186, 187, 188] (.seq (.seq (.region [A 148 (.mv (.t 16)),
 A 149 (.mv (.t 5)),
 A 150 (.bin .lss (.t 148) (.t 149))] [])
 (.cond (.t 150) .skip (.exit 15)))
 (.seq (.block 16 (.seq (.region [A 153 (.mv (.t 16)),
 A 154 (.bin .add (.t 153) (.c (.int .i64 1))),
 A 17 (.mv (.t 154))] [])
 (.block 17 (.loop [2, 5, 6, 13, 15, 16, 17, 159, 160, 161, 162, 163, 164, 165, 182, 183, 184, 185, 186, 187, 188] (.seq (.seq (.region [A 155 (.mv (.t 17)),
 A 156 (.mv (.t 5)),
 A 157 (.bin .lss (.t 155) (.t 156)),
 A 158 (.mv (.t 157)),
 ⟨some 159, (.mv (.t 6)), (some (158, true)), 0⟩,
 ⟨some 160, (.mv (.t 15)), (some (158, true)), 0⟩,
 ⟨some 161, (.ixa 1 (.t 159) (.t 160)), (some (158, true)), 0⟩,
 ⟨some 162, (.load 1 false (.t 161)), (some (158, true)), 0⟩,
 ⟨some 163, (.mv (.t 16)), (some (158, true)), 0⟩,
 ⟨some 164, (.ixa 1 (.t 162) (.t 163)), (some (158, true)), 0⟩,
 ⟨some 165, (.load 1 false (.t 164)), (some (158, true)), 0⟩,
 A 166 (.pick (.t 158) (.t 165) (.c (.bool false)))] [])
 (.cond (.t 166) .skip (.exit 17)))
 (.seq (.block 18 (.region [A 169 (.mv (.t 6)),
 A 170 (.mv (.t 15)),
 ⟨some 171, (.ixa 1 (.t 169) (.t 170)), none, 3⟩,
 ⟨some 172, (.load 1 false (.t 171)), none, 7⟩,
 A 173 (.mv (.t 17)),
 A 174 (.mv (.t 6)),
 A 175 (.mv (.t 15)),
 ⟨some 176, (.ixa 1 (.t 174) (.t 175)), none, 96⟩,
 ⟨some 177, (.load 1 false (.t 176)), none, 224⟩,
 A 178 (.mv (.t 17)),
 ⟨some 179, (.ixa 1 (.t 177) (.t 178)), none, 992⟩,
 ⟨some 180, (.load 1 false (.t 179)), none, 2016⟩,
 ⟨some 181, (.mv (.t 180)), none, 4064⟩,
 ⟨some 182, (.mv (.t 13)), (some (181, false)), 8160⟩,
 ⟨some 183, (.mv (.t 16)), (some (181, false)), 8160⟩,
 ⟨some 184, (.ixa 1 (.t 182) (.t 183)), (some (181, false)), 32736⟩,
 ⟨some 185, (.load 1 false (.t 184)), (some (181, false)), 65504⟩,
 ⟨some 186, (.mv (.t 17)), (some (181, false)), 8160⟩,
 ⟨some 187, (.ixa 1 (.t 185) (.t 186)), (some (181, false)), 262112⟩,
 ⟨some 188, (.load 1 false (.t 187)), (some (181, false)), 524256⟩,
 ⟨some 189, (.pick (.t 181) (.c (.bool true)) (.t 188)), none, 1048544⟩,
 ⟨some 190, (.ixa 1 (.t 172) (.t 173)), none, 2097151⟩,
 ⟨none, (.store 1 (.t 190) (.t 189)), none, 4194303⟩] []))
 (.region [A 167 (.mv (.t 17)),
 A 168 (.bin .add (.t 167) (.c (.int .i64 1))),
 A 17 (.mv (.t 168))] [])))))))
 (.region [A 151 (.mv (.t 16)),
 A 152 (.bin .add (.t 151) (.c (.int .i64 1))),
 A 16 (.mv (.t 152))] [])))))))
 (.region [A 145 (.mv (.t 15)),
 A 146 (.bin .add (.t 145) (.c (.int .i64 1))),
 A 15 (.mv (.t 146))] []))))))
 (.seq (.seq (.region [A 191 (.fld 0 (.t 2)),
 A 192 (.load 1 false (.t 191)),
 A 193 (.bin .eql (.t 192) (.c (.int .i64 5)))] [])
 (.cond (.t 193) (.seq (.region [A 194 (.mv (.t 13)),
 A 195 (.mv (.t 6)),
 A 196 (.call 177 [(.t 194), (.t 195)]),
 A 4 (.mv (.t 196))] [])
 .ret) .skip))
 (.seq (.region [A 197 (.mv (.t 6)),
 A 4 (.mv (.t 197))] [])
 .ret)))))))))) }
def a128 : AFunc :=
 { np := 2, nt := 14, mv := false, res := [(.tmp 4)], code :=
 (.seq (.region [A 2 (.box 60 (.t 0)),
 A 4 (.mv (.c (.bool false)))] [])
 (.seq (.region [A 5 (.mv (.t 1)),
 A 6 (.bin .quo (.t 5) (.c (.int .u8 64))),
 A 7 (.ixp 1 4 (.t 2) (.t 6)),
 A 8 (.load 1 false (.t 7)),
 A 9 (.mv (.t 1)),
 A 10 (.bin .rem (.t 9) (.c (.int .u8 64))),
 A 11 (.bin .shr (.t 8) (.t 10)),
 A 12 (.bin .and (.t 11) (.c (.int .u64 1))),
 A 13 (.bin .eql (.t 12) (.c (.int .u64 1))),
 A 4 (.mv (.t 13))] [])
 .ret)) }
def a129 : AFunc :=
 { np := 1, nt := 14, mv := false, res := [(.tmp 2)], code :=
 (.seq (.region [A 1 (.box 63 (.t 0)),
 A 2 (.mv (.c (.int .i64 0)))] [])
 (.seq (.seq (.region [A 3 (.load 6 true (.t 1)),
 A 4 (.call 178 [(.t 3)]),
 A 5 (.un .not (.t 4))] [])
 (.cond (.t 5) (.seq (.region [A 2 (.mv (.c (.int .i64 2)))] [])
 .ret) .skip))
 (.seq (.seq (.region [A 6 (.load 6 true (.t 1)),
 A 7 (.call 179 [(.t 6)]),
 A 8 (.bin .gtr (.t 7) (.c (.int .i64 40))),
 A 9 (.mv (.t 8)),
 ⟨some 10, (.load 6 true (.t 1)), (some (9, false)), 0⟩,
 ⟨some 11, (.call 180 [(.t 10)]), (some (9, false)), 0⟩,
 ⟨some 12, (.bin .gtr (.t 11) (.c (.int .i64 12))), (some (9, false)), 0⟩,
 A 13 (.pick (.t 9) (.c (.bool true)) (.t 12))] [])
 (.cond (.t 13) (.seq (.region [A 2 (.mv (.c (.int .i64 6)))] [])
 .ret) .skip))
 (.seq (.region [A 2 (.mv (.c (.int .i64 0)))] [])
 .ret)))) }
def a130 : AFunc :=
 { np := 2, nt := 161, mv := false, res := [(.cell 4 5 true)], code :=
 (.seq (.region [A 3 (.box 63 (.t 1)),
 A 4 (.alloc 159 [(.v .nil), (.v .nil), (.v .nil), (.v .nil), (.v (.bool false))])] [])
 (.seq (.seq (.region [A 13 (.fld 0 (.t 3)),
 A 14 (.load 1 false (.t 13))] [])
 (.block 0 (.seq (.region [A 16 (.bin .eql (.t 14) (.c (.int .i64 1))),
 A 15 (.mv (.t 16))] [])
 (.cond (.t 15) (.seq (.region [A 17 (.mv (.t 0)),
 A 18 (.chk (.t 17)),
 A 19 (.fld 0 (.t 18)),
 A 20 (.load 1 false (.t 19)),
 A 21 (.len (.t 20)),
 A 5 (.mv (.t 21))] [])
 (.seq (.region [A 22 (.mv (.t 0)),
 A 23 (.mv (.t 0)),
 A 24 (.mv (.t 0)),
 ⟨some 25, (.chk (.t 24)), none, 4⟩,
 ⟨some 26, (.fld 0 (.t 25)), none, 12⟩,
 ⟨some 27, (.load 1 false (.t 26)), none, 28⟩,
 A 28 (.fld 1 (.t 3)),
 ⟨some 29, (.load 4 true (.t 28)), none, 64⟩,
 ⟨some 30, (.litF 60 4 1 [(.int .u64 0), (.int .u64 0), (.int .u64 0), (.int .u64 0)] [(0, (.t 29))]), none, 192⟩,
 ⟨some 31, (.app 60 4 32 (.t 27) (.t 30)), none, 508⟩,
 A 32 (.mv (.t 0)),
 ⟨some 33, (.chk (.t 32)), none, 1024⟩,
 ⟨some 34, (.fld 3 (.t 33)), none, 3072⟩,
 ⟨some 35, (.load 1 false (.t 34)), none, 7168⟩,
 A 36 (.litF 53 1 1 [.nil] [(0, (.c .nil))]),
 ⟨some 37, (.app 53 1 24 (.t 35) (.t 36)), none, 32764⟩,
 ⟨some 38, (.chk (.t 22)), none, 65533⟩,
 ⟨some 39, (.fld 0 (.t 38)), none, 131069⟩,
 ⟨none, (.store 1 (.t 39) (.t 31)), none, 262141⟩,
 ⟨some 40, (.chk (.t 23)), none, 524287⟩,
 ⟨some 41, (.fld 3 (.t 40)), none, 1048575⟩,
 ⟨none, (.store 1 (.t 41) (.t 37)), none, 2097151⟩] [(0, 9), (0, 15), (1, 9), (1, 15), (1, 18), (10, 9), (11, 9), (12, 9), (13, 9), (14, 9)])
 (.seq (.region [A 42 (.mv (.t 5)),
 A 43 (.lit 3 1 1 [(.int .i64 0)] [(0, (.t 42))]),
 A 44 (.mv (.t 5)),
 A 45 (.lit 3 1 1 [(.int .i64 0)] [(0, (.t 44))]),
 A 46 (.build [.nil, .nil, .nil, .nil, (.bool false)] [(1, 1, (.t 43)), (2, 1, (.t 45))]),
 ⟨none, (.store 5 (.t 4) (.t 46)), none, 0⟩] [])
 .ret))) (.seq (.region [A 48 (.bin .eql (.t 14) (.c (.int .i64 3))),
 A 47 (.mv (.t 48))] [])
 (.cond (.t 47) (.seq (.region [A 6 (.alloc 159 [(.v .nil), (.v .nil), (.v .nil), (.v .nil), (.v (.bool false))])] [])
 (.seq (.seq (.region [A 7 (.mv (.c (.int .i64 0)))] [])
 (.block 1 (.loop [0, 3, 4, 6, 7, 76, 77] (.seq (.seq (.region [A 49 (.mv (.t 7)),
 A 50 (.fld 5 (.t 3)),
 A 51 (.load 1 false (.t 50)),
 A 52 (.len (.t 51)),
 A 53 (.bin .lss (.t 49) (.t 52))] [])
 (.cond (.t 53) .skip (.exit 1)))
 (.seq (.block 2 (.seq (.region [A 56 (.mv (.t 0)),
 A 57 (.fld 5 (.t 3)),
 A 58 (.load 1 false (.t 57)),
 A 59 (.mv (.t 7)),
 A 60 (.ixa 6 (.t 58) (.t 59)),
 A 61 (.load 6 true (.t 60)),
 A 62 (.call 130 [(.t 56), (.t 61)]),
 A 8 (.alloc 159 [(.v .nil), (.v .nil), (.v .nil), (.v .nil), (.v (.bool false))]),
 ⟨none, (.store 5 (.t 8) (.t 62)), none, 0⟩] [])
 (.region [A 63 (.fld 1 (.t 6)),
 ⟨some 64, (.load 1 false (.t 63)), none, 1⟩,
 A 65 (.fld 1 (.t 8)),
 ⟨some 66, (.load 1 false (.t 65)), none, 4⟩,
 ⟨some 67, (.app 3 1 8 (.t 64) (.t 66)), none, 15⟩,
 A 68 (.fld 2 (.t 6)),
 ⟨some 69, (.load 1 false (.t 68)), none, 32⟩,
 A 70 (.fld 2 (.t 8)),
 ⟨some 71, (.load 1 false (.t 70)), none, 128⟩,
 ⟨some 72, (.app 3 1 8 (.t 69) (.t 71)), none, 511⟩,
 A 73 (.fld 4 (.t 6)),
 ⟨some 74, (.load 1 false (.t 73)), none, 1024⟩,
 ⟨some 75, (.mv (.t 74)), none, 4095⟩,
 ⟨some 76, (.fld 4 (.t 8)), (some (75, false)), 8191⟩,
 ⟨some 77, (.load 1 false (.t 76)), (some (75, false)), 16383⟩,
 ⟨some 78, (.pick (.t 75) (.c (.bool true)) (.t 77)), none, 32767⟩,
 ⟨some 79, (.fld 1 (.t 6)), none, 3199⟩,
 ⟨none, (.store 1 (.t 79) (.t 67)), none, 73727⟩,
 ⟨some 80, (.fld 2 (.t 6)), none, 204799⟩,
 ⟨none, (.store 1 (.t 80) (.t 72)), none, 466943⟩,
 ⟨some 81, (.fld 4 (.t 6)), none, 1048575⟩,
 ⟨none, (.store 1 (.t 81) (.t 78)), none, 2097151⟩] [(5, 4), (6, 4), (7, 4), (8, 4), (10, 4), (10, 9), (11, 4), (11, 9), (13, 17), (13, 19), (14, 17), (14, 19), (15, 17), (15, 19), (16, 9)])))
 (.region [A 54 (.mv (.t 7)),
 A 55 (.bin .add (.t 54) (.c (.int .i64 1))),
 A 7 (.mv (.t 55))] []))))))
 (.seq (.region [A 82 (.load 5 true (.t 6)),
 ⟨none, (.store 5 (.t 4) (.t 82)), none, 0⟩] [])
 .ret))) (.seq (.region [A 84 (.bin .eql (.t 14) (.c (.int .i64 2))),
 A 83 (.mv (.t 84))] [])
 (.cond (.t 83) (.seq (.region [A 85 (.build [.nil, .nil, .nil, .nil, (.bool false)] [(4, 1, (.c (.bool true)))]),
 A 9 (.alloc 159 [(.v .nil), (.v .nil), (.v .nil), (.v .nil), (.v (.bool false))]),
 ⟨none, (.store 5 (.t 9) (.t 85)), none, 0⟩] [])
 (.seq (.seq (.region [A 10 (.mv (.c (.int .i64 0)))] [])
 (.block 3 (.loop [0, 3, 4, 9, 10, 132, 133] (.seq (.seq (.region [A 86 (.mv (.t 10)),
 A 87 (.fld 5 (.t 3)),
 A 88 (.load 1 false (.t 87)),
 A 89 (.len (.t 88)),
 A 90 (.bin .lss (.t 86) (.t 89))] [])
 (.cond (.t 90) .skip (.exit 3)))
 (.seq (.block 4 (.seq (.region [A 93 (.mv (.t 0)),
 A 94 (.fld 5 (.t 3)),
 A 95 (.load 1 false (.t 94)),
 A 96 (.mv (.t 10)),
 A 97 (.ixa 6 (.t 95) (.t 96)),
 A 98 (.load 6 true (.t 97)),
 A 99 (.call 130 [(.t 93), (.t 98)]),
 A 11 (.alloc 159 [(.v .nil), (.v .nil), (.v .nil), (.v .nil), (.v (.bool false))]),
 ⟨none, (.store 5 (.t 11) (.t 99)), none, 0⟩] [])
 (.seq (.region [A 100 (.mv (.t 0)),
 A 101 (.fld 2 (.t 9)),
 A 102 (.load 1 false (.t 101)),
 A 103 (.fld 1 (.t 11)),
 A 104 (.load 1 false (.t 103)),
 A 105 (.call 181 [(.t 100), (.t 102), (.t 104)])] [])
 (.seq (.seq (.region [A 106 (.fld 4 (.t 9)),
 A 107 (.load 1 false (.t 106))] [])
 (.cond (.t 107) (.region [A 108 (.litF 3 1 0 [(.int .i64 0)] []),
 A 109 (.fld 1 (.t 9)),
 ⟨some 110, (.load 1 false (.t 109)), none, 2⟩,
 ⟨some 111, (.app 3 1 8 (.t 108) (.t 110)), none, 7⟩,
 A 112 (.fld 1 (.t 11)),
 ⟨some 113, (.load 1 false (.t 112)), none, 16⟩,
 ⟨some 114, (.app 3 1 8 (.t 111) (.t 113)), none, 63⟩,
 ⟨some 115, (.fld 1 (.t 9)), none, 127⟩,
 ⟨none, (.store 1 (.t 115) (.t 114)), none, 255⟩] [(4, 3), (5, 3)]) .skip))
 (.seq (.seq (.region [A 116 (.fld 4 (.t 11)),
 A 117 (.load 1 false (.t 116))] [])
 (.cond (.t 117) (.region [A 118 (.litF 3 1 0 [(.int .i64 0)] []),
 A 119 (.fld 2 (.t 9)),
 ⟨some 120, (.load 1 false (.t 119)), none, 2⟩,
 ⟨some 121, (.app 3 1 8 (.t 118) (.t 120)), none, 7⟩,
 A 122 (.fld 2 (.t 11)),
 ⟨some 123, (.load 1 false (.t 122)), none, 16⟩,
 ⟨some 124, (.app 3 1 8 (.t 121) (.t 123)), none, 63⟩,
 ⟨some 125, (.fld 2 (.t 9)), none, 127⟩,
 ⟨none, (.store 1 (.t 125) (.t 124)), none, 255⟩] [(4, 3), (5, 3)]) (.region [A 126 (.fld 2 (.t 11)),
 A 127 (.load 1 false (.t 126)),
 A 128 (.fld 2 (.t 9)),
 ⟨none, (.store 1 (.t 128) (.t 127)), none, 0⟩] [])))
 (.region [A 129 (.fld 4 (.t 9)),
 A 130 (.load 1 false (.t 129)),
 A 131 (.mv (.t 130)),
 ⟨some 132, (.fld 4 (.t 11)), (some (131, true)), 0⟩,
 ⟨some 133, (.load 1 false (.t 132)), (some (131, true)), 0⟩,
 A 134 (.pick (.t 131) (.t 133) (.c (.bool false))),
 A 135 (.fld 4 (.t 9)),
 ⟨none, (.store 1 (.t 135) (.t 134)), none, 0⟩] []))))))
 (.region [A 91 (.mv (.t 10)),
 A 92 (.bin .add (.t 91) (.c (.int .i64 1))),
 A 10 (.mv (.t 92))] []))))))
 (.seq (.region [A 136 (.load 5 true (.t 9)),
 ⟨none, (.store 5 (.t 4) (.t 136)), none, 0⟩] [])
 .ret))) .skip))))))))
 (.seq (.region [A 137 (.mv (.t 0)),
 A 138 (.fld 5 (.t 3)),
 A 139 (.load 1 false (.t 138)),
 A 140 (.ixa 6 (.t 139) (.c (.int .i64 0))),
 A 141 (.load 6 true (.t 140)),
 A 142 (.call 130 [(.t 137), (.t 141)]),
 A 12 (.alloc 159 [(.v .nil), (.v .nil), (.v .nil), (.v .nil), (.v (.bool false))]),
 ⟨none, (.store 5 (.t 12) (.t 142)), none, 0⟩] [])
 (.seq (.seq (.region [A 143 (.fld 0 (.t 3)),
 A 144 (.load 1 false (.t 143)),
 A 145 (.bin .neq (.t 144) (.c (.int .i64 6)))] [])
 (.cond (.t 145) (.region [A 146 (.mv (.t 0)),
 A 147 (.fld 2 (.t 12)),
 A 148 (.load 1 false (.t 147)),
 A 149 (.fld 1 (.t 12)),
 A 150 (.load 1 false (.t 149)),
 A 151 (.call 181 [(.t 146), (.t 148), (.t 150)])] []) .skip))
 (.seq (.region [A 152 (.fld 4 (.t 12)),
 A 153 (.load 1 false (.t 152)),
 A 154 (.mv (.t 153)),
 ⟨some 155, (.fld 0 (.t 3)), (some (154, false)), 0⟩,
 ⟨some 156, (.load 1 false (.t 155)), (some (154, false)), 0⟩,
 ⟨some 157, (.bin .neq (.t 156) (.c (.int .i64 5))), (some (154, false)), 0⟩,
 A 158 (.pick (.t 154) (.c (.bool true)) (.t 157)),
 A 159 (.fld 4 (.t 12)),
 ⟨none, (.store 1 (.t 159) (.t 158)), none, 0⟩] [])
 (.seq (.region [A 160 (.load 5 true (.t 12)),
 ⟨none, (.store 5 (.t 4) (.t 160)), none, 0⟩] [])
 .ret)))))) }
def a131 : AFunc :=
 { np := 1, nt := 60, mv := false, res := [(.tmp 2)], code :=
 (.seq (.region [A 2 (.mv (.c .nil))] [])
 (.seq (.region [A 3 (.frz (.c .nil))] [])
 (.seq (.seq (.region [A 4 (.mv (.c (.int .i64 0)))] [])
 (.block 0 (.loop [0, 3, 4, 17, 18, 19, 20, 21, 22, 23, 24, 25, 34, 35, 36, 37, 38, 39, 40, 41, 42] (.seq (.seq (.region [A 6 (.mv (.t 4)),
 A 7 (.mv (.t 0)),
 A 8 (.len (.t 7)),
 A 9 (.bin .lss (.t 6) (.t 8))] [])
 (.cond (.t 9) .skip (.exit 0)))
 (.seq (.block 1 (.seq (.region [A 5 (.mv (.c (.int .i64 0)))] [])
 (.seq (.block 2 (.loop [0, 3, 4, 5, 17, 18, 19, 20, 21, 22, 23, 24, 25, 34, 35, 36, 37, 38, 39, 40, 41, 42] (.seq (.seq (.region [A 12 (.mv (.t 5)),
 A 13 (.mv (.t 3)),
 ⟨some 14, (.len (.t 13)), none, 2⟩,
 ⟨some 15, (.bin .lss (.t 12) (.t 14)), none, 7⟩,
 ⟨some 16, (.mv (.t 15)), none, 15⟩,
 ⟨some 17, (.mv (.t 3)), (some (16, true)), 31⟩,
 ⟨some 18, (.mv (.t 5)), (some (16, true)), 31⟩,
 ⟨some 19, (.ixa 1 (.t 17) (.t 18)), (some (16, true)), 127⟩,
 ⟨some 20, (.load 1 false (.t 19)), (some (16, true)), 255⟩,
 ⟨some 21, (.mv (.t 0)), (some (16, true)), 31⟩,
 ⟨some 22, (.mv (.t 4)), (some (16, true)), 31⟩,
 ⟨some 23, (.ixa 1 (.t 21) (.t 22)), (some (16, true)), 1567⟩,
 ⟨some 24, (.load 1 false (.t 23)), (some (16, true)), 3615⟩,
 ⟨some 25, (.bin .lss (.t 20) (.t 24)), (some (16, true)), 8191⟩,
 ⟨some 26, (.pick (.t 16) (.t 25) (.c (.bool false))), none, 16383⟩] [])
 (.cond (.t 26) .skip (.exit 2)))
 (.block 3 (.region [A 27 (.mv (.t 5)),
 A 28 (.bin .add (.t 27) (.c (.int .i64 1))),
 A 5 (.mv (.t 28))] [])))))
 (.seq (.region [A 29 (.mv (.t 5)),
 A 30 (.mv (.t 3)),
 ⟨some 31, (.len (.t 30)), none, 2⟩,
 ⟨some 32, (.bin .eql (.t 29) (.t 31)), none, 7⟩,
 ⟨some 33, (.mv (.t 32)), none, 15⟩,
 ⟨some 34, (.mv (.t 3)), (some (33, false)), 31⟩,
 ⟨some 35, (.mv (.t 5)), (some (33, false)), 31⟩,
 ⟨some 36, (.ixa 1 (.t 34) (.t 35)), (some (33, false)), 127⟩,
 ⟨some 37, (.load 1 false (.t 36)), (some (33, false)), 255⟩,
 ⟨some 38, (.mv (.t 0)), (some (33, false)), 31⟩,
 ⟨some 39, (.mv (.t 4)), (some (33, false)), 31⟩,
 ⟨some 40, (.ixa 1 (.t 38) (.t 39)), (some (33, false)), 1567⟩,
 ⟨some 41, (.load 1 false (.t 40)), (some (33, false)), 3615⟩,
 ⟨some 42, (.bin .neq (.t 37) (.t 41)), (some (33, false)), 8191⟩,
 ⟨some 43, (.pick (.t 33) (.c (.bool true)) (.t 42)), none, 16383⟩] [])
 (.cond (.t 43) (.region [A 44 (.litF 3 1 0 [(.int .i64 0)] []),
 A 45 (.mv (.t 3)),
 A 46 (.mv (.t 5)),
 ⟨some 47, (.cutD 1 (.t 45) none (some (.t 46))), none, 6⟩,
 ⟨some 48, (.app 3 1 8 (.t 44) (.t 47)), none, 15⟩,
 A 49 (.mv (.t 0)),
 A 50 (.mv (.t 4)),
 ⟨some 51, (.ixa 1 (.t 49) (.t 50)), none, 96⟩,
 ⟨some 52, (.load 1 false (.t 51)), none, 224⟩,
 ⟨some 53, (.litF 3 1 1 [(.int .i64 0)] [(0, (.t 52))]), none, 480⟩,
 ⟨some 54, (.app 3 1 8 (.t 48) (.t 53)), none, 1023⟩,
 A 55 (.mv (.t 3)),
 A 56 (.mv (.t 5)),
 ⟨some 57, (.cutD 1 (.t 55) (some (.t 56)) none), none, 6144⟩,
 ⟨some 58, (.app 3 1 8 (.t 54) (.t 57)), none, 16383⟩,
 ⟨some 3, (.frz (.t 58)), none, 32767⟩] [(5, 4), (6, 4), (7, 4), (8, 4), (9, 4), (11, 4), (11, 10), (12, 4), (12, 10), (13, 4), (13, 10)]) .skip)))))
 (.region [A 10 (.mv (.t 4)),
 A 11 (.bin .add (.t 10) (.c (.int .i64 1))),
 A 4 (.mv (.t 11))] []))))))
 (.seq (.region [A 59 (.mv (.t 3)),
 A 2 (.mv (.t 59))] [])
 .ret)))) }
end Go.Vm.T
