/- The program's functions, as the evaluator takes them: part 2. -/
import Derived.Test.YtohmnikaeoaacaaGreatV4
namespace Go.Vm.T
def a134 : AFunc :=
 { np := 1, nt := 30, mv := false, res := [(.cell 2 5 true), (.tmp 3)], code :=
 (.seq (.region [A 1 (.box 63 (.t 0)),
 A 2 (.alloc 219 [(.v .nil), (.v .nil), (.v .nil), (.v .nil), (.v (.bool false))]),
 A 3 (.mv (.c (.int .i64 0)))] [])
 (.seq (.seq (.region [A 7 (.load 6 true (.t 1)),
 A 8 (.call 182 [(.t 7)]),
 A 4 (.mv (.t 8))] [])
 (.seq (.region [A 9 (.mv (.t 4)),
 A 10 (.bin .neq (.t 9) (.c (.int .i64 0)))] [])
 (.cond (.t 10) (.seq (.region [A 11 (.build [.nil, .nil, .nil, .nil, (.bool false)] []),
 A 12 (.mv (.t 4)),
 ⟨none, (.store 5 (.t 2) (.t 11)), none, 0⟩,
 A 3 (.mv (.t 12))] [])
 .ret) .skip)))
 (.seq (.region [A 5 (.alloc 219 [(.v .nil), (.v .nil), (.v .nil), (.v .nil), (.v (.bool false))])] [])
 (.seq (.region [A 13 (.load 6 true (.t 1)),
 A 14 (.call 183 [(.t 5), (.t 13)]),
 A 6 (.alloc 259 [(.v .nil), (.v .nil), (.v (.bool false))]),
 ⟨none, (.store 3 (.t 6) (.t 14)), none, 0⟩] [])
 (.seq (.seq (.region [A 15 (.fld 0 (.t 5)),
 A 16 (.load 1 false (.t 15)),
 A 17 (.len (.t 16)),
 A 18 (.bin .gtr (.t 17) (.c (.int .i64 40)))] [])
 (.cond (.t 18) (.seq (.region [A 19 (.build [.nil, .nil, .nil, .nil, (.bool false)] []),
 ⟨none, (.store 5 (.t 2) (.t 19)), none, 0⟩,
 A 3 (.mv (.c (.int .i64 6)))] [])
 .ret) .skip))
 (.seq (.region [A 20 (.fld 0 (.t 6)),
 ⟨some 21, (.load 1 false (.t 20)), none, 1⟩,
 A 22 (.fld 1 (.t 6)),
 ⟨some 23, (.load 1 false (.t 22)), none, 4⟩,
 A 24 (.fld 2 (.t 6)),
 ⟨some 25, (.load 1 false (.t 24)), none, 16⟩,
 ⟨some 26, (.fld 1 (.t 5)), none, 3⟩,
 ⟨none, (.store 1 (.t 26) (.t 21)), none, 67⟩,
 ⟨some 27, (.fld 2 (.t 5)), none, 207⟩,
 ⟨none, (.store 1 (.t 27) (.t 23)), none, 463⟩,
 ⟨some 28, (.fld 4 (.t 5)), none, 1023⟩,
 ⟨none, (.store 1 (.t 28) (.t 25)), none, 2047⟩] [(2, 7), (3, 7), (4, 7), (4, 9), (5, 7), (5, 9)])
 (.seq (.region [A 29 (.load 5 true (.t 5)),
 ⟨none, (.store 5 (.t 2) (.t 29)), none, 0⟩,
 A 3 (.mv (.c (.int .i64 0)))] [])
 .ret))))))) }
def a135 : AFunc :=
 { np := 1, nt := 53, mv := false, res := [(.tmp 2)], code :=
 (.seq (.region [A 2 (.mv (.c (.bool false)))] [])
 (.seq (.seq (.region [A 5 (.mv (.t 0)),
 A 6 (.lenS (.t 5)),
 A 7 (.bin .lss (.t 6) (.c (.int .i64 1))),
 A 8 (.mv (.t 7)),
 ⟨some 9, (.mv (.t 0)), (some (8, false)), 0⟩,
 ⟨some 10, (.lenS (.t 9)), (some (8, false)), 0⟩,
 ⟨some 11, (.bin .gtr (.t 10) (.c (.int .i64 12))), (some (8, false)), 0⟩,
 A 12 (.pick (.t 8) (.c (.bool true)) (.t 11)),
 A 13 (.mv (.t 12)),
 ⟨some 14, (.mv (.t 0)), (some (13, false)), 0⟩,
 ⟨some 15, (.ixs (.t 14) (.c (.int .i64 0))), (some (13, false)), 0⟩,
 ⟨some 16, (.bin .lss (.t 15) (.c (.int .u8 97))), (some (13, false)), 0⟩,
 A 17 (.pick (.t 13) (.c (.bool true)) (.t 16))] [])
 (.cond (.t 17) (.seq (.region [A 2 (.mv (.c (.bool false)))] [])
 .ret) .skip))
 (.seq (.seq (.region [A 18 (.mv (.t 0)),
 A 19 (.lenS (.t 18)),
 A 20 (.mv (.c (.int .i64 0)))] [])
 (.block 0 (.loop [0, 19, 20, 29, 30, 33, 34, 35, 36, 37, 38, 41, 42, 49, 50, 51] (.seq (.region [A 21 (.bin .lss (.t 20) (.t 19))] [])
 (.seq (.cond (.t 21) .skip (.exit 0))
 (.seq (.block 1 (.seq (.region [A 22 (.mv (.t 20)),
 A 3 (.mv (.t 22))] [])
 (.seq (.region [A 23 (.mv (.t 0)),
 A 24 (.mv (.t 3)),
 A 25 (.ixs (.t 23) (.t 24)),
 A 4 (.mv (.t 25))] [])
 (.seq (.region [A 26 (.mv (.t 4)),
 A 27 (.bin .lss (.t 26) (.c (.int .u8 97))),
 A 28 (.mv (.t 27)),
 ⟨some 29, (.mv (.t 4)), (some (28, false)), 0⟩,
 ⟨some 30, (.bin .gtr (.t 29) (.c (.int .u8 122))), (some (28, false)), 0⟩,
 A 31 (.pick (.t 28) (.c (.bool true)) (.t 30)),
 A 32 (.mv (.t 31)),
 ⟨some 33, (.mv (.t 4)), (some (32, true)), 0⟩,
 ⟨some 34, (.bin .lss (.t 33) (.c (.int .u8 48))), (some (32, true)), 0⟩,
 ⟨some 35, (.mv (.t 34)), (some (32, true)), 0⟩,
 ⟨some 36, (.mv (.t 4)), (some (35, false)), 0⟩,
 ⟨some 37, (.bin .gtr (.t 36) (.c (.int .u8 57))), (some (35, false)), 0⟩,
 ⟨some 38, (.pick (.t 35) (.c (.bool true)) (.t 37)), (some (32, true)), 0⟩,
 A 39 (.pick (.t 32) (.t 38) (.c (.bool false))),
 A 40 (.mv (.t 39)),
 ⟨some 41, (.mv (.t 4)), (some (40, true)), 0⟩,
 ⟨some 42, (.bin .neq (.t 41) (.c (.int .u8 95))), (some (40, true)), 0⟩,
 A 43 (.pick (.t 40) (.t 42) (.c (.bool false)))] [])
 (.cond (.t 43) (.seq (.region [A 2 (.mv (.c (.bool false)))] [])
 .ret) .skip)))))
 (.region [A 44 (.bin .add (.t 20) (.c (.int .i64 1))),
 A 20 (.mv (.t 44))] [])))))))
 (.seq (.region [A 45 (.mv (.t 0)),
 A 46 (.ixs (.t 45) (.c (.int .i64 0))),
 A 47 (.bin .leq (.t 46) (.c (.int .u8 122))),
 A 48 (.mv (.t 47)),
 ⟨some 49, (.mv (.t 0)), (some (48, true)), 0⟩,
 ⟨some 50, (.ixs (.t 49) (.c (.int .i64 0))), (some (48, true)), 0⟩,
 ⟨some 51, (.bin .neq (.t 50) (.c (.int .u8 95))), (some (48, true)), 0⟩,
 A 52 (.pick (.t 48) (.t 51) (.c (.bool false))),
 A 2 (.mv (.t 52))] [])
 .ret)))) }
def a136 : AFunc :=
 { np := 2, nt := 9, mv := false, res := [(.tmp 4)], code :=
 (.seq (.region [A 2 (.box 30 (.t 0)),
 A 3 (.box 9 (.t 1)),
 A 4 (.mv (.c (.int .i64 0)))] [])
 (.seq (.region [A 5 (.fld 0 (.t 2)),
 A 6 (.load 1 false (.t 5)),
 A 7 (.mkf 184 [(.t 3)]),
 A 8 (.call 144 [(.t 6), (.t 7)]),
 A 4 (.mv (.t 8))] [])
 .ret)) }
def a137 : AFunc :=
 { np := 2, nt := 9, mv := false, res := [(.tmp 4)], code :=
 (.seq (.region [A 2 (.box 30 (.t 0)),
 A 4 (.mv (.c (.int .i64 0)))] [])
 (.seq (.region [A 5 (.fld 1 (.t 2)),
 A 6 (.load 1 false (.t 5)),
 A 7 (.mv (.t 1)),
 A 8 (.call 185 [(.t 6), (.t 7)]),
 A 4 (.mv (.t 8))] [])
 .ret)) }
def a138 : DFunc :=
 { nt := 7, pre := [(.region [A 2 (.alloc 118 [(.v (.float .f64 0))]),
 A 3 (.alloc 34 [(.v (.int .i64 0))])] [])], lit := A 4 (.mkf 186 [(.t 2), (.t 3)]), slot := 4, h := 186, hd := { nt := 10, dst := 5, ops := [A 6 (.tassert 261 true [] (.t 5)), A 4 (.mv (.t 6)), A 7 (.ext (.t 4) 0), A 8 (.ext (.t 4) 1), A 2 (.alloc 261 []), ⟨none, (.store 0 (.t 2) (.t 7)), none, 0⟩, A 3 (.mv (.t 8))], rest := (.seq (.region [A 9 (.mv (.t 3))] [])
 (.cond (.t 9) (.region [⟨none, (.store 1 (.t 0) (.c (.float .f64 0))), none, 0⟩,
 ⟨none, (.store 1 (.t 1) (.c (.int .i64 2))), none, 0⟩] []) .skip)) }, rest := (.seq (.region [A 5 (.mv (.t 0)),
 A 6 (.call 187 [(.t 5)]),
 ⟨none, (.store 1 (.t 2) (.t 6)), none, 0⟩,
 ⟨none, (.store 1 (.t 3) (.c (.int .i64 0))), none, 0⟩] [])
 .ret), res := [(2, 1, false), (3, 1, false)], mv := false }
def a139 : AFunc :=
 { np := 2, nt := 9, mv := false, res := [(.tmp 4)], code :=
 (.seq (.region [A 2 (.box 30 (.t 0)),
 A 3 (.box 9 (.t 1)),
 A 4 (.mv (.c (.int .i64 0)))] [])
 (.seq (.region [A 5 (.fld 2 (.t 2)),
 A 6 (.load 1 false (.t 5)),
 A 7 (.mkf 189 [(.t 3)]),
 A 8 (.call 188 [(.t 6), (.t 7)]),
 A 4 (.mv (.t 8))] [])
 .ret)) }
def a140 : AFunc :=
 { np := 2, nt := 29, mv := false, res := [(.tmp 4)], code :=
 (.seq (.region [A 2 (.box 30 (.t 0)),
 A 4 (.mv (.c (.bool false)))] [])
 (.seq (.seq (.region [A 6 (.mv (.t 1)),
 A 7 (.bin .geq (.t 6) (.c (.int .i64 0)))] [])
 (.cond (.t 7) (.seq (.region [A 8 (.mv (.t 1)),
 A 9 (.fld 1 (.t 2)),
 A 10 (.load 1 false (.t 9)),
 A 11 (.len (.t 10)),
 A 12 (.bin .lss (.t 8) (.t 11)),
 A 4 (.mv (.t 12))] [])
 .ret) .skip))
 (.seq (.region [A 13 (.mv (.t 1)),
 A 14 (.bin .sub (.c (.int .i64 (-1))) (.t 13)),
 A 5 (.mv (.t 14))] [])
 (.seq (.region [A 15 (.mv (.t 5)),
 A 16 (.fld 0 (.t 2)),
 A 17 (.load 1 false (.t 16)),
 A 18 (.len (.t 17)),
 A 19 (.bin .lss (.t 15) (.t 18)),
 A 20 (.mv (.t 19)),
 ⟨some 21, (.fld 0 (.t 2)), (some (20, true)), 0⟩,
 ⟨some 22, (.load 1 false (.t 21)), (some (20, true)), 0⟩,
 ⟨some 23, (.mv (.t 5)), (some (20, true)), 0⟩,
 ⟨some 24, (.ixa 8 (.t 22) (.t 23)), (some (20, true)), 0⟩,
 ⟨some 25, (.fld 7 (.t 24)), (some (20, true)), 0⟩,
 ⟨some 26, (.load 1 false (.t 25)), (some (20, true)), 0⟩,
 ⟨some 27, (.un .not (.t 26)), (some (20, true)), 0⟩,
 A 28 (.pick (.t 20) (.t 27) (.c (.bool false))),
 A 4 (.mv (.t 28))] [])
 .ret)))) }
def a141 : AFunc :=
 { np := 2, nt := 9, mv := false, res := [(.tmp 4)], code :=
 (.seq (.region [A 4 (.mv (.c (.bool false)))] [])
 (.seq (.region [A 5 (.mv (.t 0)),
 A 6 (.mv (.t 1)),
 A 7 (.call 190 [(.t 5), (.t 6)]),
 A 8 (.bin .geq (.t 7) (.c (.int .i64 0))),
 A 4 (.mv (.t 8))] [])
 .ret)) }
def a142 : AFunc :=
 { np := 2, nt := 8, mv := false, res := [(.tmp 3)], code :=
 (.seq (.region [A 2 (.box 55 (.t 0)),
 A 3 (.mv (.c (.bool false)))] [])
 (.seq (.region [A 4 (.fld 0 (.t 2)),
 A 5 (.load 1 false (.t 4)),
 A 6 (.load 1 false (.t 1)),
 A 7 (.bin .eql (.t 5) (.t 6)),
 A 3 (.mv (.t 7))] [])
 .ret)) }
def a143 : AFunc :=
 { np := 1, nt := 36, mv := true, res := [(.tmp 2)], code :=
 (.seq (.region [A 2 (.mv (.c .nil))] [])
 (.seq (.region [A 3 (.mv (.c (.int .i64 0)))] [])
 (.seq (.seq (.region [A 9 (.mv (.t 0)),
 A 10 (.len (.t 9)),
 A 11 (.mv (.c (.int .i64 0)))] [])
 (.block 0 (.loop [0, 3, 9, 10, 11] (.seq (.region [A 12 (.bin .lss (.t 11) (.t 10))] [])
 (.seq (.cond (.t 12) .skip (.exit 0))
 (.seq (.block 1 (.seq (.region [A 13 (.ixa 1 (.t 9) (.t 11)),
 A 14 (.load 1 false (.t 13)),
 A 5 (.mv (.t 14))] [])
 (.seq (.region [A 15 (.mv (.t 3)),
 A 16 (.mv (.t 5)),
 A 17 (.len (.t 16)),
 A 18 (.bin .add (.t 15) (.t 17)),
 A 3 (.mv (.t 18))] [])
 (.seq (.region [A 19 (.mv (.t 3)),
 A 20 (.bin .lss (.t 19) (.c (.int .i64 0)))] [])
 (.cond (.t 20) (.region [A 21 (.iface 9 (.c (.str ⟨#[108, 101, 110, 32, 111, 117, 116, 32, 111, 102, 32, 114, 97, 110, 103, 101]⟩))),
 ⟨none, (.panic (.t 21)), none, 0⟩] []) .skip)))))
 (.region [A 22 (.bin .add (.t 11) (.c (.int .i64 1))),
 A 11 (.mv (.t 22))] [])))))))
 (.seq (.region [A 23 (.mv (.t 3)),
 A 24 (.call 191 [(.c .nil), (.t 23)]),
 A 6 (.mv (.t 24))] [])
 (.seq (.seq (.region [A 25 (.mv (.t 0)),
 A 26 (.len (.t 25)),
 A 27 (.mv (.c (.int .i64 0)))] [])
 (.block 2 (.loop [6, 25, 26, 27] (.seq (.region [A 28 (.bin .lss (.t 27) (.t 26))] [])
 (.seq (.cond (.t 28) .skip (.exit 2))
 (.seq (.block 3 (.seq (.region [A 29 (.ixa 1 (.t 25) (.t 27)),
 A 30 (.load 1 false (.t 29)),
 A 8 (.mv (.t 30))] [])
 (.region [A 31 (.mv (.t 6)),
 A 32 (.mv (.t 8)),
 A 33 (.app 60 4 32 (.t 31) (.t 32)),
 A 6 (.mv (.t 33))] [])))
 (.region [A 34 (.bin .add (.t 27) (.c (.int .i64 1))),
 A 27 (.mv (.t 34))] [])))))))
 (.seq (.region [A 35 (.mv (.t 6)),
 A 2 (.mv (.t 35))] [])
 .ret)))))) }
def a144 : AFunc :=
 { np := 2, nt := 19, mv := false, res := [(.tmp 4)], code :=
 (.seq (.region [A 4 (.mv (.c (.int .i64 0)))] [])
 (.seq (.seq (.region [A 6 (.mv (.t 0)),
 A 7 (.len (.t 6)),
 A 8 (.mv (.c (.int .i64 0)))] [])
 (.block 0 (.loop [0, 1, 7, 8] (.seq (.region [A 9 (.bin .lss (.t 8) (.t 7))] [])
 (.seq (.cond (.t 9) .skip (.exit 0))
 (.seq (.block 1 (.seq (.region [A 10 (.mv (.t 8)),
 A 5 (.mv (.t 10))] [])
 (.seq (.region [A 11 (.mv (.t 1)),
 A 12 (.mv (.t 0)),
 A 13 (.mv (.t 5)),
 A 14 (.ixa 8 (.t 12) (.t 13)),
 A 15 (.load 8 true (.t 14)),
 A 16 (.callv (.t 11) [(.t 15)])] [])
 (.cond (.t 16) (.seq (.region [A 17 (.mv (.t 5)),
 A 4 (.mv (.t 17))] [])
 .ret) .skip))))
 (.region [A 18 (.bin .add (.t 8) (.c (.int .i64 1))),
 A 8 (.mv (.t 18))] [])))))))
 (.seq (.region [A 4 (.mv (.c (.int .i64 (-1))))] [])
 .ret))) }
def a145 : AFunc :=
 { np := 2, nt := 9, mv := false, res := [(.tmp 4)], code :=
 (.seq (.region [A 4 (.mv (.c (.bool false)))] [])
 (.seq (.region [A 5 (.mv (.t 0)),
 A 6 (.mv (.t 1)),
 A 7 (.call 192 [(.t 5), (.t 6)]),
 A 8 (.bin .geq (.t 7) (.c (.int .i64 0))),
 A 4 (.mv (.t 8))] [])
 .ret)) }
def a146 : AFunc :=
 { np := 2, nt := 13, mv := false, res := [(.tmp 3)], code :=
 (.seq (.region [A 3 (.mv (.c (.bool false)))] [])
 (.seq (.region [A 4 (.mv (.t 0)),
 A 5 (.bin .lss (.t 4) (.c (.int .i64 0))),
 A 6 (.mv (.t 5)),
 ⟨some 7, (.load 1 false (.t 1)), (some (6, false)), 0⟩,
 ⟨some 8, (.mv (.t 0)), (some (6, false)), 0⟩,
 ⟨some 9, (.ixa 1 (.t 7) (.t 8)), (some (6, false)), 0⟩,
 ⟨some 10, (.load 1 false (.t 9)), (some (6, false)), 0⟩,
 ⟨some 11, (.un .not (.t 10)), (some (6, false)), 0⟩,
 A 12 (.pick (.t 6) (.c (.bool true)) (.t 11)),
 A 3 (.mv (.t 12))] [])
 .ret)) }
def a147 : AFunc :=
 { np := 3, nt := 32, mv := false, res := [(.tmp 6)], code :=
 (.seq (.region [A 6 (.mv (.c .nil))] [])
 (.seq (.region [A 7 (.mv (.c .nil))] [])
 (.seq (.seq (.region [A 10 (.mv (.t 2)),
 A 11 (.len (.t 10)),
 A 12 (.mv (.c (.int .i64 0)))] [])
 (.block 0 (.loop [0, 1, 7, 10, 11, 12, 24, 25, 26, 27, 28] (.seq (.region [A 13 (.bin .lss (.t 12) (.t 11))] [])
 (.seq (.cond (.t 13) .skip (.exit 0))
 (.seq (.block 1 (.seq (.region [A 14 (.ixa 1 (.t 10) (.t 12)),
 A 15 (.load 1 false (.t 14)),
 A 9 (.mv (.t 15))] [])
 (.seq (.region [A 16 (.mv (.t 7)),
 A 17 (.mv (.t 1)),
 A 18 (.mv (.t 9)),
 A 19 (.call 193 [(.t 17), (.t 18)]),
 A 20 (.call 148 [(.t 16), (.t 19)]),
 A 7 (.mv (.t 20))] [])
 (.seq (.region [A 21 (.mv (.t 9)),
 A 22 (.bin .lss (.t 21) (.c (.int .i64 0))),
 A 23 (.mv (.t 22)),
 ⟨some 24, (.mv (.t 0)), (some (23, false)), 0⟩,
 ⟨some 25, (.mv (.t 9)), (some (23, false)), 0⟩,
 ⟨some 26, (.ixa 1 (.t 24) (.t 25)), (some (23, false)), 0⟩,
 ⟨some 27, (.load 1 false (.t 26)), (some (23, false)), 0⟩,
 ⟨some 28, (.un .not (.t 27)), (some (23, false)), 0⟩,
 A 29 (.pick (.t 23) (.c (.bool true)) (.t 28))] [])
 (.cond (.t 29) (.exit 0) .skip)))))
 (.region [A 30 (.bin .add (.t 12) (.c (.int .i64 1))),
 A 12 (.mv (.t 30))] [])))))))
 (.seq (.region [A 31 (.mv (.t 7)),
 A 6 (.mv (.t 31))] [])
 .ret)))) }
def a148 : AFunc :=
 { np := 2, nt := 14, mv := false, res := [(.tmp 4)], code :=
 (.seq (.region [A 4 (.mv (.c .nil))] [])
 (.seq (.region [A 6 (.mv (.t 0)),
 A 7 (.mv (.t 1)),
 A 8 (.lit 53 1 2 [.nil] [(0, (.t 6)), (1, (.t 7))]),
 A 9 (.call 194 [(.t 8)]),
 A 5 (.mv (.t 9))] [])
 (.seq (.region [A 10 (.mv (.t 5)),
 A 11 (.call 195 [(.t 10)])] [])
 (.seq (.region [A 12 (.mv (.t 5)),
 A 13 (.call 196 [(.t 12)]),
 A 4 (.mv (.t 13))] [])
 .ret)))) }
def a149 : AFunc :=
 { np := 4, nt := 53, mv := false, res := [], code :=
 (.seq (.region [A 10 (.mv (.t 1)),
 A 11 (.bin .add (.t 10) (.c (.int .i64 1))),
 A 8 (.mv (.t 11))] [])
 (.block 0 (.loop [0, 1, 2, 3, 8, 22, 23, 24, 25, 26, 27, 28, 29, 30, 31, 32, 33] (.seq (.seq (.region [A 12 (.mv (.t 8)),
 A 13 (.mv (.t 2)),
 A 14 (.bin .lss (.t 12) (.t 13))] [])
 (.cond (.t 14) .skip (.exit 0)))
 (.seq (.block 1 (.seq (.region [A 17 (.mv (.t 8)),
 A 9 (.mv (.t 17))] [])
 (.block 2 (.loop [0, 1, 2, 3, 8, 9, 22, 23, 24, 25, 26, 27, 28, 29, 30, 31, 32, 33] (.seq (.seq (.region [A 18 (.mv (.t 9)),
 A 19 (.mv (.t 1)),
 ⟨some 20, (.bin .gtr (.t 18) (.t 19)), none, 3⟩,
 ⟨some 21, (.mv (.t 20)), none, 7⟩,
 ⟨some 22, (.mv (.t 3)), (some (21, true)), 15⟩,
 ⟨some 23, (.mv (.t 0)), (some (21, true)), 15⟩,
 ⟨some 24, (.mv (.t 9)), (some (21, true)), 15⟩,
 ⟨some 25, (.ixa 3 (.t 23) (.t 24)), (some (21, true)), 111⟩,
 ⟨some 26, (.load 3 true (.t 25)), (some (21, true)), 239⟩,
 ⟨some 27, (.mv (.t 0)), (some (21, true)), 15⟩,
 ⟨some 28, (.mv (.t 9)), (some (21, true)), 15⟩,
 ⟨some 29, (.bin .sub (.t 28) (.c (.int .i64 1))), (some (21, true)), 1039⟩,
 ⟨some 30, (.ixa 3 (.t 27) (.t 29)), (some (21, true)), 3599⟩,
 ⟨some 31, (.load 3 true (.t 30)), (some (21, true)), 7695⟩,
 ⟨some 32, (.callv (.t 22) [(.t 26), (.t 31)]), (some (21, true)), 16383⟩,
 ⟨some 33, (.bin .lss (.t 32) (.c (.int .i64 0))), (some (21, true)), 32767⟩,
 ⟨some 34, (.pick (.t 21) (.t 33) (.c (.bool false))), none, 65535⟩] [])
 (.cond (.t 34) .skip (.exit 2)))
 (.seq (.block 3 (.region [A 37 (.mv (.t 0)),
 A 38 (.mv (.t 9)),
 A 39 (.mv (.t 0)),
 A 40 (.mv (.t 9)),
 ⟨some 41, (.bin .sub (.t 40) (.c (.int .i64 1))), none, 8⟩,
 A 42 (.mv (.t 0)),
 A 43 (.mv (.t 9)),
 ⟨some 44, (.bin .sub (.t 43) (.c (.int .i64 1))), none, 64⟩,
 ⟨some 45, (.ixa 3 (.t 42) (.t 44)), none, 224⟩,
 ⟨some 46, (.load 3 true (.t 45)), none, 480⟩,
 A 47 (.mv (.t 0)),
 A 48 (.mv (.t 9)),
 ⟨some 49, (.ixa 3 (.t 47) (.t 48)), none, 3072⟩,
 ⟨some 50, (.load 3 true (.t 49)), none, 7168⟩,
 ⟨some 51, (.ixa 3 (.t 37) (.t 38)), none, 16355⟩,
 ⟨none, (.store 3 (.t 51) (.t 46)), none, 32739⟩,
 ⟨some 52, (.ixa 3 (.t 39) (.t 41)), none, 65535⟩,
 ⟨none, (.store 3 (.t 52) (.t 50)), none, 131071⟩] [(2, 15), (3, 15), (4, 15)]))
 (.region [A 35 (.mv (.t 9)),
 A 36 (.bin .sub (.t 35) (.c (.int .i64 1))),
 A 9 (.mv (.t 36))] [])))))))
 (.region [A 15 (.mv (.t 8)),
 A 16 (.bin .add (.t 15) (.c (.int .i64 1))),
 A 8 (.mv (.t 16))] [])))))) }
def a158 : AFunc :=
 { np := 1, nt := 25, mv := false, res := [(.tmp 2)], code :=
 (.seq (.region [A 2 (.mv (.c (.int .i64 0)))] [])
 (.seq (.seq (.region [A 3 (.mv (.t 0)),
 A 4 (.bin .geq (.t 3) (.c (.int .u64 4294967296)))] [])
 (.cond (.t 4) (.seq (.region [A 5 (.mv (.t 0)),
 A 6 (.bin .shr (.t 5) (.c (.int .u64 32))),
 A 0 (.mv (.t 6))] [])
 (.region [A 2 (.mv (.c (.int .i64 32)))] [])) .skip))
 (.seq (.seq (.region [A 7 (.mv (.t 0)),
 A 8 (.bin .geq (.t 7) (.c (.int .u64 65536)))] [])
 (.cond (.t 8) (.seq (.region [A 9 (.mv (.t 0)),
 A 10 (.bin .shr (.t 9) (.c (.int .u64 16))),
 A 0 (.mv (.t 10))] [])
 (.region [A 11 (.mv (.t 2)),
 A 12 (.bin .add (.t 11) (.c (.int .i64 16))),
 A 2 (.mv (.t 12))] [])) .skip))
 (.seq (.seq (.region [A 13 (.mv (.t 0)),
 A 14 (.bin .geq (.t 13) (.c (.int .u64 256)))] [])
 (.cond (.t 14) (.seq (.region [A 15 (.mv (.t 0)),
 A 16 (.bin .shr (.t 15) (.c (.int .u64 8))),
 A 0 (.mv (.t 16))] [])
 (.region [A 17 (.mv (.t 2)),
 A 18 (.bin .add (.t 17) (.c (.int .i64 8))),
 A 2 (.mv (.t 18))] [])) .skip))
 (.seq (.region [A 19 (.mv (.t 2)),
 A 20 (.mv (.t 0)),
 A 21 (.conv .u8 (.t 20)),
 A 22 (.ixs (.c (.str ⟨#[0, 1, 2, 2, 3, 3, 3, 3, 4, 4, 4, 4, 4, 4, 4, 4, 5, 5, 5, 5, 5, 5, 5, 5, 5, 5, 5, 5, 5, 5, 5, 5, 6, 6, 6, 6, 6, 6, 6, 6, 6, 6, 6, 6, 6, 6, 6, 6, 6, 6, 6, 6, 6, 6, 6, 6, 6, 6, 6, 6, 6, 6, 6, 6, 7, 7, 7, 7, 7, 7, 7, 7, 7, 7, 7, 7, 7, 7, 7, 7, 7, 7, 7, 7, 7, 7, 7, 7, 7, 7, 7, 7, 7, 7, 7, 7, 7, 7, 7, 7, 7, 7, 7, 7, 7, 7, 7, 7, 7, 7, 7, 7, 7, 7, 7, 7, 7, 7, 7, 7, 7, 7, 7, 7, 7, 7, 7, 7, 8, 8, 8, 8, 8, 8, 8, 8, 8, 8, 8, 8, 8, 8, 8, 8, 8, 8, 8, 8, 8, 8, 8, 8, 8, 8, 8, 8, 8, 8, 8, 8, 8, 8, 8, 8, 8, 8, 8, 8, 8, 8, 8, 8, 8, 8, 8, 8, 8, 8, 8, 8, 8, 8, 8, 8, 8, 8, 8, 8, 8, 8, 8, 8, 8, 8, 8, 8, 8, 8, 8, 8, 8, 8, 8, 8, 8, 8, 8, 8, 8, 8, 8, 8, 8, 8, 8, 8, 8, 8, 8, 8, 8, 8, 8, 8, 8, 8, 8, 8, 8, 8, 8, 8, 8, 8, 8, 8, 8, 8, 8, 8, 8, 8, 8, 8, 8, 8, 8, 8, 8, 8, 8, 8, 8, 8, 8, 8]⟩)) (.t 21)),
 A 23 (.conv .i64 (.t 22)),
 A 24 (.bin .add (.t 19) (.t 23)),
 A 2 (.mv (.t 24))] [])
 .ret))))) }
def a159 : AFunc :=
 { np := 2, nt := 52, mv := false, res := [(.tmp 4)], code :=
 (.seq (.region [A 4 (.mv (.c (.bool false)))] [])
 (.seq (.seq (.region [A 7 (.mv (.t 1)),
 A 8 (.len (.t 7)),
 A 9 (.bin .neq (.t 8) (.c (.int .i64 4))),
 A 10 (.mv (.t 9)),
 ⟨some 11, (.mv (.t 1)), (some (10, false)), 0⟩,
 ⟨some 12, (.ixa 1 (.t 11) (.c (.int .i64 2))), (some (10, false)), 0⟩,
 ⟨some 13, (.load 1 false (.t 12)), (some (10, false)), 0⟩,
 ⟨some 14, (.bin .neq (.t 13) (.c (.str ⟨#[61]⟩))), (some (10, false)), 0⟩,
 A 15 (.pick (.t 10) (.c (.bool true)) (.t 14)),
 A 16 (.mv (.t 15)),
 ⟨some 17, (.mv (.t 1)), (some (16, false)), 0⟩,
 ⟨some 18, (.ixa 1 (.t 17) (.c (.int .i64 1))), (some (16, false)), 0⟩,
 ⟨some 19, (.load 1 false (.t 18)), (some (16, false)), 0⟩,
 ⟨some 20, (.call 55 [(.t 19)]), (some (16, false)), 0⟩,
 ⟨some 21, (.un .not (.t 20)), (some (16, false)), 0⟩,
 A 22 (.pick (.t 16) (.c (.bool true)) (.t 21))] [])
 (.cond (.t 22) (.seq (.region [A 4 (.mv (.c (.bool false)))] [])
 .ret) .skip))
 (.seq (.region [A 24 (.mv (.t 1)),
 A 25 (.ixa 1 (.t 24) (.c (.int .i64 3))),
 A 26 (.load 1 false (.t 25)),
 A 27 (.call 202 [(.t 26)]),
 A 23 (.mv (.t 27)),
 A 28 (.ext (.t 23) 0),
 A 29 (.ext (.t 23) 1),
 A 5 (.alloc 63 [(.v (.int .i64 0)), (.v (.int .u64 0)), (.v (.int .u64 0)), (.v (.int .u64 0)), (.v (.int .u64 0)), (.v .nil)]),
 ⟨none, (.store 6 (.t 5) (.t 28)), none, 0⟩,
 A 6 (.mv (.t 29))] [])
 (.seq (.region [A 30 (.mv (.t 0)),
 A 31 (.mv (.t 0)),
 ⟨some 32, (.chk (.t 31)), none, 2⟩,
 ⟨some 33, (.fld 0 (.t 32)), none, 6⟩,
 ⟨some 34, (.fld 0 (.t 33)), none, 14⟩,
 ⟨some 35, (.load 1 false (.t 34)), none, 30⟩,
 A 36 (.mv (.t 1)),
 ⟨some 37, (.ixa 1 (.t 36) (.c (.int .i64 1))), none, 64⟩,
 ⟨some 38, (.load 1 false (.t 37)), none, 192⟩,
 A 39 (.load 6 true (.t 5)),
 A 40 (.mv (.t 1)),
 ⟨some 41, (.ixa 1 (.t 40) (.c (.int .i64 0))), none, 1024⟩,
 ⟨some 42, (.load 1 false (.t 41)), none, 3072⟩,
 ⟨some 43, (.bin .eql (.t 42) (.c (.str ⟨#[116, 114, 105, 118, 105, 97]⟩))), none, 7168⟩,
 ⟨some 44, (.build [(.str ⟨#[]⟩), (.int .i64 0), (.int .u64 0), (.int .u64 0), (.int .u64 0), (.int .u64 0), .nil, (.bool false)] [(0, 1, (.t 38)), (1, 6, (.t 39)), (7, 1, (.t 43))]), none, 16320⟩,
 ⟨some 45, (.lit 65 8 1 [(.str ⟨#[]⟩), (.int .i64 0), (.int .u64 0), (.int .u64 0), (.int .u64 0), (.int .u64 0), .nil, (.bool false)] [(0, (.t 44))]), none, 32704⟩,
 ⟨some 46, (.app 65 8 88 (.t 35) (.t 45)), none, 65534⟩,
 ⟨some 47, (.chk (.t 30)), none, 131071⟩,
 ⟨some 48, (.fld 0 (.t 47)), none, 262143⟩,
 ⟨some 49, (.fld 0 (.t 48)), none, 524287⟩,
 ⟨none, (.store 1 (.t 49) (.t 46)), none, 1048575⟩] [(0, 15), (0, 16), (1, 15), (2, 15), (3, 15), (4, 15), (5, 15)])
 (.seq (.region [A 50 (.mv (.t 6)),
 A 51 (.bin .eql (.t 50) (.c (.int .i64 0))),
 A 4 (.mv (.t 51))] [])
 .ret))))) }
def a160 : AFunc :=
 { np := 2, nt := 50, mv := false, res := [(.tmp 4)], code :=
 (.seq (.region [A 4 (.mv (.c (.bool false)))] [])
 (.seq (.seq (.region [A 7 (.mv (.t 1)),
 A 8 (.len (.t 7)),
 A 9 (.bin .neq (.t 8) (.c (.int .i64 4))),
 A 10 (.mv (.t 9)),
 ⟨some 11, (.mv (.t 1)), (some (10, false)), 0⟩,
 ⟨some 12, (.ixa 1 (.t 11) (.c (.int .i64 2))), (some (10, false)), 0⟩,
 ⟨some 13, (.load 1 false (.t 12)), (some (10, false)), 0⟩,
 ⟨some 14, (.bin .neq (.t 13) (.c (.str ⟨#[61]⟩))), (some (10, false)), 0⟩,
 A 15 (.pick (.t 10) (.c (.bool true)) (.t 14)),
 A 16 (.mv (.t 15)),
 ⟨some 17, (.mv (.t 1)), (some (16, false)), 0⟩,
 ⟨some 18, (.ixa 1 (.t 17) (.c (.int .i64 1))), (some (16, false)), 0⟩,
 ⟨some 19, (.load 1 false (.t 18)), (some (16, false)), 0⟩,
 ⟨some 20, (.call 55 [(.t 19)]), (some (16, false)), 0⟩,
 ⟨some 21, (.un .not (.t 20)), (some (16, false)), 0⟩,
 A 22 (.pick (.t 16) (.c (.bool true)) (.t 21))] [])
 (.cond (.t 22) (.seq (.region [A 4 (.mv (.c (.bool false)))] [])
 .ret) .skip))
 (.seq (.region [A 24 (.mv (.t 1)),
 A 25 (.ixa 1 (.t 24) (.c (.int .i64 3))),
 A 26 (.load 1 false (.t 25)),
 A 27 (.call 58 [(.t 26)]),
 A 23 (.mv (.t 27)),
 A 28 (.ext (.t 23) 0),
 A 29 (.ext (.t 23) 1),
 A 5 (.mv (.t 28)),
 A 6 (.mv (.t 29))] [])
 (.seq (.region [A 30 (.mv (.t 0)),
 A 31 (.mv (.t 0)),
 ⟨some 32, (.chk (.t 31)), none, 2⟩,
 ⟨some 33, (.fld 0 (.t 32)), none, 6⟩,
 ⟨some 34, (.fld 2 (.t 33)), none, 14⟩,
 ⟨some 35, (.load 1 false (.t 34)), none, 30⟩,
 A 36 (.mv (.t 1)),
 ⟨some 37, (.ixa 1 (.t 36) (.c (.int .i64 1))), none, 64⟩,
 ⟨some 38, (.load 1 false (.t 37)), none, 192⟩,
 A 39 (.mv (.t 1)),
 ⟨some 40, (.ixa 1 (.t 39) (.c (.int .i64 3))), none, 512⟩,
 ⟨some 41, (.load 1 false (.t 40)), none, 1536⟩,
 ⟨some 42, (.build [(.str ⟨#[]⟩), (.str ⟨#[]⟩)] [(0, 1, (.t 38)), (1, 1, (.t 41))]), none, 4032⟩,
 ⟨some 43, (.litF 114 2 1 [(.str ⟨#[]⟩), (.str ⟨#[]⟩)] [(0, (.t 42))]), none, 8128⟩,
 ⟨some 44, (.app 114 2 32 (.t 35) (.t 43)), none, 16382⟩,
 ⟨some 45, (.chk (.t 30)), none, 32767⟩,
 ⟨some 46, (.fld 0 (.t 45)), none, 65535⟩,
 ⟨some 47, (.fld 2 (.t 46)), none, 131071⟩,
 ⟨none, (.store 1 (.t 47) (.t 44)), none, 262143⟩] [(0, 14)])
 (.seq (.region [A 48 (.mv (.t 6)),
 A 49 (.bin .eql (.t 48) (.c (.int .i64 0))),
 A 4 (.mv (.t 49))] [])
 .ret))))) }
def a161 : AFunc :=
 { np := 2, nt := 124, mv := false, res := [(.tmp 4)], code :=
 (.seq (.region [A 4 (.mv (.c (.bool false)))] [])
 (.seq (.seq (.region [A 10 (.mv (.t 1)),
 A 11 (.len (.t 10)),
 A 12 (.bin .lss (.t 11) (.c (.int .i64 3))),
 A 13 (.mv (.t 12)),
 ⟨some 14, (.mv (.t 1)), (some (13, false)), 0⟩,
 ⟨some 15, (.ixa 1 (.t 14) (.c (.int .i64 2))), (some (13, false)), 0⟩,
 ⟨some 16, (.load 1 false (.t 15)), (some (13, false)), 0⟩,
 ⟨some 17, (.bin .neq (.t 16) (.c (.str ⟨#[61]⟩))), (some (13, false)), 0⟩,
 A 18 (.pick (.t 13) (.c (.bool true)) (.t 17)),
 A 19 (.mv (.t 18)),
 ⟨some 20, (.mv (.t 1)), (some (19, false)), 0⟩,
 ⟨some 21, (.ixa 1 (.t 20) (.c (.int .i64 1))), (some (19, false)), 0⟩,
 ⟨some 22, (.load 1 false (.t 21)), (some (19, false)), 0⟩,
 ⟨some 23, (.call 55 [(.t 22)]), (some (19, false)), 0⟩,
 ⟨some 24, (.un .not (.t 23)), (some (19, false)), 0⟩,
 A 25 (.pick (.t 19) (.c (.bool true)) (.t 24))] [])
 (.cond (.t 25) (.seq (.region [A 4 (.mv (.c (.bool false)))] [])
 .ret) .skip))
 (.seq (.region [A 26 (.mv (.t 0)),
 ⟨some 27, (.chk (.t 26)), none, 1⟩,
 ⟨some 28, (.fld 7 (.t 27)), none, 3⟩,
 ⟨some 29, (.load 1 false (.t 28)), none, 7⟩,
 A 30 (.mv (.t 1)),
 ⟨some 31, (.ixa 1 (.t 30) (.c (.int .i64 1))), none, 16⟩,
 ⟨some 32, (.load 1 false (.t 31)), none, 48⟩,
 ⟨some 33, (.call 88 [(.t 29), (.t 32)]), none, 127⟩,
 ⟨some 34, (.build [(.int .i64 0), .nil, (.int .i64 0)] [(0, 1, (.t 33)), (2, 1, (.c (.int .i64 (-1))))]), none, 255⟩,
 A 5 (.galloc 55 3),
 ⟨some 5, (.gstore 55 3 5 (.t 34)), none, 1023⟩] [(9, 7)])
 (.seq (.region [A 35 (.mv (.t 1)),
 A 36 (.cutD 1 (.t 35) (some (.c (.int .i64 3))) none),
 A 6 (.mv (.t 36))] [])
 (.seq (.seq (.region [A 37 (.mv (.t 6)),
 A 38 (.len (.t 37)),
 A 39 (.bin .geq (.t 38) (.c (.int .i64 2))),
 A 40 (.mv (.t 39)),
 ⟨some 41, (.mv (.t 6)), (some (40, true)), 0⟩,
 ⟨some 42, (.mv (.t 6)), (some (40, true)), 0⟩,
 ⟨some 43, (.len (.t 42)), (some (40, true)), 0⟩,
 ⟨some 44, (.bin .sub (.t 43) (.c (.int .i64 2))), (some (40, true)), 0⟩,
 ⟨some 45, (.ixa 1 (.t 41) (.t 44)), (some (40, true)), 0⟩,
 ⟨some 46, (.load 1 false (.t 45)), (some (40, true)), 0⟩,
 ⟨some 47, (.bin .eql (.t 46) (.c (.str ⟨#[58]⟩))), (some (40, true)), 0⟩,
 A 48 (.pick (.t 40) (.t 47) (.c (.bool false)))] [])
 (.cond (.t 48) (.seq (.region [A 49 (.mv (.t 0)),
 ⟨some 50, (.chk (.t 49)), none, 1⟩,
 ⟨some 51, (.fld 0 (.t 50)), none, 3⟩,
 ⟨some 52, (.load 7 true (.t 51)), none, 7⟩,
 A 53 (.mv (.t 6)),
 A 54 (.mv (.t 6)),
 ⟨some 55, (.len (.t 54)), none, 32⟩,
 ⟨some 56, (.bin .sub (.t 55) (.c (.int .i64 1))), none, 96⟩,
 ⟨some 57, (.ixa 1 (.t 53) (.t 56)), none, 240⟩,
 ⟨some 58, (.load 1 false (.t 57)), none, 496⟩,
 ⟨some 59, (.call 59 [(.t 52), (.t 58)]), none, 1023⟩,
 ⟨some 60, (.fld 2 (.t 5)), none, 2047⟩,
 ⟨none, (.store 1 (.t 60) (.t 59)), none, 4095⟩] [])
 (.seq (.seq (.region [A 61 (.fld 2 (.t 5)),
 A 62 (.load 1 false (.t 61)),
 A 63 (.bin .lss (.t 62) (.c (.int .i64 0)))] [])
 (.cond (.t 63) (.seq (.region [A 4 (.mv (.c (.bool false)))] [])
 .ret) .skip))
 (.region [A 64 (.mv (.t 6)),
 A 65 (.mv (.t 6)),
 A 66 (.len (.t 65)),
 A 67 (.bin .sub (.t 66) (.c (.int .i64 2))),
 A 68 (.cut 1 (.t 64) none (some (.t 67))),
 A 6 (.mv (.t 68))] []))) .skip))
 (.seq (.seq (.region [A 7 (.mv (.c (.int .i64 0)))] [])
 (.block 0 (.loop [0, 5, 6, 7] (.seq (.seq (.region [A 69 (.mv (.t 7)),
 A 70 (.mv (.t 6)),
 A 71 (.len (.t 70)),
 A 72 (.bin .lss (.t 69) (.t 71))] [])
 (.cond (.t 72) .skip (.exit 0)))
 (.seq (.block 1 (.seq (.region [A 75 (.mv (.t 0)),
 ⟨some 76, (.chk (.t 75)), none, 1⟩,
 ⟨some 77, (.fld 0 (.t 76)), none, 3⟩,
 ⟨some 78, (.load 7 true (.t 77)), none, 7⟩,
 A 79 (.mv (.t 6)),
 A 80 (.mv (.t 7)),
 ⟨some 81, (.ixa 1 (.t 79) (.t 80)), none, 48⟩,
 ⟨some 82, (.load 1 false (.t 81)), none, 112⟩,
 ⟨some 83, (.call 56 [(.t 78), (.t 82)]), none, 255⟩,
 A 84 (.mv (.t 0)),
 ⟨some 85, (.chk (.t 84)), none, 512⟩,
 ⟨some 86, (.fld 7 (.t 85)), none, 1536⟩,
 ⟨some 87, (.load 1 false (.t 86)), none, 3584⟩,
 A 88 (.mv (.t 6)),
 A 89 (.mv (.t 7)),
 ⟨some 90, (.ixa 1 (.t 88) (.t 89)), none, 24576⟩,
 ⟨some 91, (.load 1 false (.t 90)), none, 57344⟩,
 ⟨some 92, (.call 88 [(.t 87), (.t 91)]), none, 131071⟩,
 ⟨some 8, (.mv (.t 83)), none, 262143⟩,
 ⟨some 9, (.mv (.t 92)), none, 524287⟩] [(9, 8), (10, 8), (11, 8), (12, 8), (13, 8), (14, 8), (15, 8), (16, 8)])
 (.block 2 (.seq (.region [A 94 (.mv (.t 8)),
 A 95 (.bin .geq (.t 94) (.c (.int .i64 0))),
 A 93 (.mv (.t 95))] [])
 (.cond (.t 93) (.region [A 96 (.fld 1 (.t 5)),
 A 97 (.load 1 false (.t 96)),
 A 98 (.mv (.t 8)),
 A 99 (.bin .sub (.c (.int .i64 (-1))) (.t 98)),
 A 100 (.litF 3 1 1 [(.int .i64 0)] [(0, (.t 99))]),
 A 101 (.app 3 1 8 (.t 97) (.t 100)),
 A 102 (.fld 1 (.t 5)),
 ⟨none, (.store 1 (.t 102) (.t 101)), none, 0⟩] []) (.seq (.region [A 104 (.mv (.t 9)),
 A 105 (.bin .geq (.t 104) (.c (.int .i64 0))),
 A 103 (.mv (.t 105))] [])
 (.cond (.t 103) (.region [A 106 (.fld 1 (.t 5)),
 A 107 (.load 1 false (.t 106)),
 A 108 (.mv (.t 9)),
 A 109 (.litF 3 1 1 [(.int .i64 0)] [(0, (.t 108))]),
 A 110 (.app 3 1 8 (.t 107) (.t 109)),
 A 111 (.fld 1 (.t 5)),
 ⟨none, (.store 1 (.t 111) (.t 110)), none, 0⟩] []) (.seq (.region [A 4 (.mv (.c (.bool false)))] [])
 .ret))))))))
 (.region [A 73 (.mv (.t 7)),
 A 74 (.bin .add (.t 73) (.c (.int .i64 1))),
 A 7 (.mv (.t 74))] []))))))
 (.seq (.region [A 112 (.mv (.t 0)),
 A 113 (.mv (.t 0)),
 ⟨some 114, (.chk (.t 113)), none, 2⟩,
 ⟨some 115, (.fld 0 (.t 114)), none, 6⟩,
 ⟨some 116, (.fld 3 (.t 115)), none, 14⟩,
 ⟨some 117, (.load 1 false (.t 116)), none, 30⟩,
 A 118 (.load 3 true (.t 5)),
 ⟨some 119, (.lit 55 3 1 [(.int .i64 0), .nil, (.int .i64 0)] [(0, (.t 118))]), none, 64⟩,
 ⟨some 120, (.app 55 3 40 (.t 117) (.t 119)), none, 254⟩,
 ⟨some 121, (.chk (.t 112)), none, 511⟩,
 ⟨some 122, (.fld 0 (.t 121)), none, 1023⟩,
 ⟨some 123, (.fld 3 (.t 122)), none, 2047⟩,
 ⟨none, (.store 1 (.t 123) (.t 120)), none, 4095⟩] [(0, 7), (0, 8), (1, 7), (2, 7), (3, 7), (4, 7), (5, 7)])
 (.seq (.region [A 4 (.mv (.c (.bool true)))] [])
 .ret)))))))) }
def a162 : AFunc :=
 { np := 2, nt := 68, mv := false, res := [(.tmp 4)], code :=
 (.seq (.region [A 4 (.mv (.c (.bool false)))] [])
 (.seq (.region [A 9 (.mv (.t 1)),
 A 10 (.call 88 [(.t 9), (.c (.str ⟨#[124]⟩))]),
 A 5 (.mv (.t 10))] [])
 (.seq (.seq (.region [A 11 (.mv (.t 0)),
 A 12 (.chk (.t 11)),
 A 13 (.fld 9 (.t 12)),
 A 14 (.load 1 false (.t 13)),
 A 15 (.mv (.t 14)),
 ⟨some 16, (.mv (.t 5)), (some (15, false)), 0⟩,
 ⟨some 17, (.bin .lss (.t 16) (.c (.int .i64 0))), (some (15, false)), 0⟩,
 A 18 (.pick (.t 15) (.c (.bool true)) (.t 17))] [])
 (.cond (.t 18) (.seq (.region [A 4 (.mv (.c (.bool false)))] [])
 .ret) .skip))
 (.seq (.region [A 19 (.mv (.t 0)),
 A 20 (.chk (.t 19)),
 A 21 (.fld 9 (.t 20)),
 ⟨none, (.store 1 (.t 21) (.c (.bool true))), none, 0⟩] [])
 (.seq (.seq (.region [A 6 (.mv (.c (.int .i64 1)))] [])
 (.block 0 (.loop [0, 1, 5, 6] (.seq (.seq (.region [A 22 (.mv (.t 6)),
 A 23 (.mv (.t 1)),
 A 24 (.len (.t 23)),
 A 25 (.bin .lss (.t 22) (.t 24))] [])
 (.cond (.t 25) .skip (.exit 0)))
 (.seq (.block 1 (.seq (.seq (.region [A 28 (.mv (.t 6)),
 A 29 (.mv (.t 5)),
 A 30 (.bin .eql (.t 28) (.t 29))] [])
 (.cond (.t 30) (.exit 1) .skip))
 (.seq (.region [A 32 (.mv (.t 1)),
 A 33 (.mv (.t 6)),
 A 34 (.ixa 1 (.t 32) (.t 33)),
 A 35 (.load 1 false (.t 34)),
 A 36 (.call 203 [(.t 35)]),
 A 31 (.mv (.t 36)),
 A 37 (.ext (.t 31) 0),
 A 38 (.ext (.t 31) 1),
 A 7 (.alloc 60 [(.v (.int .u64 0)), (.v (.int .u64 0)), (.v (.int .u64 0)), (.v (.int .u64 0))]),
 ⟨none, (.store 4 (.t 7) (.t 37)), none, 0⟩,
 A 8 (.mv (.t 38))] [])
 (.seq (.seq (.region [A 39 (.mv (.t 8)),
 A 40 (.un .not (.t 39))] [])
 (.cond (.t 40) (.seq (.region [A 4 (.mv (.c (.bool false)))] [])
 .ret) .skip))
 (.seq (.region [A 41 (.mv (.t 6)),
 A 42 (.mv (.t 5)),
 A 43 (.bin .lss (.t 41) (.t 42))] [])
 (.cond (.t 43) (.region [A 44 (.mv (.t 0)),
 A 45 (.mv (.t 0)),
 ⟨some 46, (.chk (.t 45)), none, 2⟩,
 ⟨some 47, (.fld 0 (.t 46)), none, 6⟩,
 ⟨some 48, (.fld 4 (.t 47)), none, 14⟩,
 ⟨some 49, (.load 1 false (.t 48)), none, 30⟩,
 A 50 (.load 4 true (.t 7)),
 ⟨some 51, (.litF 60 4 1 [(.int .u64 0), (.int .u64 0), (.int .u64 0), (.int .u64 0)] [(0, (.t 50))]), none, 64⟩,
 ⟨some 52, (.app 60 4 32 (.t 49) (.t 51)), none, 254⟩,
 ⟨some 53, (.chk (.t 44)), none, 511⟩,
 ⟨some 54, (.fld 0 (.t 53)), none, 1023⟩,
 ⟨some 55, (.fld 4 (.t 54)), none, 2047⟩,
 ⟨none, (.store 1 (.t 55) (.t 52)), none, 4095⟩] [(0, 8)]) (.region [A 56 (.mv (.t 0)),
 A 57 (.mv (.t 0)),
 ⟨some 58, (.chk (.t 57)), none, 2⟩,
 ⟨some 59, (.fld 0 (.t 58)), none, 6⟩,
 ⟨some 60, (.fld 5 (.t 59)), none, 14⟩,
 ⟨some 61, (.load 1 false (.t 60)), none, 30⟩,
 A 62 (.load 4 true (.t 7)),
 ⟨some 63, (.litF 60 4 1 [(.int .u64 0), (.int .u64 0), (.int .u64 0), (.int .u64 0)] [(0, (.t 62))]), none, 64⟩,
 ⟨some 64, (.app 60 4 32 (.t 61) (.t 63)), none, 254⟩,
 ⟨some 65, (.chk (.t 56)), none, 511⟩,
 ⟨some 66, (.fld 0 (.t 65)), none, 1023⟩,
 ⟨some 67, (.fld 5 (.t 66)), none, 2047⟩,
 ⟨none, (.store 1 (.t 67) (.t 64)), none, 4095⟩] [(0, 8)])))))))
 (.region [A 26 (.mv (.t 6)),
 A 27 (.bin .add (.t 26) (.c (.int .i64 1))),
 A 6 (.mv (.t 27))] []))))))
 (.seq (.region [A 4 (.mv (.c (.bool true)))] [])
 .ret)))))) }
def a163 : AFunc :=
 { np := 2, nt := 72, mv := false, res := [(.tmp 4)], code :=
 (.seq (.region [A 4 (.mv (.c (.bool false)))] [])
 (.seq (.seq (.region [A 6 (.mv (.t 0)),
 A 7 (.chk (.t 6)),
 A 8 (.fld 10 (.t 7)),
 A 9 (.load 1 false (.t 8)),
 A 10 (.mv (.t 9)),
 ⟨some 11, (.mv (.t 1)), (some (10, false)), 0⟩,
 ⟨some 12, (.len (.t 11)), (some (10, false)), 0⟩,
 ⟨some 13, (.bin .neq (.t 12) (.c (.int .i64 2))), (some (10, false)), 0⟩,
 A 14 (.pick (.t 10) (.c (.bool true)) (.t 13)),
 A 15 (.mv (.t 14)),
 ⟨some 16, (.mv (.t 1)), (some (15, false)), 0⟩,
 ⟨some 17, (.ixa 1 (.t 16) (.c (.int .i64 1))), (some (15, false)), 0⟩,
 ⟨some 18, (.load 1 false (.t 17)), (some (15, false)), 0⟩,
 ⟨some 19, (.lenS (.t 18)), (some (15, false)), 0⟩,
 ⟨some 20, (.bin .lss (.t 19) (.c (.int .i64 1))), (some (15, false)), 0⟩,
 A 21 (.pick (.t 15) (.c (.bool true)) (.t 20)),
 A 22 (.mv (.t 21)),
 ⟨some 23, (.mv (.t 1)), (some (22, false)), 0⟩,
 ⟨some 24, (.ixa 1 (.t 23) (.c (.int .i64 1))), (some (22, false)), 0⟩,
 ⟨some 25, (.load 1 false (.t 24)), (some (22, false)), 0⟩,
 ⟨some 26, (.lenS (.t 25)), (some (22, false)), 0⟩,
 ⟨some 27, (.bin .gtr (.t 26) (.c (.int .i64 9))), (some (22, false)), 0⟩,
 A 28 (.pick (.t 22) (.c (.bool true)) (.t 27))] [])
 (.cond (.t 28) (.seq (.region [A 4 (.mv (.c (.bool false)))] [])
 .ret) .skip))
 (.seq (.region [A 29 (.mv (.t 0)),
 A 30 (.chk (.t 29)),
 A 31 (.fld 10 (.t 30)),
 ⟨none, (.store 1 (.t 31) (.c (.bool true))), none, 0⟩] [])
 (.seq (.seq (.region [A 5 (.mv (.c (.int .i64 0)))] [])
 (.block 0 (.loop [0, 1, 5, 47, 48, 49, 50, 51, 52] (.seq (.seq (.region [A 32 (.mv (.t 5)),
 A 33 (.mv (.t 1)),
 A 34 (.ixa 1 (.t 33) (.c (.int .i64 1))),
 A 35 (.load 1 false (.t 34)),
 A 36 (.lenS (.t 35)),
 A 37 (.bin .lss (.t 32) (.t 36))] [])
 (.cond (.t 37) .skip (.exit 0)))
 (.seq (.block 1 (.seq (.seq (.region [A 40 (.mv (.t 1)),
 A 41 (.ixa 1 (.t 40) (.c (.int .i64 1))),
 A 42 (.load 1 false (.t 41)),
 A 43 (.mv (.t 5)),
 A 44 (.ixs (.t 42) (.t 43)),
 A 45 (.bin .lss (.t 44) (.c (.int .u8 48))),
 A 46 (.mv (.t 45)),
 ⟨some 47, (.mv (.t 1)), (some (46, false)), 0⟩,
 ⟨some 48, (.ixa 1 (.t 47) (.c (.int .i64 1))), (some (46, false)), 0⟩,
 ⟨some 49, (.load 1 false (.t 48)), (some (46, false)), 0⟩,
 ⟨some 50, (.mv (.t 5)), (some (46, false)), 0⟩,
 ⟨some 51, (.ixs (.t 49) (.t 50)), (some (46, false)), 0⟩,
 ⟨some 52, (.bin .gtr (.t 51) (.c (.int .u8 57))), (some (46, false)), 0⟩,
 A 53 (.pick (.t 46) (.c (.bool true)) (.t 52))] [])
 (.cond (.t 53) (.seq (.region [A 4 (.mv (.c (.bool false)))] [])
 .ret) .skip))
 (.region [A 54 (.mv (.t 0)),
 A 55 (.mv (.t 0)),
 ⟨some 56, (.chk (.t 55)), none, 2⟩,
 ⟨some 57, (.fld 0 (.t 56)), none, 6⟩,
 ⟨some 58, (.fld 6 (.t 57)), none, 14⟩,
 ⟨some 59, (.load 1 false (.t 58)), none, 30⟩,
 ⟨some 60, (.bin .mul (.t 59) (.c (.int .i64 10))), none, 62⟩,
 A 61 (.mv (.t 1)),
 ⟨some 62, (.ixa 1 (.t 61) (.c (.int .i64 1))), none, 128⟩,
 ⟨some 63, (.load 1 false (.t 62)), none, 384⟩,
 A 64 (.mv (.t 5)),
 ⟨some 65, (.ixs (.t 63) (.t 64)), none, 1920⟩,
 ⟨some 66, (.bin .sub (.t 65) (.c (.int .u8 48))), none, 3968⟩,
 ⟨some 67, (.conv .i64 (.t 66)), none, 8064⟩,
 ⟨some 68, (.bin .add (.t 60) (.t 67)), none, 16382⟩,
 ⟨some 69, (.chk (.t 54)), none, 32767⟩,
 ⟨some 70, (.fld 0 (.t 69)), none, 65535⟩,
 ⟨some 71, (.fld 6 (.t 70)), none, 131071⟩,
 ⟨none, (.store 1 (.t 71) (.t 68)), none, 262143⟩] [])))
 (.region [A 38 (.mv (.t 5)),
 A 39 (.bin .add (.t 38) (.c (.int .i64 1))),
 A 5 (.mv (.t 39))] []))))))
 (.seq (.region [A 4 (.mv (.c (.bool true)))] [])
 .ret))))) }
def a164 : AFunc :=
 { np := 3, nt := 58, mv := false, res := [(.tmp 6)], code :=
 (.seq (.region [A 6 (.mv (.c (.bool false)))] [])
 (.seq (.seq (.region [A 7 (.mv (.c (.int .i64 0)))] [])
 (.block 0 (.loop [0, 1, 2, 7] (.seq (.seq (.region [A 9 (.mv (.t 7)),
 A 10 (.mv (.t 0)),
 A 11 (.chk (.t 10)),
 A 12 (.fld 0 (.t 11)),
 A 13 (.load 1 false (.t 12)),
 A 14 (.len (.t 13)),
 A 15 (.bin .lss (.t 9) (.t 14))] [])
 (.cond (.t 15) .skip (.exit 0)))
 (.seq (.block 1 (.seq (.region [A 8 (.mv (.c (.int .i64 0)))] [])
 (.block 2 (.loop [0, 1, 2, 7, 8] (.seq (.seq (.region [A 18 (.mv (.t 8)),
 A 19 (.mv (.t 0)),
 A 20 (.chk (.t 19)),
 A 21 (.fld 0 (.t 20)),
 A 22 (.load 1 false (.t 21)),
 A 23 (.mv (.t 7)),
 A 24 (.ixa 5 (.t 22) (.t 23)),
 A 25 (.fld 0 (.t 24)),
 A 26 (.load 1 false (.t 25)),
 A 27 (.len (.t 26)),
 A 28 (.bin .lss (.t 18) (.t 27))] [])
 (.cond (.t 28) .skip (.exit 2)))
 (.seq (.block 3 (.seq (.region [A 31 (.mv (.t 0)),
 ⟨some 32, (.chk (.t 31)), none, 1⟩,
 ⟨some 33, (.fld 0 (.t 32)), none, 3⟩,
 ⟨some 34, (.load 1 false (.t 33)), none, 7⟩,
 A 35 (.mv (.t 7)),
 ⟨some 36, (.ixa 5 (.t 34) (.t 35)), none, 31⟩,
 ⟨some 37, (.fld 0 (.t 36)), none, 63⟩,
 ⟨some 38, (.load 1 false (.t 37)), none, 127⟩,
 A 39 (.mv (.t 8)),
 ⟨some 40, (.ixa 4 (.t 38) (.t 39)), none, 511⟩,
 ⟨some 41, (.load 4 true (.t 40)), none, 1023⟩,
 A 42 (.mv (.t 1)),
 ⟨some 43, (.call 128 [(.t 41), (.t 42)]), none, 4095⟩,
 A 44 (.mv (.t 0)),
 ⟨some 45, (.chk (.t 44)), none, 8192⟩,
 ⟨some 46, (.fld 0 (.t 45)), none, 24576⟩,
 ⟨some 47, (.load 1 false (.t 46)), none, 57344⟩,
 A 48 (.mv (.t 7)),
 ⟨some 49, (.ixa 5 (.t 47) (.t 48)), none, 253952⟩,
 ⟨some 50, (.fld 0 (.t 49)), none, 516096⟩,
 ⟨some 51, (.load 1 false (.t 50)), none, 1040384⟩,
 A 52 (.mv (.t 8)),
 ⟨some 53, (.ixa 4 (.t 51) (.t 52)), none, 4186112⟩,
 ⟨some 54, (.load 4 true (.t 53)), none, 8380416⟩,
 A 55 (.mv (.t 2)),
 ⟨some 56, (.call 128 [(.t 54), (.t 55)]), none, 33554431⟩,
 ⟨some 57, (.eqB true (.t 43) (.t 56)), none, 67108863⟩] [(13, 12), (14, 12), (15, 12), (16, 12), (17, 12), (18, 12), (19, 12), (20, 12), (21, 12), (22, 12), (23, 12), (24, 12)])
 (.cond (.t 57) (.seq (.region [A 6 (.mv (.c (.bool false)))] [])
 .ret) .skip)))
 (.region [A 29 (.mv (.t 8)),
 A 30 (.bin .add (.t 29) (.c (.int .i64 1))),
 A 8 (.mv (.t 30))] [])))))))
 (.region [A 16 (.mv (.t 7)),
 A 17 (.bin .add (.t 16) (.c (.int .i64 1))),
 A 7 (.mv (.t 17))] []))))))
 (.seq (.region [A 6 (.mv (.c (.bool true)))] [])
 .ret))) }
def a165 : AFunc :=
 { np := 4, nt := 58, mv := false, res := [(.tmp 8)], code :=
 (.seq (.region [A 8 (.mv (.c (.bool false)))] [])
 (.seq (.region [A 12 (.mv (.t 0)),
 A 13 (.chk (.t 12)),
 A 14 (.fld 0 (.t 13)),
 A 15 (.load 1 false (.t 14)),
 A 16 (.mv (.t 2)),
 A 17 (.ixa 5 (.t 15) (.t 16)),
 A 18 (.load 5 true (.t 17)),
 A 9 (.alloc 159 [(.v .nil), (.v .nil), (.v .nil), (.v .nil), (.v (.bool false))]),
 ⟨none, (.store 5 (.t 9) (.t 18)), none, 0⟩] [])
 (.seq (.seq (.region [A 19 (.mv (.t 1)),
 A 20 (.bin .eql (.t 19) (.c (.int .i64 0)))] [])
 (.cond (.t 20) (.seq (.region [A 21 (.fld 1 (.t 9)),
 A 22 (.load 1 false (.t 21)),
 A 23 (.mv (.t 3)),
 A 24 (.call 166 [(.t 22), (.t 23)]),
 A 8 (.mv (.t 24))] [])
 .ret) .skip))
 (.seq (.region [A 25 (.mv (.t 0)),
 A 26 (.chk (.t 25)),
 A 27 (.fld 1 (.t 26)),
 A 28 (.load 1 false (.t 27)),
 A 29 (.mv (.t 1)),
 A 30 (.ixa 1 (.t 28) (.t 29)),
 A 31 (.load 1 false (.t 30)),
 A 10 (.mv (.t 31))] [])
 (.seq (.seq (.region [A 11 (.mv (.c (.int .i64 0)))] [])
 (.block 0 (.loop [2, 3, 9, 10, 11, 46, 47, 48, 49, 50, 51, 52, 53, 54, 55, 56] (.seq (.seq (.region [A 32 (.mv (.t 11)),
 A 33 (.mv (.t 10)),
 A 34 (.len (.t 33)),
 A 35 (.bin .lss (.t 32) (.t 34))] [])
 (.cond (.t 35) .skip (.exit 0)))
 (.seq (.block 1 (.seq (.region [A 38 (.mv (.t 10)),
 A 39 (.mv (.t 11)),
 ⟨some 40, (.ixa 2 (.t 38) (.t 39)), none, 3⟩,
 ⟨some 41, (.fld 0 (.t 40)), none, 7⟩,
 ⟨some 42, (.load 1 false (.t 41)), none, 15⟩,
 A 43 (.mv (.t 2)),
 ⟨some 44, (.bin .eql (.t 42) (.t 43)), none, 63⟩,
 ⟨some 45, (.mv (.t 44)), none, 127⟩,
 ⟨some 46, (.fld 3 (.t 9)), (some (45, true)), 255⟩,
 ⟨some 47, (.load 1 false (.t 46)), (some (45, true)), 511⟩,
 ⟨some 48, (.mv (.t 10)), (some (45, true)), 255⟩,
 ⟨some 49, (.mv (.t 11)), (some (45, true)), 255⟩,
 ⟨some 50, (.ixa 2 (.t 48) (.t 49)), (some (45, true)), 3327⟩,
 ⟨some 51, (.fld 1 (.t 50)), (some (45, true)), 7423⟩,
 ⟨some 52, (.load 1 false (.t 51)), (some (45, true)), 15615⟩,
 ⟨some 53, (.ixa 1 (.t 47) (.t 52)), (some (45, true)), 32767⟩,
 ⟨some 54, (.load 1 false (.t 53)), (some (45, true)), 65535⟩,
 ⟨some 55, (.mv (.t 3)), (some (45, true)), 255⟩,
 ⟨some 56, (.call 166 [(.t 54), (.t 55)]), (some (45, true)), 262143⟩,
 ⟨some 57, (.pick (.t 45) (.t 56) (.c (.bool false))), none, 524287⟩] [])
 (.cond (.t 57) (.seq (.region [A 8 (.mv (.c (.bool true)))] [])
 .ret) .skip)))
 (.region [A 36 (.mv (.t 11)),
 A 37 (.bin .add (.t 36) (.c (.int .i64 1))),
 A 11 (.mv (.t 37))] []))))))
 (.seq (.region [A 8 (.mv (.c (.bool false)))] [])
 .ret)))))) }
def a166 : AFunc :=
 { np := 2, nt := 18, mv := false, res := [(.tmp 4)], code :=
 (.seq (.region [A 4 (.mv (.c (.bool false)))] [])
 (.seq (.seq (.region [A 5 (.mv (.c (.int .i64 0)))] [])
 (.block 0 (.loop [0, 1, 5] (.seq (.seq (.region [A 6 (.mv (.t 5)),
 A 7 (.mv (.t 0)),
 A 8 (.len (.t 7)),
 A 9 (.bin .lss (.t 6) (.t 8))] [])
 (.cond (.t 9) .skip (.exit 0)))
 (.seq (.block 1 (.seq (.region [A 12 (.mv (.t 0)),
 A 13 (.mv (.t 5)),
 A 14 (.ixa 1 (.t 12) (.t 13)),
 A 15 (.load 1 false (.t 14)),
 A 16 (.mv (.t 1)),
 A 17 (.bin .eql (.t 15) (.t 16))] [])
 (.cond (.t 17) (.seq (.region [A 4 (.mv (.c (.bool true)))] [])
 .ret) .skip)))
 (.region [A 10 (.mv (.t 5)),
 A 11 (.bin .add (.t 10) (.c (.int .i64 1))),
 A 5 (.mv (.t 11))] []))))))
 (.seq (.region [A 4 (.mv (.c (.bool false)))] [])
 .ret))) }
def a167 : AFunc :=
 { np := 1, nt := 6, mv := false, res := [(.tmp 2)], code :=
 (.seq (.region [A 1 (.box 30 (.t 0)),
 A 2 (.mv (.c .nil))] [])
 (.seq (.region [A 3 (.load 7 true (.t 1)),
 A 4 (.call 125 [(.t 3), (.c (.bool true))]),
 A 5 (.call 126 [(.t 4)]),
 A 2 (.mv (.t 5))] [])
 .ret)) }
def a168 : AFunc :=
 { np := 1, nt := 6, mv := false, res := [(.tmp 2)], code :=
 (.seq (.region [A 1 (.box 30 (.t 0)),
 A 2 (.mv (.c .nil))] [])
 (.seq (.region [A 3 (.load 7 true (.t 1)),
 A 4 (.call 125 [(.t 3), (.c (.bool false))]),
 A 5 (.call 126 [(.t 4)]),
 A 2 (.mv (.t 5))] [])
 .ret)) }
def a169 : AFunc :=
 { np := 1, nt := 199, mv := false, res := [(.tmp 2)], code :=
 (.seq (.region [A 1 (.box 30 (.t 0)),
 A 2 (.mv (.c .nil))] [])
 (.seq (.region [A 21 (.load 7 true (.t 1)),
 ⟨some 22, (.call 124 [(.t 21)]), none, 1⟩,
 A 23 (.load 7 true (.t 1)),
 ⟨some 24, (.call 125 [(.t 23), (.c (.bool true))]), none, 7⟩,
 A 25 (.load 7 true (.t 1)),
 ⟨some 26, (.call 125 [(.t 25), (.c (.bool false))]), none, 31⟩,
 ⟨some 3, (.mv (.t 22)), none, 63⟩,
 ⟨some 4, (.mv (.t 24)), none, 127⟩,
 ⟨some 5, (.mv (.t 26)), none, 255⟩] [(2, 1), (4, 1), (4, 3)])
 (.seq (.region [A 27 (.fld 1 (.t 1)),
 A 28 (.load 1 false (.t 27)),
 A 29 (.len (.t 28)),
 A 30 (.mksl 4 1 1 [(.bool false)] (.t 29) (.t 29)),
 A 6 (.mv (.t 30))] [])
 (.seq (.region [A 31 (.mv (.t 6)),
 A 32 (.ixa 1 (.t 31) (.c (.int .i64 0))),
 ⟨none, (.store 1 (.t 32) (.c (.bool true))), none, 0⟩] [])
 (.seq (.seq (.region [A 7 (.mv (.c (.bool true)))] [])
 (.block 0 (.loop [1, 3, 4, 5, 6, 7, 51, 52, 53, 54, 55, 56, 57, 58, 59, 75, 76, 77, 78, 79, 116, 117, 118, 119, 120, 145, 146, 147, 148, 149, 150, 151, 152, 153, 154, 155, 156, 157, 158, 159, 160, 161, 162, 163, 164, 165, 166, 167, 168, 169, 170, 171, 172, 173, 174, 175, 176, 177, 178, 179, 180, 185, 186, 187, 188, 189] (.seq (.seq (.region [A 33 (.mv (.t 7))] [])
 (.cond (.t 33) .skip (.exit 0)))
 (.block 1 (.seq (.region [A 7 (.mv (.c (.bool false)))] [])
 (.seq (.region [A 8 (.mv (.c (.int .i64 0)))] [])
 (.block 2 (.loop [1, 3, 4, 5, 6, 7, 8, 51, 52, 53, 54, 55, 56, 57, 58, 59, 75, 76, 77, 78, 79, 116, 117, 118, 119, 120, 145, 146, 147, 148, 149, 150, 151, 152, 153, 154, 155, 156, 157, 158, 159, 160, 161, 162, 163, 164, 165, 166, 167, 168, 169, 170, 171, 172, 173, 174, 175, 176, 177, 178, 179, 180, 185, 186, 187, 188, 189] (.seq (.seq (.region [A 34 (.mv (.t 8)),
 A 35 (.fld 3 (.t 1)),
 A 36 (.load 1 false (.t 35)),
 A 37 (.len (.t 36)),
 A 38 (.bin .lss (.t 34) (.t 37))] [])
 (.cond (.t 38) .skip (.exit 2)))
 (.seq (.block 3 (.seq (.region [A 9 (.mv (.c (.int .i64 0)))] [])
 (.block 4 (.loop [1, 3, 4, 5, 6, 7, 8, 9, 51, 52, 53, 54, 55, 56, 57, 58, 59, 75, 76, 77, 78, 79, 116, 117, 118, 119, 120, 145, 146, 147, 148, 149, 150, 151, 152, 153, 154, 155, 156, 157, 158, 159, 160, 161, 162, 163, 164, 165, 166, 167, 168, 169, 170, 171, 172, 173, 174, 175, 176, 177, 178, 179, 180, 185, 186, 187, 188, 189] (.seq (.seq (.region [A 41 (.mv (.t 9)),
 A 42 (.fld 3 (.t 1)),
 A 43 (.load 1 false (.t 42)),
 A 44 (.mv (.t 8)),
 A 45 (.ixa 3 (.t 43) (.t 44)),
 A 46 (.fld 1 (.t 45)),
 A 47 (.load 1 false (.t 46)),
 A 48 (.len (.t 47)),
 A 49 (.bin .lss (.t 41) (.t 48)),
 A 50 (.mv (.t 49)),
 ⟨some 51, (.mv (.t 6)), (some (50, true)), 0⟩,
 ⟨some 52, (.fld 3 (.t 1)), (some (50, true)), 0⟩,
 ⟨some 53, (.load 1 false (.t 52)), (some (50, true)), 0⟩,
 ⟨some 54, (.mv (.t 8)), (some (50, true)), 0⟩,
 ⟨some 55, (.ixa 3 (.t 53) (.t 54)), (some (50, true)), 0⟩,
 ⟨some 56, (.fld 0 (.t 55)), (some (50, true)), 0⟩,
 ⟨some 57, (.load 1 false (.t 56)), (some (50, true)), 0⟩,
 ⟨some 58, (.ixa 1 (.t 51) (.t 57)), (some (50, true)), 0⟩,
 ⟨some 59, (.load 1 false (.t 58)), (some (50, true)), 0⟩,
 A 60 (.pick (.t 50) (.t 59) (.c (.bool false)))] [])
 (.cond (.t 60) .skip (.exit 4)))
 (.seq (.block 5 (.seq (.region [A 63 (.fld 3 (.t 1)),
 A 64 (.load 1 false (.t 63)),
 A 65 (.mv (.t 8)),
 A 66 (.ixa 3 (.t 64) (.t 65)),
 A 67 (.fld 1 (.t 66)),
 A 68 (.load 1 false (.t 67)),
 A 69 (.mv (.t 9)),
 A 70 (.ixa 1 (.t 68) (.t 69)),
 A 71 (.load 1 false (.t 70)),
 A 10 (.mv (.t 71))] [])
 (.seq (.region [A 72 (.mv (.t 10)),
 A 73 (.bin .geq (.t 72) (.c (.int .i64 0))),
 A 74 (.mv (.t 73)),
 ⟨some 75, (.mv (.t 6)), (some (74, true)), 0⟩,
 ⟨some 76, (.mv (.t 10)), (some (74, true)), 0⟩,
 ⟨some 77, (.ixa 1 (.t 75) (.t 76)), (some (74, true)), 0⟩,
 ⟨some 78, (.load 1 false (.t 77)), (some (74, true)), 0⟩,
 ⟨some 79, (.un .not (.t 78)), (some (74, true)), 0⟩,
 A 80 (.pick (.t 74) (.t 79) (.c (.bool false)))] [])
 (.cond (.t 80) (.region [A 81 (.mv (.t 6)),
 A 82 (.mv (.t 10)),
 A 83 (.ixa 1 (.t 81) (.t 82)),
 ⟨none, (.store 1 (.t 83) (.c (.bool true))), none, 0⟩,
 A 7 (.mv (.c (.bool true)))] []) .skip))))
 (.region [A 61 (.mv (.t 9)),
 A 62 (.bin .add (.t 61) (.c (.int .i64 1))),
 A 9 (.mv (.t 62))] [])))))))
 (.region [A 39 (.mv (.t 8)),
 A 40 (.bin .add (.t 39) (.c (.int .i64 1))),
 A 8 (.mv (.t 40))] []))))))))))))
 (.seq (.region [A 11 (.mv (.c .nil))] [])
 (.seq (.seq (.region [A 12 (.mv (.c (.int .i64 0)))] [])
 (.block 6 (.loop [1, 3, 4, 5, 6, 11, 12, 116, 117, 118, 119, 120, 145, 146, 147, 148, 149, 150, 151, 152, 153, 154, 155, 156, 157, 158, 159, 160, 161, 162, 163, 164, 165, 166, 167, 168, 169, 170, 171, 172, 173, 174, 175, 176, 177, 178, 179, 180, 185, 186, 187, 188, 189] (.seq (.seq (.region [A 84 (.mv (.t 12)),
 A 85 (.fld 0 (.t 1)),
 A 86 (.load 1 false (.t 85)),
 A 87 (.len (.t 86)),
 A 88 (.bin .lss (.t 84) (.t 87))] [])
 (.cond (.t 88) .skip (.exit 6)))
 (.seq (.block 7 (.seq (.region [A 13 (.mv (.c (.int .i64 0)))] [])
 (.block 8 (.loop [1, 3, 4, 5, 6, 11, 12, 13, 116, 117, 118, 119, 120, 145, 146, 147, 148, 149, 150, 151, 152, 153, 154, 155, 156, 157, 158, 159, 160, 161, 162, 163, 164, 165, 166, 167, 168, 169, 170, 171, 172, 173, 174, 175, 176, 177, 178, 179, 180, 185, 186, 187, 188, 189] (.seq (.seq (.region [A 91 (.mv (.t 13)),
 A 92 (.fld 0 (.t 1)),
 A 93 (.load 1 false (.t 92)),
 A 94 (.len (.t 93)),
 A 95 (.bin .lss (.t 91) (.t 94))] [])
 (.cond (.t 95) .skip (.exit 8)))
 (.seq (.block 9 (.seq (.region [A 14 (.mv (.c (.bool false)))] [])
 (.seq (.seq (.region [A 15 (.mv (.c (.int .i64 0)))] [])
 (.block 10 (.loop [1, 3, 4, 5, 6, 11, 12, 13, 14, 15, 116, 117, 118, 119, 120, 145, 146, 147, 148, 149, 150, 151, 152, 153, 154, 155, 156, 157, 158, 159, 160, 161, 162, 163, 164, 165, 166, 167, 168, 169, 170, 171, 172, 173, 174, 175, 176, 177, 178, 179, 180, 185, 186, 187, 188, 189] (.seq (.seq (.region [A 98 (.mv (.t 15)),
 A 99 (.fld 3 (.t 1)),
 A 100 (.load 1 false (.t 99)),
 A 101 (.len (.t 100)),
 A 102 (.bin .lss (.t 98) (.t 101))] [])
 (.cond (.t 102) .skip (.exit 10)))
 (.seq (.block 11 (.seq (.region [A 105 (.fld 3 (.t 1)),
 A 106 (.load 1 false (.t 105)),
 A 107 (.mv (.t 15)),
 A 108 (.ixa 3 (.t 106) (.t 107)),
 A 109 (.load 3 true (.t 108)),
 A 16 (.alloc 55 [(.v (.int .i64 0)), (.v .nil), (.v (.int .i64 0))]),
 ⟨none, (.store 3 (.t 16) (.t 109)), none, 0⟩] [])
 (.seq (.region [A 17 (.mv (.c (.int .i64 0)))] [])
 (.block 12 (.loop [1, 3, 4, 5, 6, 11, 12, 13, 14, 15, 16, 17, 116, 117, 118, 119, 120, 145, 146, 147, 148, 149, 150, 151, 152, 153, 154, 155, 156, 157, 158, 159, 160, 161, 162, 163, 164, 165, 166, 167, 168, 169, 170, 171, 172, 173, 174, 175, 176, 177, 178, 179, 180, 185, 186, 187, 188, 189] (.seq (.seq (.region [A 110 (.mv (.t 17)),
 A 111 (.fld 1 (.t 16)),
 A 112 (.load 1 false (.t 111)),
 A 113 (.len (.t 112)),
 A 114 (.bin .lss (.t 110) (.t 113)),
 A 115 (.mv (.t 114)),
 ⟨some 116, (.mv (.t 6)), (some (115, true)), 0⟩,
 ⟨some 117, (.fld 0 (.t 16)), (some (115, true)), 0⟩,
 ⟨some 118, (.load 1 false (.t 117)), (some (115, true)), 0⟩,
 ⟨some 119, (.ixa 1 (.t 116) (.t 118)), (some (115, true)), 0⟩,
 ⟨some 120, (.load 1 false (.t 119)), (some (115, true)), 0⟩,
 A 121 (.pick (.t 115) (.t 120) (.c (.bool false)))] [])
 (.cond (.t 121) .skip (.exit 12)))
 (.seq (.block 13 (.seq (.region [A 124 (.mv (.t 17)),
 A 125 (.bin .add (.t 124) (.c (.int .i64 1))),
 A 18 (.mv (.t 125))] [])
 (.block 14 (.loop [1, 3, 4, 5, 6, 11, 12, 13, 14, 15, 16, 17, 18, 116, 117, 118, 119, 120, 145, 146, 147, 148, 149, 150, 151, 152, 153, 154, 155, 156, 157, 158, 159, 160, 161, 162, 163, 164, 165, 166, 167, 168, 169, 170, 171, 172, 173, 174, 175, 176, 177, 178, 179, 180, 185, 186, 187, 188, 189] (.seq (.seq (.region [A 126 (.mv (.t 18)),
 A 127 (.fld 1 (.t 16)),
 A 128 (.load 1 false (.t 127)),
 A 129 (.len (.t 128)),
 A 130 (.bin .lss (.t 126) (.t 129))] [])
 (.cond (.t 130) .skip (.exit 14)))
 (.seq (.block 15 (.seq (.region [A 133 (.fld 1 (.t 16)),
 ⟨some 134, (.load 1 false (.t 133)), none, 1⟩,
 A 135 (.mv (.t 17)),
 ⟨some 136, (.ixa 1 (.t 134) (.t 135)), none, 7⟩,
 ⟨some 137, (.load 1 false (.t 136)), none, 15⟩,
 A 138 (.fld 1 (.t 16)),
 ⟨some 139, (.load 1 false (.t 138)), none, 32⟩,
 A 140 (.mv (.t 18)),
 ⟨some 141, (.ixa 1 (.t 139) (.t 140)), none, 224⟩,
 ⟨some 142, (.load 1 false (.t 141)), none, 480⟩,
 ⟨some 19, (.mv (.t 137)), none, 31⟩,
 ⟨some 20, (.mv (.t 142)), none, 2047⟩] [])
 (.seq (.region [A 143 (.mv (.t 14)),
 A 144 (.mv (.t 143)),
 ⟨some 145, (.mv (.t 19)), (some (144, false)), 0⟩,
 ⟨some 146, (.mv (.t 12)), (some (144, false)), 0⟩,
 ⟨some 147, (.bin .sub (.c (.int .i64 (-1))) (.t 146)), (some (144, false)), 0⟩,
 ⟨some 148, (.bin .eql (.t 145) (.t 147)), (some (144, false)), 0⟩,
 ⟨some 149, (.mv (.t 148)), (some (144, false)), 0⟩,
 ⟨some 150, (.mv (.t 19)), (some (149, false)), 0⟩,
 ⟨some 151, (.bin .geq (.t 150) (.c (.int .i64 0))), (some (149, false)), 0⟩,
 ⟨some 152, (.mv (.t 151)), (some (149, false)), 0⟩,
 ⟨some 153, (.mv (.t 5)), (some (152, true)), 0⟩,
 ⟨some 154, (.mv (.t 19)), (some (152, true)), 0⟩,
 ⟨some 155, (.ixa 1 (.t 153) (.t 154)), (some (152, true)), 0⟩,
 ⟨some 156, (.load 1 false (.t 155)), (some (152, true)), 0⟩,
 ⟨some 157, (.mv (.t 12)), (some (152, true)), 0⟩,
 ⟨some 158, (.ixa 1 (.t 156) (.t 157)), (some (152, true)), 0⟩,
 ⟨some 159, (.load 1 false (.t 158)), (some (152, true)), 0⟩,
 ⟨some 160, (.pick (.t 152) (.t 159) (.c (.bool false))), (some (149, false)), 0⟩,
 ⟨some 161, (.pick (.t 149) (.c (.bool true)) (.t 160)), (some (144, false)), 0⟩,
 ⟨some 162, (.mv (.t 161)), (some (144, false)), 0⟩,
 ⟨some 163, (.mv (.t 20)), (some (162, true)), 0⟩,
 ⟨some 164, (.mv (.t 13)), (some (162, true)), 0⟩,
 ⟨some 165, (.bin .sub (.c (.int .i64 (-1))) (.t 164)), (some (162, true)), 0⟩,
 ⟨some 166, (.bin .eql (.t 163) (.t 165)), (some (162, true)), 0⟩,
 ⟨some 167, (.mv (.t 166)), (some (162, true)), 0⟩,
 ⟨some 168, (.mv (.t 20)), (some (167, false)), 0⟩,
 ⟨some 169, (.bin .geq (.t 168) (.c (.int .i64 0))), (some (167, false)), 0⟩,
 ⟨some 170, (.mv (.t 169)), (some (167, false)), 0⟩,
 ⟨some 171, (.mv (.t 4)), (some (170, true)), 0⟩,
 ⟨some 172, (.mv (.t 20)), (some (170, true)), 0⟩,
 ⟨some 173, (.ixa 1 (.t 171) (.t 172)), (some (170, true)), 0⟩,
 ⟨some 174, (.load 1 false (.t 173)), (some (170, true)), 0⟩,
 ⟨some 175, (.mv (.t 13)), (some (170, true)), 0⟩,
 ⟨some 176, (.ixa 1 (.t 174) (.t 175)), (some (170, true)), 0⟩,
 ⟨some 177, (.load 1 false (.t 176)), (some (170, true)), 0⟩,
 ⟨some 178, (.pick (.t 170) (.t 177) (.c (.bool false))), (some (167, false)), 0⟩,
 ⟨some 179, (.pick (.t 167) (.c (.bool true)) (.t 178)), (some (162, true)), 0⟩,
 ⟨some 180, (.pick (.t 162) (.t 179) (.c (.bool false))), (some (144, false)), 0⟩,
 A 181 (.pick (.t 144) (.c (.bool true)) (.t 180)),
 A 14 (.mv (.t 181))] [])
 (.seq (.region [A 182 (.mv (.t 20)),
 A 183 (.bin .lss (.t 182) (.c (.int .i64 0))),
 A 184 (.mv (.t 183)),
 ⟨some 185, (.mv (.t 3)), (some (184, false)), 0⟩,
 ⟨some 186, (.mv (.t 20)), (some (184, false)), 0⟩,
 ⟨some 187, (.ixa 1 (.t 185) (.t 186)), (some (184, false)), 0⟩,
 ⟨some 188, (.load 1 false (.t 187)), (some (184, false)), 0⟩,
 ⟨some 189, (.un .not (.t 188)), (some (184, false)), 0⟩,
 A 190 (.pick (.t 184) (.c (.bool true)) (.t 189))] [])
 (.cond (.t 190) (.exit 14) .skip)))))
 (.region [A 131 (.mv (.t 18)),
 A 132 (.bin .add (.t 131) (.c (.int .i64 1))),
 A 18 (.mv (.t 132))] [])))))))
 (.region [A 122 (.mv (.t 17)),
 A 123 (.bin .add (.t 122) (.c (.int .i64 1))),
 A 17 (.mv (.t 123))] []))))))))
 (.region [A 103 (.mv (.t 15)),
 A 104 (.bin .add (.t 103) (.c (.int .i64 1))),
 A 15 (.mv (.t 104))] []))))))
 (.seq (.region [A 191 (.mv (.t 14))] [])
 (.cond (.t 191) (.region [A 192 (.mv (.t 11)),
 A 193 (.mv (.t 12)),
 A 194 (.mv (.t 13)),
 A 195 (.build [(.int .i64 0), (.int .i64 0)] [(0, 1, (.t 193)), (1, 1, (.t 194))]),
 A 196 (.litF 248 2 1 [(.int .i64 0), (.int .i64 0)] [(0, (.t 195))]),
 A 197 (.app 248 2 16 (.t 192) (.t 196)),
 A 11 (.mv (.t 197))] []) .skip)))))
 (.region [A 96 (.mv (.t 13)),
 A 97 (.bin .add (.t 96) (.c (.int .i64 1))),
 A 13 (.mv (.t 97))] [])))))))
 (.region [A 89 (.mv (.t 12)),
 A 90 (.bin .add (.t 89) (.c (.int .i64 1))),
 A 12 (.mv (.t 90))] []))))))
 (.seq (.region [A 198 (.mv (.t 11)),
 A 2 (.mv (.t 198))] [])
 .ret)))))))) }
def a170 : AFunc :=
 { np := 2, nt := 22, mv := false, res := [(.tmp 4)], code :=
 (.seq (.region [A 4 (.mv (.c .nil))] [])
 (.seq (.region [A 7 (.mv (.t 1)),
 A 8 (.mksl 4 1 1 [(.bool false)] (.t 7) (.t 7)),
 A 5 (.mv (.t 8))] [])
 (.seq (.seq (.region [A 6 (.mv (.c (.int .i64 0)))] [])
 (.block 0 (.loop [0, 5, 6] (.seq (.seq (.region [A 9 (.mv (.t 6)),
 A 10 (.mv (.t 0)),
 A 11 (.len (.t 10)),
 A 12 (.bin .lss (.t 9) (.t 11))] [])
 (.cond (.t 12) .skip (.exit 0)))
 (.seq (.block 1 (.region [A 15 (.mv (.t 5)),
 A 16 (.mv (.t 0)),
 A 17 (.mv (.t 6)),
 A 18 (.ixa 1 (.t 16) (.t 17)),
 A 19 (.load 1 false (.t 18)),
 A 20 (.ixa 1 (.t 15) (.t 19)),
 ⟨none, (.store 1 (.t 20) (.c (.bool true))), none, 0⟩] []))
 (.region [A 13 (.mv (.t 6)),
 A 14 (.bin .add (.t 13) (.c (.int .i64 1))),
 A 6 (.mv (.t 14))] []))))))
 (.seq (.region [A 21 (.mv (.t 5)),
 A 4 (.mv (.t 21))] [])
 .ret)))) }
def a171 : AFunc :=
 { np := 4, nt := 69, mv := true, res := [(.tmp 8)], code :=
 (.seq (.region [A 7 (.box 60 (.t 3)),
 A 8 (.mv (.c .nil))] [])
 (.seq (.seq (.region [A 9 (.mv (.c (.int .i64 0)))] [])
 (.block 0 (.loop [0, 1, 2, 7, 9, 34, 35, 36, 37] (.seq (.seq (.region [A 12 (.mv (.t 9)),
 A 13 (.mv (.t 0)),
 A 14 (.chk (.t 13)),
 A 15 (.fld 7 (.t 14)),
 A 16 (.load 1 false (.t 15)),
 A 17 (.len (.t 16)),
 A 18 (.bin .lss (.t 12) (.t 17))] [])
 (.cond (.t 18) .skip (.exit 0)))
 (.seq (.block 1 (.seq (.region [A 21 (.mv (.t 0)),
 A 22 (.chk (.t 21)),
 A 23 (.fld 7 (.t 22)),
 A 24 (.load 1 false (.t 23)),
 A 25 (.mv (.t 9)),
 A 26 (.ixa 5 (.t 24) (.t 25)),
 A 27 (.fld 1 (.t 26)),
 A 28 (.load 1 false (.t 27)),
 A 10 (.mv (.t 28))] [])
 (.seq (.region [A 11 (.mv (.c (.int .i64 0)))] [])
 (.block 2 (.loop [0, 1, 2, 7, 9, 10, 11, 34, 35, 36, 37] (.seq (.seq (.region [A 29 (.mv (.t 11)),
 A 30 (.mv (.t 10)),
 A 31 (.len (.t 30)),
 A 32 (.bin .lss (.t 29) (.t 31)),
 A 33 (.mv (.t 32)),
 ⟨some 34, (.mv (.t 0)), (some (33, true)), 0⟩,
 ⟨some 35, (.mv (.t 2)), (some (33, true)), 0⟩,
 ⟨some 36, (.mv (.t 9)), (some (33, true)), 0⟩,
 ⟨some 37, (.call 204 [(.t 34), (.t 35), (.t 36)]), (some (33, true)), 0⟩,
 A 38 (.pick (.t 33) (.t 37) (.c (.bool false)))] [])
 (.cond (.t 38) .skip (.exit 2)))
 (.seq (.block 3 (.seq (.region [A 41 (.mv (.t 0)),
 ⟨some 42, (.chk (.t 41)), none, 1⟩,
 ⟨some 43, (.fld 7 (.t 42)), none, 3⟩,
 ⟨some 44, (.load 1 false (.t 43)), none, 7⟩,
 A 45 (.mv (.t 9)),
 ⟨some 46, (.ixa 5 (.t 44) (.t 45)), none, 31⟩,
 ⟨some 47, (.fld 0 (.t 46)), none, 63⟩,
 ⟨some 48, (.load 1 false (.t 47)), none, 127⟩,
 A 49 (.mv (.t 10)),
 A 50 (.mv (.t 11)),
 ⟨some 51, (.ixa 1 (.t 49) (.t 50)), none, 768⟩,
 ⟨some 52, (.load 1 false (.t 51)), none, 1792⟩,
 ⟨some 53, (.ixa 4 (.t 48) (.t 52)), none, 4095⟩,
 ⟨some 54, (.load 4 true (.t 53)), none, 8191⟩,
 A 55 (.load 4 true (.t 7)),
 ⟨some 56, (.call 172 [(.t 54), (.t 55)]), none, 32767⟩,
 ⟨some 57, (.call 61 [(.t 56)]), none, 65535⟩,
 ⟨some 58, (.un .not (.t 57)), none, 131071⟩] [])
 (.cond (.t 58) (.region [A 59 (.mv (.t 1)),
 A 60 (.mv (.t 2)),
 A 61 (.mv (.t 9)),
 A 62 (.mv (.t 10)),
 A 63 (.mv (.t 11)),
 A 64 (.ixa 1 (.t 62) (.t 63)),
 A 65 (.load 1 false (.t 64)),
 A 66 (.build [(.int .i64 0), (.int .i64 0), (.int .i64 0)] [(0, 1, (.t 60)), (1, 1, (.t 61)), (2, 1, (.t 65))]),
 A 67 (.call 173 [(.t 59), (.t 66)]),
 A 1 (.mv (.t 67))] []) .skip)))
 (.region [A 39 (.mv (.t 11)),
 A 40 (.bin .add (.t 39) (.c (.int .i64 1))),
 A 11 (.mv (.t 40))] []))))))))
 (.region [A 19 (.mv (.t 9)),
 A 20 (.bin .add (.t 19) (.c (.int .i64 1))),
 A 9 (.mv (.t 20))] []))))))
 (.seq (.region [A 68 (.mv (.t 1)),
 A 8 (.mv (.t 68))] [])
 .ret))) }
def a172 : AFunc :=
 { np := 2, nt := 28, mv := false, res := [(.cell 4 4 true)], code :=
 (.seq (.region [A 2 (.box 60 (.t 0)),
 A 3 (.box 60 (.t 1)),
 A 4 (.alloc 60 [(.v (.int .u64 0)), (.v (.int .u64 0)), (.v (.int .u64 0)), (.v (.int .u64 0))])] [])
 (.seq (.region [A 5 (.mv (.c .nil))] [])
 (.seq (.seq (.region [A 6 (.mv (.c (.int .i64 0)))] [])
 (.block 0 (.loop [2, 3, 4, 5, 6, 16, 17, 18, 19] (.seq (.seq (.region [A 7 (.mv (.t 6)),
 A 8 (.bin .lss (.t 7) (.c (.int .i64 256)))] [])
 (.cond (.t 8) .skip (.exit 0)))
 (.seq (.block 1 (.seq (.region [A 11 (.load 4 true (.t 2)),
 A 12 (.mv (.t 6)),
 A 13 (.conv .u8 (.t 12)),
 A 14 (.call 128 [(.t 11), (.t 13)]),
 A 15 (.mv (.t 14)),
 ⟨some 16, (.load 4 true (.t 3)), (some (15, true)), 0⟩,
 ⟨some 17, (.mv (.t 6)), (some (15, true)), 0⟩,
 ⟨some 18, (.conv .u8 (.t 17)), (some (15, true)), 0⟩,
 ⟨some 19, (.call 128 [(.t 16), (.t 18)]), (some (15, true)), 0⟩,
 A 20 (.pick (.t 15) (.t 19) (.c (.bool false)))] [])
 (.cond (.t 20) (.region [A 21 (.mv (.t 5)),
 A 22 (.mv (.t 6)),
 A 23 (.conv .u8 (.t 22)),
 A 24 (.litF 5 1 1 [(.int .u8 0)] [(0, (.t 23))]),
 A 25 (.app 5 1 1 (.t 21) (.t 24)),
 A 5 (.mv (.t 25))] []) .skip)))
 (.region [A 9 (.mv (.t 6)),
 A 10 (.bin .add (.t 9) (.c (.int .i64 1))),
 A 6 (.mv (.t 10))] []))))))
 (.seq (.region [A 26 (.mv (.t 5)),
 A 27 (.call 85 [(.t 26)]),
 ⟨none, (.store 4 (.t 4) (.t 27)), none, 0⟩] [])
 .ret)))) }
def a173 : AFunc :=
 { np := 2, nt := 23, mv := true, res := [(.tmp 4)], code :=
 (.seq (.region [A 3 (.box 251 (.t 1)),
 A 4 (.mv (.c .nil))] [])
 (.seq (.seq (.region [A 5 (.mv (.c (.int .i64 0)))] [])
 (.block 0 (.loop [0, 3, 5] (.seq (.seq (.region [A 6 (.mv (.t 5)),
 A 7 (.mv (.t 0)),
 A 8 (.len (.t 7)),
 A 9 (.bin .lss (.t 6) (.t 8))] [])
 (.cond (.t 9) .skip (.exit 0)))
 (.seq (.block 1 (.seq (.region [A 12 (.mv (.t 0)),
 A 13 (.mv (.t 5)),
 ⟨some 14, (.ixa 3 (.t 12) (.t 13)), none, 3⟩,
 ⟨some 15, (.load 3 true (.t 14)), none, 7⟩,
 A 16 (.load 3 true (.t 3)),
 ⟨some 17, (.eqA 3 false (.t 15) (.t 16)), none, 31⟩] [])
 (.cond (.t 17) (.seq (.region [A 18 (.mv (.t 0)),
 A 4 (.mv (.t 18))] [])
 .ret) .skip)))
 (.region [A 10 (.mv (.t 5)),
 A 11 (.bin .add (.t 10) (.c (.int .i64 1))),
 A 5 (.mv (.t 11))] []))))))
 (.seq (.region [A 19 (.mv (.t 0)),
 A 20 (.load 3 true (.t 3)),
 A 21 (.litF 251 3 1 [(.int .i64 0), (.int .i64 0), (.int .i64 0)] [(0, (.t 20))]),
 A 22 (.app 251 3 24 (.t 19) (.t 21)),
 A 4 (.mv (.t 22))] [])
 .ret))) }
def a174 : AFunc :=
 { np := 2, nt := 18, mv := false, res := [(.tmp 4)], code :=
 (.seq (.region [A 4 (.mv (.c (.bool false)))] [])
 (.seq (.seq (.region [A 5 (.mv (.c (.int .i64 0)))] [])
 (.block 0 (.loop [0, 1, 5] (.seq (.seq (.region [A 6 (.mv (.t 5)),
 A 7 (.mv (.t 0)),
 A 8 (.len (.t 7)),
 A 9 (.bin .lss (.t 6) (.t 8))] [])
 (.cond (.t 9) .skip (.exit 0)))
 (.seq (.block 1 (.seq (.region [A 12 (.mv (.t 0)),
 A 13 (.mv (.t 5)),
 A 14 (.ixa 1 (.t 12) (.t 13)),
 A 15 (.load 1 false (.t 14)),
 A 16 (.mv (.t 1)),
 A 17 (.bin .eql (.t 15) (.t 16))] [])
 (.cond (.t 17) (.seq (.region [A 4 (.mv (.c (.bool true)))] [])
 .ret) .skip)))
 (.region [A 10 (.mv (.t 5)),
 A 11 (.bin .add (.t 10) (.c (.int .i64 1))),
 A 5 (.mv (.t 11))] []))))))
 (.seq (.region [A 4 (.mv (.c (.bool false)))] [])
 .ret))) }
def a175 : AFunc :=
 { np := 1, nt := 18, mv := true, res := [(.tmp 2)], code :=
 (.seq (.region [A 2 (.mv (.c .nil))] [])
 (.seq (.region [A 5 (.mv (.t 0)),
 A 6 (.mkrows 42 24 (.t 5) (.t 5)),
 A 3 (.mv (.t 6))] [])
 (.seq (.seq (.region [A 4 (.mv (.c (.int .i64 0)))] [])
 (.block 0 (.loop [0, 3, 4] (.seq (.seq (.region [A 7 (.mv (.t 4)),
 A 8 (.mv (.t 0)),
 A 9 (.bin .lss (.t 7) (.t 8))] [])
 (.cond (.t 9) .skip (.exit 0)))
 (.seq (.block 1 (.region [A 12 (.mv (.t 3)),
 A 13 (.mv (.t 4)),
 A 14 (.mv (.t 0)),
 A 15 (.mksl 4 1 1 [(.bool false)] (.t 14) (.t 14)),
 A 16 (.ixa 1 (.t 12) (.t 13)),
 ⟨none, (.store 1 (.t 16) (.t 15)), none, 0⟩] []))
 (.region [A 10 (.mv (.t 4)),
 A 11 (.bin .add (.t 10) (.c (.int .i64 1))),
 A 4 (.mv (.t 11))] []))))))
 (.seq (.region [A 17 (.mv (.t 3)),
 A 2 (.mv (.t 17))] [])
 .ret)))) }
def a178 : AFunc :=
 { np := 1, nt := 69, mv := false, res := [(.tmp 2)], code :=
 (.seq (.region [A 1 (.box 63 (.t 0)),
 A 2 (.mv (.c (.bool false)))] [])
 (.seq (.seq (.region [A 4 (.fld 0 (.t 1)),
 A 5 (.load 1 false (.t 4))] [])
 (.block 0 (.seq (.region [A 7 (.bin .eql (.t 5) (.c (.int .i64 1))),
 A 6 (.mv (.t 7))] [])
 (.cond (.t 6) (.seq (.region [A 8 (.fld 5 (.t 1)),
 A 9 (.load 1 false (.t 8)),
 A 10 (.len (.t 9)),
 A 11 (.bin .eql (.t 10) (.c (.int .i64 0))),
 A 12 (.mv (.t 11)),
 ⟨some 13, (.fld 1 (.t 1)), (some (12, true)), 0⟩,
 ⟨some 14, (.load 4 true (.t 13)), (some (12, true)), 0⟩,
 ⟨some 15, (.call 61 [(.t 14)]), (some (12, true)), 0⟩,
 ⟨some 16, (.un .not (.t 15)), (some (12, true)), 0⟩,
 A 17 (.pick (.t 12) (.t 16) (.c (.bool false))),
 A 2 (.mv (.t 17))] [])
 .ret) (.seq (.seq (.region [A 19 (.bin .eql (.t 5) (.c (.int .i64 2))),
 A 18 (.mv (.t 19))] [])
 (.cond (.t 18) .skip (.region [A 20 (.bin .eql (.t 5) (.c (.int .i64 3))),
 A 18 (.mv (.t 20))] [])))
 (.cond (.t 18) (.seq (.region [A 21 (.fld 5 (.t 1)),
 A 22 (.load 1 false (.t 21)),
 A 23 (.len (.t 22)),
 A 24 (.bin .lss (.t 23) (.c (.int .i64 2)))] [])
 (.cond (.t 24) (.seq (.region [A 2 (.mv (.c (.bool false)))] [])
 .ret) .skip)) (.seq (.seq (.region [A 26 (.bin .eql (.t 5) (.c (.int .i64 4))),
 A 25 (.mv (.t 26))] [])
 (.cond (.t 25) .skip (.seq (.region [A 27 (.bin .eql (.t 5) (.c (.int .i64 5))),
 A 25 (.mv (.t 27))] [])
 (.cond (.t 25) .skip (.region [A 28 (.bin .eql (.t 5) (.c (.int .i64 6))),
 A 25 (.mv (.t 28))] [])))))
 (.cond (.t 25) (.seq (.region [A 29 (.fld 5 (.t 1)),
 A 30 (.load 1 false (.t 29)),
 A 31 (.len (.t 30)),
 A 32 (.bin .neq (.t 31) (.c (.int .i64 1))),
 A 33 (.mv (.t 32)),
 ⟨some 34, (.fld 5 (.t 1)), (some (33, false)), 0⟩,
 ⟨some 35, (.load 1 false (.t 34)), (some (33, false)), 0⟩,
 ⟨some 36, (.ixa 6 (.t 35) (.c (.int .i64 0))), (some (33, false)), 0⟩,
 ⟨some 37, (.fld 0 (.t 36)), (some (33, false)), 0⟩,
 ⟨some 38, (.load 1 false (.t 37)), (some (33, false)), 0⟩,
 ⟨some 39, (.bin .geq (.t 38) (.c (.int .i64 4))), (some (33, false)), 0⟩,
 A 40 (.pick (.t 33) (.c (.bool true)) (.t 39))] [])
 (.cond (.t 40) (.seq (.region [A 2 (.mv (.c (.bool false)))] [])
 .ret) .skip)) (.seq (.region [A 2 (.mv (.c (.bool false)))] [])
 .ret)))))))))
 (.seq (.seq (.region [A 3 (.mv (.c (.int .i64 0)))] [])
 (.block 1 (.loop [1, 3, 56, 57, 58, 59, 60, 61, 62, 63, 64] (.seq (.seq (.region [A 41 (.mv (.t 3)),
 A 42 (.fld 5 (.t 1)),
 A 43 (.load 1 false (.t 42)),
 A 44 (.len (.t 43)),
 A 45 (.bin .lss (.t 41) (.t 44))] [])
 (.cond (.t 45) .skip (.exit 1)))
 (.seq (.block 2 (.seq (.region [A 48 (.fld 5 (.t 1)),
 ⟨some 49, (.load 1 false (.t 48)), none, 1⟩,
 A 50 (.mv (.t 3)),
 ⟨some 51, (.ixa 6 (.t 49) (.t 50)), none, 7⟩,
 ⟨some 52, (.load 6 true (.t 51)), none, 15⟩,
 ⟨some 53, (.call 178 [(.t 52)]), none, 31⟩,
 ⟨some 54, (.un .not (.t 53)), none, 63⟩,
 ⟨some 55, (.mv (.t 54)), none, 127⟩,
 ⟨some 56, (.fld 5 (.t 1)), (some (55, false)), 255⟩,
 ⟨some 57, (.load 1 false (.t 56)), (some (55, false)), 511⟩,
 ⟨some 58, (.mv (.t 3)), (some (55, false)), 255⟩,
 ⟨some 59, (.ixa 6 (.t 57) (.t 58)), (some (55, false)), 2047⟩,
 ⟨some 60, (.fld 0 (.t 59)), (some (55, false)), 4095⟩,
 ⟨some 61, (.load 1 false (.t 60)), (some (55, false)), 8191⟩,
 ⟨some 62, (.fld 0 (.t 1)), (some (55, false)), 255⟩,
 ⟨some 63, (.load 1 false (.t 62)), (some (55, false)), 16639⟩,
 ⟨some 64, (.bin .eql (.t 61) (.t 63)), (some (55, false)), 65535⟩,
 ⟨some 65, (.pick (.t 55) (.c (.bool true)) (.t 64)), none, 131071⟩] [])
 (.cond (.t 65) (.seq (.region [A 2 (.mv (.c (.bool false)))] [])
 .ret) .skip)))
 (.region [A 46 (.mv (.t 3)),
 A 47 (.bin .add (.t 46) (.c (.int .i64 1))),
 A 3 (.mv (.t 47))] []))))))
 (.seq (.region [A 66 (.fld 1 (.t 1)),
 A 67 (.load 4 true (.t 66)),
 A 68 (.call 61 [(.t 67)]),
 A 2 (.mv (.t 68))] [])
 .ret)))) }
def a179 : AFunc :=
 { np := 1, nt := 21, mv := false, res := [(.tmp 2)], code :=
 (.seq (.region [A 1 (.box 63 (.t 0)),
 A 2 (.mv (.c (.int .i64 0)))] [])
 (.seq (.region [A 3 (.mv (.c (.int .i64 1)))] [])
 (.seq (.seq (.region [A 4 (.mv (.c (.int .i64 0)))] [])
 (.block 0 (.loop [1, 3, 4] (.seq (.seq (.region [A 5 (.mv (.t 4)),
 A 6 (.fld 5 (.t 1)),
 A 7 (.load 1 false (.t 6)),
 A 8 (.len (.t 7)),
 A 9 (.bin .lss (.t 5) (.t 8))] [])
 (.cond (.t 9) .skip (.exit 0)))
 (.seq (.block 1 (.region [A 12 (.mv (.t 3)),
 A 13 (.fld 5 (.t 1)),
 A 14 (.load 1 false (.t 13)),
 A 15 (.mv (.t 4)),
 A 16 (.ixa 6 (.t 14) (.t 15)),
 A 17 (.load 6 true (.t 16)),
 A 18 (.call 179 [(.t 17)]),
 A 19 (.bin .add (.t 12) (.t 18)),
 A 3 (.mv (.t 19))] []))
 (.region [A 10 (.mv (.t 4)),
 A 11 (.bin .add (.t 10) (.c (.int .i64 1))),
 A 4 (.mv (.t 11))] []))))))
 (.seq (.region [A 20 (.mv (.t 3)),
 A 2 (.mv (.t 20))] [])
 .ret)))) }
def a180 : AFunc :=
 { np := 1, nt := 22, mv := false, res := [(.tmp 2)], code :=
 (.seq (.region [A 1 (.box 63 (.t 0)),
 A 2 (.mv (.c (.int .i64 0)))] [])
 (.seq (.region [A 3 (.mv (.c (.int .i64 0)))] [])
 (.seq (.seq (.region [A 4 (.mv (.c (.int .i64 0)))] [])
 (.block 0 (.loop [1, 3, 4] (.seq (.seq (.region [A 5 (.mv (.t 4)),
 A 6 (.fld 5 (.t 1)),
 A 7 (.load 1 false (.t 6)),
 A 8 (.len (.t 7)),
 A 9 (.bin .lss (.t 5) (.t 8))] [])
 (.cond (.t 9) .skip (.exit 0)))
 (.seq (.block 1 (.region [A 12 (.mv (.t 3)),
 A 13 (.fld 5 (.t 1)),
 A 14 (.load 1 false (.t 13)),
 A 15 (.mv (.t 4)),
 A 16 (.ixa 6 (.t 14) (.t 15)),
 A 17 (.load 6 true (.t 16)),
 A 18 (.call 180 [(.t 17)]),
 A 19 (.mx (.t 12) (.t 18)),
 A 3 (.mv (.t 19))] []))
 (.region [A 10 (.mv (.t 4)),
 A 11 (.bin .add (.t 10) (.c (.int .i64 1))),
 A 4 (.mv (.t 11))] []))))))
 (.seq (.region [A 20 (.mv (.t 3)),
 A 21 (.bin .add (.t 20) (.c (.int .i64 1))),
 A 2 (.mv (.t 21))] [])
 .ret)))) }
def a182 : AFunc :=
 { np := 1, nt := 19, mv := false, res := [(.tmp 2)], code :=
 (.seq (.region [A 1 (.box 63 (.t 0)),
 A 2 (.mv (.c (.int .i64 0)))] [])
 (.seq (.seq (.region [A 5 (.load 6 true (.t 1)),
 A 6 (.call 205 [(.t 5)]),
 A 7 (.un .not (.t 6))] [])
 (.cond (.t 7) (.seq (.region [A 2 (.mv (.c (.int .i64 2)))] [])
 .ret) .skip))
 (.seq (.seq (.region [A 9 (.load 6 true (.t 1)),
 A 10 (.call 206 [(.t 9)]),
 A 8 (.mv (.t 10)),
 A 11 (.ext (.t 8) 0),
 A 12 (.ext (.t 8) 1),
 A 3 (.mv (.t 11)),
 A 4 (.mv (.t 12))] [])
 (.seq (.region [A 13 (.mv (.t 3)),
 A 14 (.bin .gtr (.t 13) (.c (.int .i64 40))),
 A 15 (.mv (.t 14)),
 ⟨some 16, (.mv (.t 4)), (some (15, false)), 0⟩,
 ⟨some 17, (.bin .gtr (.t 16) (.c (.int .i64 12))), (some (15, false)), 0⟩,
 A 18 (.pick (.t 15) (.c (.bool true)) (.t 17))] [])
 (.cond (.t 18) (.seq (.region [A 2 (.mv (.c (.int .i64 6)))] [])
 .ret) .skip)))
 (.seq (.region [A 2 (.mv (.c (.int .i64 0)))] [])
 .ret)))) }
def a183 : AFunc :=
 { np := 2, nt := 152, mv := false, res := [(.cell 4 3 true)], code :=
 (.seq (.region [A 3 (.box 63 (.t 1)),
 A 4 (.alloc 259 [(.v .nil), (.v .nil), (.v (.bool false))])] [])
 (.seq (.seq (.region [A 15 (.fld 0 (.t 3)),
 A 16 (.load 1 false (.t 15))] [])
 (.block 0 (.seq (.region [A 18 (.bin .eql (.t 16) (.c (.int .i64 1))),
 A 17 (.mv (.t 18))] [])
 (.cond (.t 17) (.seq (.region [A 19 (.mv (.t 0)),
 A 20 (.chk (.t 19)),
 A 21 (.fld 0 (.t 20)),
 A 22 (.load 1 false (.t 21)),
 A 23 (.len (.t 22)),
 A 5 (.mv (.t 23))] [])
 (.seq (.region [A 24 (.mv (.t 0)),
 A 25 (.mv (.t 0)),
 A 26 (.mv (.t 0)),
 ⟨some 27, (.chk (.t 26)), none, 4⟩,
 ⟨some 28, (.fld 0 (.t 27)), none, 12⟩,
 ⟨some 29, (.load 1 false (.t 28)), none, 28⟩,
 A 30 (.fld 1 (.t 3)),
 ⟨some 31, (.load 4 true (.t 30)), none, 64⟩,
 ⟨some 32, (.litF 60 4 1 [(.int .u64 0), (.int .u64 0), (.int .u64 0), (.int .u64 0)] [(0, (.t 31))]), none, 192⟩,
 ⟨some 33, (.app 60 4 32 (.t 29) (.t 32)), none, 508⟩,
 A 34 (.mv (.t 0)),
 ⟨some 35, (.chk (.t 34)), none, 1024⟩,
 ⟨some 36, (.fld 3 (.t 35)), none, 3072⟩,
 ⟨some 37, (.load 1 false (.t 36)), none, 7168⟩,
 A 38 (.litF 53 1 1 [.nil] [(0, (.c .nil))]),
 ⟨some 39, (.app 53 1 24 (.t 37) (.t 38)), none, 32764⟩,
 ⟨some 40, (.chk (.t 24)), none, 65533⟩,
 ⟨some 41, (.fld 0 (.t 40)), none, 131069⟩,
 ⟨none, (.store 1 (.t 41) (.t 33)), none, 262141⟩,
 ⟨some 42, (.chk (.t 25)), none, 524287⟩,
 ⟨some 43, (.fld 3 (.t 42)), none, 1048575⟩,
 ⟨none, (.store 1 (.t 43) (.t 39)), none, 2097151⟩] [(0, 9), (0, 15), (1, 9), (1, 15), (1, 18), (10, 9), (11, 9), (12, 9), (13, 9), (14, 9)])
 (.seq (.region [A 44 (.mv (.t 5)),
 A 45 (.lit 3 1 1 [(.int .i64 0)] [(0, (.t 44))]),
 A 46 (.mv (.t 5)),
 A 47 (.lit 3 1 1 [(.int .i64 0)] [(0, (.t 46))]),
 A 48 (.build [.nil, .nil, (.bool false)] [(0, 1, (.t 45)), (1, 1, (.t 47)), (2, 1, (.c (.bool false)))]),
 ⟨none, (.store 3 (.t 4) (.t 48)), none, 0⟩] [])
 .ret))) (.seq (.region [A 50 (.bin .eql (.t 16) (.c (.int .i64 2))),
 A 49 (.mv (.t 50))] [])
 (.cond (.t 49) (.seq (.region [A 51 (.build [.nil, .nil, (.bool false)] [(2, 1, (.c (.bool true)))]),
 A 6 (.alloc 259 [(.v .nil), (.v .nil), (.v (.bool false))]),
 ⟨none, (.store 3 (.t 6) (.t 51)), none, 0⟩] [])
 (.seq (.seq (.region [A 52 (.fld 5 (.t 3)),
 A 53 (.load 1 false (.t 52)),
 A 54 (.len (.t 53)),
 A 55 (.mv (.c (.int .i64 0)))] [])
 (.block 1 (.loop [0, 4, 6, 53, 54, 55, 91, 92] (.seq (.region [A 56 (.bin .lss (.t 55) (.t 54))] [])
 (.seq (.cond (.t 56) .skip (.exit 1))
 (.seq (.block 2 (.seq (.region [A 57 (.ixa 6 (.t 53) (.t 55)),
 A 58 (.load 6 true (.t 57)),
 A 8 (.alloc 63 [(.v (.int .i64 0)), (.v (.int .u64 0)), (.v (.int .u64 0)), (.v (.int .u64 0)), (.v (.int .u64 0)), (.v .nil)]),
 ⟨none, (.store 6 (.t 8) (.t 58)), none, 0⟩] [])
 (.seq (.region [A 59 (.mv (.t 0)),
 A 60 (.load 6 true (.t 8)),
 A 61 (.call 183 [(.t 59), (.t 60)]),
 A 9 (.alloc 259 [(.v .nil), (.v .nil), (.v (.bool false))]),
 ⟨none, (.store 3 (.t 9) (.t 61)), none, 0⟩] [])
 (.seq (.region [A 62 (.mv (.t 0)),
 A 63 (.fld 1 (.t 6)),
 A 64 (.load 1 false (.t 63)),
 A 65 (.fld 0 (.t 9)),
 A 66 (.load 1 false (.t 65)),
 A 67 (.call 207 [(.t 62), (.t 64), (.t 66)])] [])
 (.seq (.seq (.region [A 68 (.fld 2 (.t 6)),
 A 69 (.load 1 false (.t 68))] [])
 (.cond (.t 69) (.region [A 70 (.fld 0 (.t 6)),
 A 71 (.load 1 false (.t 70)),
 A 72 (.fld 0 (.t 9)),
 A 73 (.load 1 false (.t 72)),
 A 74 (.call 208 [(.t 71), (.t 73)]),
 A 75 (.fld 0 (.t 6)),
 ⟨none, (.store 1 (.t 75) (.t 74)), none, 0⟩] []) .skip))
 (.seq (.seq (.region [A 76 (.fld 2 (.t 9)),
 A 77 (.load 1 false (.t 76))] [])
 (.cond (.t 77) (.region [A 78 (.fld 1 (.t 6)),
 A 79 (.load 1 false (.t 78)),
 A 80 (.fld 1 (.t 9)),
 A 81 (.load 1 false (.t 80)),
 A 82 (.call 208 [(.t 79), (.t 81)]),
 A 83 (.fld 1 (.t 9)),
 ⟨none, (.store 1 (.t 83) (.t 82)), none, 0⟩] []) .skip))
 (.region [A 84 (.fld 0 (.t 6)),
 A 85 (.load 1 false (.t 84)),
 A 86 (.fld 1 (.t 9)),
 A 87 (.load 1 false (.t 86)),
 A 88 (.fld 2 (.t 6)),
 A 89 (.load 1 false (.t 88)),
 A 90 (.mv (.t 89)),
 ⟨some 91, (.fld 2 (.t 9)), (some (90, true)), 0⟩,
 ⟨some 92, (.load 1 false (.t 91)), (some (90, true)), 0⟩,
 A 93 (.pick (.t 90) (.t 92) (.c (.bool false))),
 A 94 (.build [.nil, .nil, (.bool false)] [(0, 1, (.t 85)), (1, 1, (.t 87)), (2, 1, (.t 93))]),
 ⟨none, (.store 3 (.t 6) (.t 94)), none, 0⟩] [])))))))
 (.region [A 95 (.bin .add (.t 55) (.c (.int .i64 1))),
 A 55 (.mv (.t 95))] [])))))))
 (.seq (.region [A 96 (.load 3 true (.t 6)),
 ⟨none, (.store 3 (.t 4) (.t 96)), none, 0⟩] [])
 .ret))) (.seq (.region [A 98 (.bin .eql (.t 16) (.c (.int .i64 3))),
 A 97 (.mv (.t 98))] [])
 (.cond (.t 97) (.seq (.region [A 10 (.alloc 259 [(.v .nil), (.v .nil), (.v (.bool false))])] [])
 (.seq (.seq (.region [A 99 (.fld 5 (.t 3)),
 A 100 (.load 1 false (.t 99)),
 A 101 (.len (.t 100)),
 A 102 (.mv (.c (.int .i64 0)))] [])
 (.block 3 (.loop [0, 4, 10, 100, 101, 102, 122, 123] (.seq (.region [A 103 (.bin .lss (.t 102) (.t 101))] [])
 (.seq (.cond (.t 103) .skip (.exit 3))
 (.seq (.block 4 (.seq (.region [A 104 (.ixa 6 (.t 100) (.t 102)),
 A 105 (.load 6 true (.t 104)),
 A 12 (.alloc 63 [(.v (.int .i64 0)), (.v (.int .u64 0)), (.v (.int .u64 0)), (.v (.int .u64 0)), (.v (.int .u64 0)), (.v .nil)]),
 ⟨none, (.store 6 (.t 12) (.t 105)), none, 0⟩] [])
 (.seq (.region [A 106 (.mv (.t 0)),
 A 107 (.load 6 true (.t 12)),
 A 108 (.call 183 [(.t 106), (.t 107)]),
 A 13 (.alloc 259 [(.v .nil), (.v .nil), (.v (.bool false))]),
 ⟨none, (.store 3 (.t 13) (.t 108)), none, 0⟩] [])
 (.region [A 109 (.fld 0 (.t 10)),
 ⟨some 110, (.load 1 false (.t 109)), none, 1⟩,
 A 111 (.fld 0 (.t 13)),
 ⟨some 112, (.load 1 false (.t 111)), none, 4⟩,
 ⟨some 113, (.call 208 [(.t 110), (.t 112)]), none, 15⟩,
 A 114 (.fld 1 (.t 10)),
 ⟨some 115, (.load 1 false (.t 114)), none, 32⟩,
 A 116 (.fld 1 (.t 13)),
 ⟨some 117, (.load 1 false (.t 116)), none, 128⟩,
 ⟨some 118, (.call 208 [(.t 115), (.t 117)]), none, 511⟩,
 A 119 (.fld 2 (.t 10)),
 ⟨some 120, (.load 1 false (.t 119)), none, 1024⟩,
 ⟨some 121, (.mv (.t 120)), none, 4095⟩,
 ⟨some 122, (.fld 2 (.t 13)), (some (121, false)), 8191⟩,
 ⟨some 123, (.load 1 false (.t 122)), (some (121, false)), 16383⟩,
 ⟨some 124, (.pick (.t 121) (.c (.bool true)) (.t 123)), none, 32767⟩,
 ⟨some 125, (.build [.nil, .nil, (.bool false)] [(0, 1, (.t 113)), (1, 1, (.t 118)), (2, 1, (.t 124))]), none, 65535⟩,
 ⟨none, (.store 3 (.t 10) (.t 125)), none, 131071⟩] [(5, 4), (6, 4), (7, 4), (8, 4), (10, 4), (10, 9), (11, 4), (11, 9)]))))
 (.region [A 126 (.bin .add (.t 102) (.c (.int .i64 1))),
 A 102 (.mv (.t 126))] [])))))))
 (.seq (.region [A 127 (.load 3 true (.t 10)),
 ⟨none, (.store 3 (.t 4) (.t 127)), none, 0⟩] [])
 .ret))) .skip))))))))
 (.seq (.region [A 128 (.mv (.t 0)),
 A 129 (.fld 5 (.t 3)),
 A 130 (.load 1 false (.t 129)),
 A 131 (.ixa 6 (.t 130) (.c (.int .i64 0))),
 A 132 (.load 6 true (.t 131)),
 A 133 (.call 183 [(.t 128), (.t 132)]),
 A 14 (.alloc 259 [(.v .nil), (.v .nil), (.v (.bool false))]),
 ⟨none, (.store 3 (.t 14) (.t 133)), none, 0⟩] [])
 (.seq (.seq (.region [A 134 (.fld 0 (.t 3)),
 A 135 (.load 1 false (.t 134)),
 A 136 (.bin .neq (.t 135) (.c (.int .i64 6)))] [])
 (.cond (.t 136) (.region [A 137 (.mv (.t 0)),
 A 138 (.fld 1 (.t 14)),
 A 139 (.load 1 false (.t 138)),
 A 140 (.fld 0 (.t 14)),
 A 141 (.load 1 false (.t 140)),
 A 142 (.call 207 [(.t 137), (.t 139), (.t 141)])] []) .skip))
 (.seq (.region [A 143 (.fld 2 (.t 14)),
 A 144 (.load 1 false (.t 143)),
 A 145 (.mv (.t 144)),
 ⟨some 146, (.fld 0 (.t 3)), (some (145, false)), 0⟩,
 ⟨some 147, (.load 1 false (.t 146)), (some (145, false)), 0⟩,
 ⟨some 148, (.bin .neq (.t 147) (.c (.int .i64 5))), (some (145, false)), 0⟩,
 A 149 (.pick (.t 145) (.c (.bool true)) (.t 148)),
 A 150 (.fld 2 (.t 14)),
 ⟨none, (.store 1 (.t 150) (.t 149)), none, 0⟩] [])
 (.seq (.region [A 151 (.load 3 true (.t 14)),
 ⟨none, (.store 3 (.t 4) (.t 151)), none, 0⟩] [])
 .ret)))))) }
def a184 : AFunc :=
 { np := 2, nt := 8, mv := false, res := [(.tmp 3)], code :=
 (.seq (.region [A 2 (.box 65 (.t 0)),
 A 3 (.mv (.c (.bool false)))] [])
 (.seq (.region [A 4 (.fld 0 (.t 2)),
 A 5 (.load 1 false (.t 4)),
 A 6 (.load 1 false (.t 1)),
 A 7 (.bin .eql (.t 5) (.t 6)),
 A 3 (.mv (.t 7))] [])
 .ret)) }
def a185 : AFunc :=
 { np := 2, nt := 19, mv := false, res := [(.tmp 4)], code :=
 (.seq (.region [A 4 (.mv (.c (.int .i64 0)))] [])
 (.seq (.seq (.region [A 6 (.mv (.t 0)),
 A 7 (.len (.t 6)),
 A 8 (.mv (.c (.int .i64 0)))] [])
 (.block 0 (.loop [0, 1, 7, 8] (.seq (.region [A 9 (.bin .lss (.t 8) (.t 7))] [])
 (.seq (.cond (.t 9) .skip (.exit 0))
 (.seq (.block 1 (.seq (.region [A 10 (.mv (.t 8)),
 A 5 (.mv (.t 10))] [])
 (.seq (.region [A 11 (.mv (.t 1)),
 A 12 (.mv (.t 0)),
 A 13 (.mv (.t 5)),
 A 14 (.ixa 1 (.t 12) (.t 13)),
 A 15 (.load 1 false (.t 14)),
 A 16 (.bin .eql (.t 11) (.t 15))] [])
 (.cond (.t 16) (.seq (.region [A 17 (.mv (.t 5)),
 A 4 (.mv (.t 17))] [])
 .ret) .skip))))
 (.region [A 18 (.bin .add (.t 8) (.c (.int .i64 1))),
 A 8 (.mv (.t 18))] [])))))))
 (.seq (.region [A 4 (.mv (.c (.int .i64 (-1))))] [])
 .ret))) }
def a187 : AFunc :=
 { np := 1, nt := 30, mv := false, res := [(.tmp 2)], code :=
 (.seq (.region [A 2 (.mv (.c (.float .f64 0)))] [])
 (.seq (.block 0 (.seq (.region [A 4 (.mv (.t 0)),
 A 5 (.bin .eql (.t 4) (.c (.str ⟨#[110, 97, 110]⟩))),
 A 3 (.mv (.t 5))] [])
 (.cond (.t 3) (.seq (.region [A 6 (.call 89 []),
 A 2 (.mv (.t 6))] [])
 .ret) (.seq (.region [A 8 (.mv (.t 0)),
 A 9 (.bin .eql (.t 8) (.c (.str ⟨#[105, 110, 102]⟩))),
 A 7 (.mv (.t 9))] [])
 (.cond (.t 7) (.seq (.region [A 10 (.call 90 [(.c (.int .i64 1))]),
 A 2 (.mv (.t 10))] [])
 .ret) (.seq (.region [A 12 (.mv (.t 0)),
 A 13 (.bin .eql (.t 12) (.c (.str ⟨#[45, 105, 110, 102]⟩))),
 A 11 (.mv (.t 13))] [])
 (.cond (.t 11) (.seq (.region [A 14 (.call 90 [(.c (.int .i64 (-1)))]),
 A 2 (.mv (.t 14))] [])
 .ret) (.seq (.region [A 16 (.mv (.t 0)),
 A 17 (.lenS (.t 16)),
 A 18 (.bin .gtr (.t 17) (.c (.int .i64 0))),
 A 19 (.mv (.t 18)),
 ⟨some 20, (.mv (.t 0)), (some (19, true)), 0⟩,
 ⟨some 21, (.ixs (.t 20) (.c (.int .i64 0))), (some (19, true)), 0⟩,
 ⟨some 22, (.bin .eql (.t 21) (.c (.int .u8 45))), (some (19, true)), 0⟩,
 A 23 (.pick (.t 19) (.t 22) (.c (.bool false))),
 A 15 (.mv (.t 23))] [])
 (.cond (.t 15) (.seq (.region [A 24 (.mv (.t 0)),
 A 25 (.cutS (.t 24) (some (.c (.int .i64 1))) none),
 A 26 (.call 209 [(.t 25)]),
 A 27 (.call 91 [(.t 26), (.c (.float .f64 13830554455654793216))]),
 A 2 (.mv (.t 27))] [])
 .ret) .skip)))))))))
 (.seq (.region [A 28 (.mv (.t 0)),
 A 29 (.call 209 [(.t 28)]),
 A 2 (.mv (.t 29))] [])
 .ret))) }
def a188 : AFunc :=
 { np := 2, nt := 19, mv := false, res := [(.tmp 4)], code :=
 (.seq (.region [A 4 (.mv (.c (.int .i64 0)))] [])
 (.seq (.seq (.region [A 6 (.mv (.t 0)),
 A 7 (.len (.t 6)),
 A 8 (.mv (.c (.int .i64 0)))] [])
 (.block 0 (.loop [0, 1, 7, 8] (.seq (.region [A 9 (.bin .lss (.t 8) (.t 7))] [])
 (.seq (.cond (.t 9) .skip (.exit 0))
 (.seq (.block 1 (.seq (.region [A 10 (.mv (.t 8)),
 A 5 (.mv (.t 10))] [])
 (.seq (.region [A 11 (.mv (.t 1)),
 A 12 (.mv (.t 0)),
 A 13 (.mv (.t 5)),
 A 14 (.ixa 2 (.t 12) (.t 13)),
 A 15 (.load 2 true (.t 14)),
 A 16 (.callv (.t 11) [(.t 15)])] [])
 (.cond (.t 16) (.seq (.region [A 17 (.mv (.t 5)),
 A 4 (.mv (.t 17))] [])
 .ret) .skip))))
 (.region [A 18 (.bin .add (.t 8) (.c (.int .i64 1))),
 A 8 (.mv (.t 18))] [])))))))
 (.seq (.region [A 4 (.mv (.c (.int .i64 (-1))))] [])
 .ret))) }
def a189 : AFunc :=
 { np := 2, nt := 8, mv := false, res := [(.tmp 3)], code :=
 (.seq (.region [A 2 (.box 114 (.t 0)),
 A 3 (.mv (.c (.bool false)))] [])
 (.seq (.region [A 4 (.fld 0 (.t 2)),
 A 5 (.load 1 false (.t 4)),
 A 6 (.load 1 false (.t 1)),
 A 7 (.bin .eql (.t 5) (.t 6)),
 A 3 (.mv (.t 7))] [])
 .ret)) }
def a190 : AFunc :=
 { np := 2, nt := 19, mv := false, res := [(.tmp 4)], code :=
 (.seq (.region [A 4 (.mv (.c (.int .i64 0)))] [])
 (.seq (.seq (.region [A 6 (.mv (.t 0)),
 A 7 (.len (.t 6)),
 A 8 (.mv (.c (.int .i64 0)))] [])
 (.block 0 (.loop [0, 1, 7, 8] (.seq (.region [A 9 (.bin .lss (.t 8) (.t 7))] [])
 (.seq (.cond (.t 9) .skip (.exit 0))
 (.seq (.block 1 (.seq (.region [A 10 (.mv (.t 8)),
 A 5 (.mv (.t 10))] [])
 (.seq (.region [A 11 (.mv (.t 1)),
 A 12 (.mv (.t 0)),
 A 13 (.mv (.t 5)),
 A 14 (.ixa 3 (.t 12) (.t 13)),
 A 15 (.load 3 true (.t 14)),
 A 16 (.callv (.t 11) [(.t 15)])] [])
 (.cond (.t 16) (.seq (.region [A 17 (.mv (.t 5)),
 A 4 (.mv (.t 17))] [])
 .ret) .skip))))
 (.region [A 18 (.bin .add (.t 8) (.c (.int .i64 1))),
 A 8 (.mv (.t 18))] [])))))))
 (.seq (.region [A 4 (.mv (.c (.int .i64 (-1))))] [])
 .ret))) }
def a191 : AFunc :=
 { np := 2, nt := 27, mv := true, res := [(.tmp 4)], code :=
 (.seq (.region [A 4 (.mv (.c .nil))] [])
 (.seq (.seq (.region [A 5 (.mv (.t 1)),
 A 6 (.bin .lss (.t 5) (.c (.int .i64 0)))] [])
 (.cond (.t 6) (.region [A 7 (.iface 9 (.c (.str ⟨#[99, 97, 110, 110, 111, 116, 32, 98, 101, 32, 110, 101, 103, 97, 116, 105, 118, 101]⟩))),
 ⟨none, (.panic (.t 7)), none, 0⟩] []) .skip))
 (.seq (.seq (.region [A 8 (.mv (.t 1)),
 A 9 (.mv (.t 0)),
 A 10 (.cap0 (.t 9)),
 A 11 (.mv (.t 0)),
 A 12 (.len (.t 11)),
 A 13 (.bin .sub (.t 10) (.t 12)),
 A 14 (.bin .sub (.t 8) (.t 13)),
 A 1 (.mv (.t 14))] [])
 (.seq (.region [A 15 (.mv (.t 1)),
 A 16 (.bin .gtr (.t 15) (.c (.int .i64 0)))] [])
 (.cond (.t 16) (.region [A 17 (.mv (.t 0)),
 A 18 (.mv (.t 0)),
 A 19 (.cap0 (.t 18)),
 A 20 (.pop (.t 17) (.t 19)),
 A 21 (.mv (.t 1)),
 A 22 (.app0 60 4 32 [(.int .u64 0), (.int .u64 0), (.int .u64 0), (.int .u64 0)] (.t 20) (.t 21)),
 A 23 (.mv (.t 0)),
 A 24 (.len (.t 23)),
 A 25 (.pop (.t 22) (.t 24)),
 A 0 (.mv (.t 25))] []) .skip)))
 (.seq (.region [A 26 (.mv (.t 0)),
 A 4 (.mv (.t 26))] [])
 .ret)))) }
def a192 : AFunc :=
 { np := 2, nt := 19, mv := false, res := [(.tmp 4)], code :=
 (.seq (.region [A 4 (.mv (.c (.int .i64 0)))] [])
 (.seq (.seq (.region [A 6 (.mv (.t 0)),
 A 7 (.len (.t 6)),
 A 8 (.mv (.c (.int .i64 0)))] [])
 (.block 0 (.loop [0, 1, 7, 8] (.seq (.region [A 9 (.bin .lss (.t 8) (.t 7))] [])
 (.seq (.cond (.t 9) .skip (.exit 0))
 (.seq (.block 1 (.seq (.region [A 10 (.mv (.t 8)),
 A 5 (.mv (.t 10))] [])
 (.seq (.region [A 11 (.mv (.t 1)),
 A 12 (.mv (.t 0)),
 A 13 (.mv (.t 5)),
 A 14 (.ixa 1 (.t 12) (.t 13)),
 A 15 (.load 1 false (.t 14)),
 A 16 (.callv (.t 11) [(.t 15)])] [])
 (.cond (.t 16) (.seq (.region [A 17 (.mv (.t 5)),
 A 4 (.mv (.t 17))] [])
 .ret) .skip))))
 (.region [A 18 (.bin .add (.t 8) (.c (.int .i64 1))),
 A 8 (.mv (.t 18))] [])))))))
 (.seq (.region [A 4 (.mv (.c (.int .i64 (-1))))] [])
 .ret))) }
def a193 : AFunc :=
 { np := 2, nt := 14, mv := false, res := [(.tmp 4)], code :=
 (.seq (.region [A 4 (.mv (.c .nil))] [])
 (.seq (.seq (.region [A 5 (.mv (.t 1)),
 A 6 (.bin .lss (.t 5) (.c (.int .i64 0)))] [])
 (.cond (.t 6) (.seq (.region [A 7 (.mv (.t 1)),
 A 8 (.bin .sub (.c (.int .i64 (-1))) (.t 7)),
 A 9 (.lit 3 1 1 [(.int .i64 0)] [(0, (.t 8))]),
 A 4 (.mv (.t 9))] [])
 .ret) .skip))
 (.seq (.region [A 10 (.mv (.t 0)),
 A 11 (.mv (.t 1)),
 A 12 (.ixa 1 (.t 10) (.t 11)),
 A 13 (.load 1 false (.t 12)),
 A 4 (.mv (.t 13))] [])
 .ret))) }
def a194 : AFunc :=
 { np := 1, nt := 36, mv := true, res := [(.tmp 2)], code :=
 (.seq (.region [A 2 (.mv (.c .nil))] [])
 (.seq (.region [A 3 (.mv (.c (.int .i64 0)))] [])
 (.seq (.seq (.region [A 9 (.mv (.t 0)),
 A 10 (.len (.t 9)),
 A 11 (.mv (.c (.int .i64 0)))] [])
 (.block 0 (.loop [0, 3, 9, 10, 11] (.seq (.region [A 12 (.bin .lss (.t 11) (.t 10))] [])
 (.seq (.cond (.t 12) .skip (.exit 0))
 (.seq (.block 1 (.seq (.region [A 13 (.ixa 1 (.t 9) (.t 11)),
 A 14 (.load 1 false (.t 13)),
 A 5 (.mv (.t 14))] [])
 (.seq (.region [A 15 (.mv (.t 3)),
 A 16 (.mv (.t 5)),
 A 17 (.len (.t 16)),
 A 18 (.bin .add (.t 15) (.t 17)),
 A 3 (.mv (.t 18))] [])
 (.seq (.region [A 19 (.mv (.t 3)),
 A 20 (.bin .lss (.t 19) (.c (.int .i64 0)))] [])
 (.cond (.t 20) (.region [A 21 (.iface 9 (.c (.str ⟨#[108, 101, 110, 32, 111, 117, 116, 32, 111, 102, 32, 114, 97, 110, 103, 101]⟩))),
 ⟨none, (.panic (.t 21)), none, 0⟩] []) .skip)))))
 (.region [A 22 (.bin .add (.t 11) (.c (.int .i64 1))),
 A 11 (.mv (.t 22))] [])))))))
 (.seq (.region [A 23 (.mv (.t 3)),
 A 24 (.call 210 [(.c .nil), (.t 23)]),
 A 6 (.mv (.t 24))] [])
 (.seq (.seq (.region [A 25 (.mv (.t 0)),
 A 26 (.len (.t 25)),
 A 27 (.mv (.c (.int .i64 0)))] [])
 (.block 2 (.loop [6, 25, 26, 27] (.seq (.region [A 28 (.bin .lss (.t 27) (.t 26))] [])
 (.seq (.cond (.t 28) .skip (.exit 2))
 (.seq (.block 3 (.seq (.region [A 29 (.ixa 1 (.t 25) (.t 27)),
 A 30 (.load 1 false (.t 29)),
 A 8 (.mv (.t 30))] [])
 (.region [A 31 (.mv (.t 6)),
 A 32 (.mv (.t 8)),
 A 33 (.app 3 1 8 (.t 31) (.t 32)),
 A 6 (.mv (.t 33))] [])))
 (.region [A 34 (.bin .add (.t 27) (.c (.int .i64 1))),
 A 27 (.mv (.t 34))] [])))))))
 (.seq (.region [A 35 (.mv (.t 6)),
 A 2 (.mv (.t 35))] [])
 .ret)))))) }
def a195 : AFunc :=
 { np := 1, nt := 11, mv := false, res := [], code :=
 (.seq (.region [A 3 (.mv (.t 0)),
 A 4 (.len (.t 3)),
 A 2 (.mv (.t 4))] [])
 (.region [A 5 (.mv (.t 0)),
 A 6 (.mv (.t 2)),
 A 7 (.mv (.t 2)),
 A 8 (.conv .u64 (.t 7)),
 A 9 (.call 107 [(.t 8)]),
 A 10 (.call 211 [(.t 5), (.c (.int .i64 0)), (.t 6), (.t 9)])] [])) }
def a196 : AFunc :=
 { np := 1, nt := 61, mv := true, res := [(.tmp 2)], code :=
 (.seq (.region [A 2 (.mv (.c .nil))] [])
 (.seq (.seq (.region [A 6 (.mv (.t 0)),
 A 7 (.len (.t 6)),
 A 8 (.bin .lss (.t 7) (.c (.int .i64 2)))] [])
 (.cond (.t 8) (.seq (.region [A 9 (.mv (.t 0)),
 A 2 (.mv (.t 9))] [])
 .ret) .skip))
 (.seq (.seq (.region [A 3 (.mv (.c (.int .i64 1)))] [])
 (.block 0 (.loop [0, 3] (.seq (.seq (.region [A 10 (.mv (.t 3)),
 A 11 (.mv (.t 0)),
 A 12 (.len (.t 11)),
 A 13 (.bin .lss (.t 10) (.t 12))] [])
 (.cond (.t 13) .skip (.exit 0)))
 (.seq (.block 1 (.seq (.region [A 16 (.mv (.t 0)),
 A 17 (.mv (.t 3)),
 ⟨some 18, (.ixa 1 (.t 16) (.t 17)), none, 3⟩,
 ⟨some 19, (.load 1 false (.t 18)), none, 7⟩,
 A 20 (.mv (.t 0)),
 A 21 (.mv (.t 3)),
 ⟨some 22, (.bin .sub (.t 21) (.c (.int .i64 1))), none, 32⟩,
 ⟨some 23, (.ixa 1 (.t 20) (.t 22)), none, 112⟩,
 ⟨some 24, (.load 1 false (.t 23)), none, 240⟩,
 ⟨some 25, (.bin .eql (.t 19) (.t 24)), none, 511⟩] [])
 (.cond (.t 25) (.seq (.region [A 26 (.mv (.t 0)),
 A 27 (.mv (.t 3)),
 A 28 (.winS 1 (.t 26) (some (.t 27)) none),
 A 4 (.mv (.t 28))] [])
 (.seq (.seq (.region [A 5 (.mv (.c (.int .i64 1)))] [])
 (.block 2 (.loop [0, 3, 4, 5] (.seq (.seq (.region [A 29 (.mv (.t 5)),
 A 30 (.mv (.t 4)),
 A 31 (.len (.t 30)),
 A 32 (.bin .lss (.t 29) (.t 31))] [])
 (.cond (.t 32) .skip (.exit 2)))
 (.seq (.block 3 (.seq (.region [A 35 (.mv (.t 4)),
 A 36 (.mv (.t 5)),
 ⟨some 37, (.ixa 1 (.t 35) (.t 36)), none, 3⟩,
 ⟨some 38, (.load 1 false (.t 37)), none, 7⟩,
 A 39 (.mv (.t 4)),
 A 40 (.mv (.t 5)),
 ⟨some 41, (.bin .sub (.t 40) (.c (.int .i64 1))), none, 32⟩,
 ⟨some 42, (.ixa 1 (.t 39) (.t 41)), none, 112⟩,
 ⟨some 43, (.load 1 false (.t 42)), none, 240⟩,
 ⟨some 44, (.bin .neq (.t 38) (.t 43)), none, 511⟩] [])
 (.cond (.t 44) (.seq (.region [A 45 (.mv (.t 0)),
 A 46 (.mv (.t 3)),
 A 47 (.mv (.t 4)),
 A 48 (.mv (.t 5)),
 A 49 (.ixa 1 (.t 47) (.t 48)),
 A 50 (.load 1 false (.t 49)),
 A 51 (.ixa 1 (.t 45) (.t 46)),
 ⟨none, (.store 1 (.t 51) (.t 50)), none, 0⟩] [])
 (.region [A 52 (.mv (.t 3)),
 A 53 (.bin .add (.t 52) (.c (.int .i64 1))),
 A 3 (.mv (.t 53))] [])) .skip)))
 (.region [A 33 (.mv (.t 5)),
 A 34 (.bin .add (.t 33) (.c (.int .i64 1))),
 A 5 (.mv (.t 34))] []))))))
 (.seq (.region [A 54 (.mv (.t 0)),
 A 55 (.mv (.t 3)),
 A 56 (.winS 1 (.t 54) (some (.t 55)) none),
 ⟨none, (.clr 3 1 [(.int .i64 0)] (.t 56)), none, 0⟩] [])
 (.seq (.region [A 57 (.mv (.t 0)),
 A 58 (.mv (.t 3)),
 A 59 (.pop (.t 57) (.t 58)),
 A 2 (.mv (.t 59))] [])
 .ret)))) .skip)))
 (.region [A 14 (.mv (.t 3)),
 A 15 (.bin .add (.t 14) (.c (.int .i64 1))),
 A 3 (.mv (.t 15))] []))))))
 (.seq (.region [A 60 (.mv (.t 0)),
 A 2 (.mv (.t 60))] [])
 .ret)))) }
def a202 : AFunc :=
 { np := 1, nt := 47, mv := false, res := [(.cell 2 6 true), (.tmp 3)], code :=
 (.seq (.region [A 2 (.alloc 63 [(.v (.int .i64 0)), (.v (.int .u64 0)), (.v (.int .u64 0)), (.v (.int .u64 0)), (.v (.int .u64 0)), (.v .nil)]),
 A 3 (.mv (.c (.int .i64 0)))] [])
 (.seq (.region [A 6 (.mv (.t 0)),
 A 7 (.build [(.str ⟨#[]⟩), (.int .i64 0), (.int .i64 0), (.int .i64 0)] [(0, 1, (.t 6))]),
 A 8 (.box 291 (.t 7)),
 A 4 (.mv (.t 8))] [])
 (.seq (.region [A 9 (.mv (.t 4)),
 A 10 (.call 213 [(.t 9)]),
 A 5 (.alloc 63 [(.v (.int .i64 0)), (.v (.int .u64 0)), (.v (.int .u64 0)), (.v (.int .u64 0)), (.v (.int .u64 0)), (.v .nil)]),
 ⟨none, (.store 6 (.t 5) (.t 10)), none, 0⟩] [])
 (.seq (.seq (.region [A 11 (.mv (.t 4)),
 A 12 (.chk (.t 11)),
 A 13 (.fld 3 (.t 12)),
 A 14 (.load 1 false (.t 13)),
 A 15 (.bin .eql (.t 14) (.c (.int .i64 0))),
 A 16 (.mv (.t 15)),
 ⟨some 17, (.mv (.t 4)), (some (16, true)), 0⟩,
 ⟨some 18, (.chk (.t 17)), (some (16, true)), 0⟩,
 ⟨some 19, (.fld 1 (.t 18)), (some (16, true)), 0⟩,
 ⟨some 20, (.load 1 false (.t 19)), (some (16, true)), 0⟩,
 ⟨some 21, (.mv (.t 0)), (some (16, true)), 0⟩,
 ⟨some 22, (.lenS (.t 21)), (some (16, true)), 0⟩,
 ⟨some 23, (.bin .lss (.t 20) (.t 22)), (some (16, true)), 0⟩,
 A 24 (.pick (.t 16) (.t 23) (.c (.bool false)))] [])
 (.cond (.t 24) (.region [A 25 (.mv (.t 4)),
 A 26 (.call 214 [(.t 25), (.c (.int .i64 2))])] []) .skip))
 (.seq (.seq (.region [A 27 (.mv (.t 4)),
 A 28 (.chk (.t 27)),
 A 29 (.fld 3 (.t 28)),
 A 30 (.load 1 false (.t 29)),
 A 31 (.bin .eql (.t 30) (.c (.int .i64 0)))] [])
 (.cond (.t 31) (.region [A 32 (.mv (.t 4)),
 A 33 (.load 6 true (.t 5)),
 A 34 (.call 129 [(.t 33)]),
 A 35 (.call 214 [(.t 32), (.t 34)])] []) .skip))
 (.seq (.seq (.region [A 36 (.mv (.t 4)),
 A 37 (.chk (.t 36)),
 A 38 (.fld 3 (.t 37)),
 A 39 (.load 1 false (.t 38)),
 A 40 (.bin .neq (.t 39) (.c (.int .i64 0)))] [])
 (.cond (.t 40) (.seq (.region [A 41 (.build [(.int .i64 0), (.int .u64 0), (.int .u64 0), (.int .u64 0), (.int .u64 0), .nil] []),
 A 42 (.mv (.t 4)),
 ⟨some 43, (.chk (.t 42)), none, 2⟩,
 ⟨some 44, (.fld 3 (.t 43)), none, 6⟩,
 ⟨some 45, (.load 1 false (.t 44)), none, 14⟩,
 ⟨none, (.store 6 (.t 2) (.t 41)), none, 1⟩,
 ⟨some 3, (.mv (.t 45)), none, 63⟩] [(1, 5), (2, 5), (3, 5), (4, 5)])
 .ret) .skip))
 (.seq (.region [A 46 (.load 6 true (.t 5)),
 ⟨none, (.store 6 (.t 2) (.t 46)), none, 0⟩,
 A 3 (.mv (.c (.int .i64 0)))] [])
 .ret))))))) }
def a203 : AFunc :=
 { np := 1, nt := 22, mv := false, res := [(.cell 2 4 true), (.tmp 3)], code :=
 (.seq (.region [A 2 (.alloc 60 [(.v (.int .u64 0)), (.v (.int .u64 0)), (.v (.int .u64 0)), (.v (.int .u64 0))]),
 A 3 (.mv (.c (.bool false)))] [])
 (.seq (.region [A 8 (.mv (.t 0)),
 A 9 (.call 215 [(.t 8)]),
 A 7 (.mv (.t 9)),
 A 10 (.ext (.t 7) 0),
 A 11 (.ext (.t 7) 1),
 A 12 (.ext (.t 7) 2),
 A 4 (.alloc 60 [(.v (.int .u64 0)), (.v (.int .u64 0)), (.v (.int .u64 0)), (.v (.int .u64 0))]),
 ⟨none, (.store 4 (.t 4) (.t 10)), none, 0⟩,
 A 5 (.mv (.t 11)),
 A 6 (.mv (.t 12))] [])
 (.seq (.region [A 13 (.load 4 true (.t 4)),
 A 14 (.mv (.t 6)),
 A 15 (.bin .eql (.t 14) (.c (.int .i64 0))),
 A 16 (.mv (.t 15)),
 ⟨some 17, (.mv (.t 5)), (some (16, true)), 0⟩,
 ⟨some 18, (.mv (.t 0)), (some (16, true)), 0⟩,
 ⟨some 19, (.lenS (.t 18)), (some (16, true)), 0⟩,
 ⟨some 20, (.bin .eql (.t 17) (.t 19)), (some (16, true)), 0⟩,
 A 21 (.pick (.t 16) (.t 20) (.c (.bool false))),
 ⟨none, (.store 4 (.t 2) (.t 13)), none, 0⟩,
 A 3 (.mv (.t 21))] [])
 .ret))) }
def a204 : AFunc :=
 { np := 3, nt := 49, mv := false, res := [(.tmp 6)], code :=
 (.seq (.region [A 6 (.mv (.c (.bool false)))] [])
 (.seq (.seq (.region [A 7 (.mv (.t 1)),
 A 8 (.bin .lss (.t 7) (.c (.int .i64 0)))] [])
 (.cond (.t 8) (.seq (.region [A 9 (.mv (.t 0)),
 A 10 (.chk (.t 9)),
 A 11 (.fld 0 (.t 10)),
 A 12 (.fld 0 (.t 11)),
 A 13 (.load 1 false (.t 12)),
 A 14 (.mv (.t 2)),
 A 15 (.ixa 8 (.t 13) (.t 14)),
 A 16 (.fld 7 (.t 15)),
 A 17 (.load 1 false (.t 16)),
 A 18 (.un .not (.t 17)),
 A 19 (.mv (.t 18)),
 ⟨some 20, (.mv (.t 0)), (some (19, true)), 0⟩,
 ⟨some 21, (.chk (.t 20)), (some (19, true)), 0⟩,
 ⟨some 22, (.fld 8 (.t 21)), (some (19, true)), 0⟩,
 ⟨some 23, (.load 1 false (.t 22)), (some (19, true)), 0⟩,
 ⟨some 24, (.mv (.t 2)), (some (19, true)), 0⟩,
 ⟨some 25, (.ixa 1 (.t 23) (.t 24)), (some (19, true)), 0⟩,
 ⟨some 26, (.load 1 false (.t 25)), (some (19, true)), 0⟩,
 A 27 (.pick (.t 19) (.t 26) (.c (.bool false))),
 A 6 (.mv (.t 27))] [])
 .ret) .skip))
 (.seq (.region [A 28 (.mv (.t 0)),
 A 29 (.chk (.t 28)),
 A 30 (.fld 0 (.t 29)),
 A 31 (.fld 0 (.t 30)),
 A 32 (.load 1 false (.t 31)),
 A 33 (.mv (.t 2)),
 A 34 (.ixa 8 (.t 32) (.t 33)),
 A 35 (.fld 7 (.t 34)),
 A 36 (.load 1 false (.t 35)),
 A 37 (.mv (.t 36)),
 ⟨some 38, (.mv (.t 0)), (some (37, false)), 0⟩,
 ⟨some 39, (.chk (.t 38)), (some (37, false)), 0⟩,
 ⟨some 40, (.fld 10 (.t 39)), (some (37, false)), 0⟩,
 ⟨some 41, (.load 1 false (.t 40)), (some (37, false)), 0⟩,
 ⟨some 42, (.mv (.t 1)), (some (37, false)), 0⟩,
 ⟨some 43, (.ixa 1 (.t 41) (.t 42)), (some (37, false)), 0⟩,
 ⟨some 44, (.load 1 false (.t 43)), (some (37, false)), 0⟩,
 ⟨some 45, (.mv (.t 2)), (some (37, false)), 0⟩,
 ⟨some 46, (.ixa 1 (.t 44) (.t 45)), (some (37, false)), 0⟩,
 ⟨some 47, (.load 1 false (.t 46)), (some (37, false)), 0⟩,
 A 48 (.pick (.t 37) (.c (.bool true)) (.t 47)),
 A 6 (.mv (.t 48))] [])
 .ret))) }
def a205 : AFunc :=
 { np := 1, nt := 69, mv := false, res := [(.tmp 2)], code :=
 (.seq (.region [A 1 (.box 63 (.t 0)),
 A 2 (.mv (.c (.bool false)))] [])
 (.seq (.block 0 (.seq (.region [A 6 (.fld 0 (.t 1)),
 A 7 (.load 1 false (.t 6)),
 A 8 (.bin .eql (.t 7) (.c (.int .i64 1))),
 A 5 (.mv (.t 8))] [])
 (.cond (.t 5) (.seq (.region [A 9 (.fld 5 (.t 1)),
 A 10 (.load 1 false (.t 9)),
 A 11 (.len (.t 10)),
 A 12 (.bin .eql (.t 11) (.c (.int .i64 0))),
 A 13 (.mv (.t 12)),
 ⟨some 14, (.fld 1 (.t 1)), (some (13, true)), 0⟩,
 ⟨some 15, (.load 4 true (.t 14)), (some (13, true)), 0⟩,
 ⟨some 16, (.build [(.int .u64 0), (.int .u64 0), (.int .u64 0), (.int .u64 0)] []), (some (13, true)), 0⟩,
 ⟨some 17, (.eqA 4 true (.t 15) (.t 16)), (some (13, true)), 0⟩,
 A 18 (.pick (.t 13) (.t 17) (.c (.bool false))),
 A 2 (.mv (.t 18))] [])
 .ret) (.seq (.region [A 20 (.fld 1 (.t 1)),
 A 21 (.load 4 true (.t 20)),
 A 22 (.build [(.int .u64 0), (.int .u64 0), (.int .u64 0), (.int .u64 0)] []),
 A 23 (.eqA 4 true (.t 21) (.t 22)),
 A 19 (.mv (.t 23))] [])
 (.cond (.t 19) (.seq (.region [A 2 (.mv (.c (.bool false)))] [])
 .ret) (.seq (.seq (.region [A 25 (.fld 0 (.t 1)),
 A 26 (.load 1 false (.t 25)),
 A 27 (.bin .eql (.t 26) (.c (.int .i64 2))),
 A 24 (.mv (.t 27))] [])
 (.cond (.t 24) .skip (.region [A 28 (.fld 0 (.t 1)),
 A 29 (.load 1 false (.t 28)),
 A 30 (.bin .eql (.t 29) (.c (.int .i64 3))),
 A 24 (.mv (.t 30))] [])))
 (.cond (.t 24) (.seq (.region [A 31 (.fld 5 (.t 1)),
 A 32 (.load 1 false (.t 31)),
 A 33 (.len (.t 32)),
 A 34 (.bin .lss (.t 33) (.c (.int .i64 2)))] [])
 (.cond (.t 34) (.seq (.region [A 2 (.mv (.c (.bool false)))] [])
 .ret) .skip)) (.seq (.region [A 36 (.fld 0 (.t 1)),
 A 37 (.load 1 false (.t 36)),
 A 38 (.call 216 [(.t 37)]),
 A 35 (.mv (.t 38))] [])
 (.cond (.t 35) (.seq (.region [A 39 (.fld 5 (.t 1)),
 A 40 (.load 1 false (.t 39)),
 A 41 (.len (.t 40)),
 A 42 (.bin .neq (.t 41) (.c (.int .i64 1))),
 A 43 (.mv (.t 42)),
 ⟨some 44, (.fld 5 (.t 1)), (some (43, false)), 0⟩,
 ⟨some 45, (.load 1 false (.t 44)), (some (43, false)), 0⟩,
 ⟨some 46, (.ixa 6 (.t 45) (.c (.int .i64 0))), (some (43, false)), 0⟩,
 ⟨some 47, (.fld 0 (.t 46)), (some (43, false)), 0⟩,
 ⟨some 48, (.load 1 false (.t 47)), (some (43, false)), 0⟩,
 ⟨some 49, (.call 216 [(.t 48)]), (some (43, false)), 0⟩,
 A 50 (.pick (.t 43) (.c (.bool true)) (.t 49))] [])
 (.cond (.t 50) (.seq (.region [A 2 (.mv (.c (.bool false)))] [])
 .ret) .skip)) (.seq (.region [A 2 (.mv (.c (.bool false)))] [])
 .ret))))))))))
 (.seq (.seq (.region [A 51 (.fld 5 (.t 1)),
 A 52 (.load 1 false (.t 51)),
 A 53 (.len (.t 52)),
 A 54 (.mv (.c (.int .i64 0)))] [])
 (.block 1 (.loop [1, 52, 53, 54, 64, 65, 66] (.seq (.region [A 55 (.bin .lss (.t 54) (.t 53))] [])
 (.seq (.cond (.t 55) .skip (.exit 1))
 (.seq (.block 2 (.seq (.region [A 56 (.ixa 6 (.t 52) (.t 54)),
 A 57 (.load 6 true (.t 56)),
 A 4 (.alloc 63 [(.v (.int .i64 0)), (.v (.int .u64 0)), (.v (.int .u64 0)), (.v (.int .u64 0)), (.v (.int .u64 0)), (.v .nil)]),
 ⟨none, (.store 6 (.t 4) (.t 57)), none, 0⟩] [])
 (.seq (.region [A 58 (.fld 0 (.t 4)),
 A 59 (.load 1 false (.t 58)),
 A 60 (.fld 0 (.t 1)),
 A 61 (.load 1 false (.t 60)),
 A 62 (.bin .eql (.t 59) (.t 61)),
 A 63 (.mv (.t 62)),
 ⟨some 64, (.load 6 true (.t 4)), (some (63, false)), 0⟩,
 ⟨some 65, (.call 205 [(.t 64)]), (some (63, false)), 0⟩,
 ⟨some 66, (.un .not (.t 65)), (some (63, false)), 0⟩,
 A 67 (.pick (.t 63) (.c (.bool true)) (.t 66))] [])
 (.cond (.t 67) (.seq (.region [A 2 (.mv (.c (.bool false)))] [])
 .ret) .skip))))
 (.region [A 68 (.bin .add (.t 54) (.c (.int .i64 1))),
 A 54 (.mv (.t 68))] [])))))))
 (.seq (.region [A 2 (.mv (.c (.bool true)))] [])
 .ret)))) }
def a206 : AFunc :=
 { np := 1, nt := 31, mv := false, res := [(.tmp 2), (.tmp 3)], code :=
 (.seq (.region [A 1 (.box 63 (.t 0)),
 A 2 (.mv (.c (.int .i64 0))),
 A 3 (.mv (.c (.int .i64 0)))] [])
 (.seq (.seq (.region [A 8 (.fld 5 (.t 1)),
 A 9 (.load 1 false (.t 8)),
 A 10 (.len (.t 9)),
 A 11 (.mv (.c (.int .i64 0)))] [])
 (.block 0 (.loop [2, 3, 9, 10, 11] (.seq (.region [A 12 (.bin .lss (.t 11) (.t 10))] [])
 (.seq (.cond (.t 12) .skip (.exit 0))
 (.seq (.block 1 (.seq (.region [A 13 (.ixa 6 (.t 9) (.t 11)),
 A 14 (.load 6 true (.t 13)),
 A 5 (.alloc 63 [(.v (.int .i64 0)), (.v (.int .u64 0)), (.v (.int .u64 0)), (.v (.int .u64 0)), (.v (.int .u64 0)), (.v .nil)]),
 ⟨none, (.store 6 (.t 5) (.t 14)), none, 0⟩] [])
 (.seq (.region [A 16 (.load 6 true (.t 5)),
 A 17 (.call 206 [(.t 16)]),
 A 15 (.mv (.t 17)),
 A 18 (.ext (.t 15) 0),
 A 19 (.ext (.t 15) 1),
 A 6 (.mv (.t 18)),
 A 7 (.mv (.t 19))] [])
 (.region [A 20 (.mv (.t 2)),
 A 21 (.mv (.t 6)),
 A 22 (.bin .add (.t 20) (.t 21)),
 A 23 (.mv (.t 3)),
 A 24 (.mv (.t 7)),
 A 25 (.mx (.t 23) (.t 24)),
 A 2 (.mv (.t 22)),
 A 3 (.mv (.t 25))] []))))
 (.region [A 26 (.bin .add (.t 11) (.c (.int .i64 1))),
 A 11 (.mv (.t 26))] [])))))))
 (.seq (.region [A 27 (.mv (.t 2)),
 A 28 (.bin .add (.t 27) (.c (.int .i64 1))),
 A 29 (.mv (.t 3)),
 A 30 (.bin .add (.t 29) (.c (.int .i64 1))),
 A 2 (.mv (.t 28)),
 A 3 (.mv (.t 30))] [])
 .ret))) }
def a209 : AFunc :=
 { np := 1, nt := 56, mv := false, res := [(.tmp 2)], code :=
 (.seq (.region [A 2 (.mv (.c (.float .f64 0)))] [])
 (.seq (.region [A 10 (.mv (.t 0)),
 A 11 (.call 217 [(.t 10)]),
 A 9 (.mv (.t 11)),
 A 12 (.ext (.t 9) 0),
 A 13 (.ext (.t 9) 1),
 A 14 (.ext (.t 9) 2),
 A 3 (.mv (.t 12)),
 A 4 (.mv (.t 13)),
 A 5 (.mv (.t 14))] [])
 (.seq (.seq (.region [A 15 (.mv (.t 5)),
 A 16 (.bin .eql (.t 15) (.c (.str ⟨#[]⟩)))] [])
 (.cond (.t 16) (.seq (.region [A 17 (.mv (.t 3)),
 A 18 (.i2f .f64 (.t 17)),
 A 2 (.mv (.t 18))] [])
 .ret) .skip))
 (.seq (.seq (.region [A 19 (.mv (.t 5)),
 A 20 (.ixs (.t 19) (.c (.int .i64 0))),
 A 21 (.bin .neq (.t 20) (.c (.int .u8 46)))] [])
 (.cond (.t 21) (.region [A 22 (.build [] []),
 A 23 (.iface 261 (.t 22)),
 ⟨none, (.panic (.t 23)), none, 0⟩] []) .skip))
 (.seq (.region [A 25 (.mv (.t 5)),
 A 26 (.cutS (.t 25) (some (.c (.int .i64 1))) none),
 A 27 (.call 217 [(.t 26)]),
 A 24 (.mv (.t 27)),
 A 28 (.ext (.t 24) 0),
 A 29 (.ext (.t 24) 1),
 A 30 (.ext (.t 24) 2),
 A 6 (.mv (.t 28)),
 A 7 (.mv (.t 29)),
 A 5 (.mv (.t 30))] [])
 (.seq (.seq (.region [A 31 (.mv (.t 5)),
 A 32 (.bin .neq (.t 31) (.c (.str ⟨#[]⟩))),
 A 33 (.mv (.t 32)),
 ⟨some 34, (.mv (.t 4)), (some (33, false)), 0⟩,
 ⟨some 35, (.mv (.t 7)), (some (33, false)), 0⟩,
 ⟨some 36, (.bin .add (.t 34) (.t 35)), (some (33, false)), 0⟩,
 ⟨some 37, (.bin .gtr (.t 36) (.c (.int .i64 15))), (some (33, false)), 0⟩,
 A 38 (.pick (.t 33) (.c (.bool true)) (.t 37))] [])
 (.cond (.t 38) (.region [A 39 (.build [] []),
 A 40 (.iface 261 (.t 39)),
 ⟨none, (.panic (.t 40)), none, 0⟩] []) .skip))
 (.seq (.region [A 8 (.mv (.c (.int .u64 1)))] [])
 (.seq (.seq (.region [A 41 (.mv (.t 7)),
 A 42 (.mv (.c (.int .i64 0)))] [])
 (.block 0 (.loop [3, 6, 8, 41, 42] (.seq (.region [A 43 (.bin .lss (.t 42) (.t 41))] [])
 (.seq (.cond (.t 43) .skip (.exit 0))
 (.seq (.block 1 (.region [A 44 (.mv (.t 8)),
 A 45 (.bin .mul (.t 44) (.c (.int .u64 10))),
 A 8 (.mv (.t 45))] []))
 (.region [A 46 (.bin .add (.t 42) (.c (.int .i64 1))),
 A 42 (.mv (.t 46))] [])))))))
 (.seq (.region [A 47 (.mv (.t 3)),
 A 48 (.mv (.t 8)),
 A 49 (.bin .mul (.t 47) (.t 48)),
 A 50 (.mv (.t 6)),
 A 51 (.bin .add (.t 49) (.t 50)),
 A 52 (.i2f .f64 (.t 51)),
 A 53 (.mv (.t 8)),
 A 54 (.i2f .f64 (.t 53)),
 A 55 (.bin .quo (.t 52) (.t 54)),
 A 2 (.mv (.t 55))] [])
 .ret))))))))) }
def a210 : AFunc :=
 { np := 2, nt := 27, mv := true, res := [(.tmp 4)], code :=
 (.seq (.region [A 4 (.mv (.c .nil))] [])
 (.seq (.seq (.region [A 5 (.mv (.t 1)),
 A 6 (.bin .lss (.t 5) (.c (.int .i64 0)))] [])
 (.cond (.t 6) (.region [A 7 (.iface 9 (.c (.str ⟨#[99, 97, 110, 110, 111, 116, 32, 98, 101, 32, 110, 101, 103, 97, 116, 105, 118, 101]⟩))),
 ⟨none, (.panic (.t 7)), none, 0⟩] []) .skip))
 (.seq (.seq (.region [A 8 (.mv (.t 1)),
 A 9 (.mv (.t 0)),
 A 10 (.cap0 (.t 9)),
 A 11 (.mv (.t 0)),
 A 12 (.len (.t 11)),
 A 13 (.bin .sub (.t 10) (.t 12)),
 A 14 (.bin .sub (.t 8) (.t 13)),
 A 1 (.mv (.t 14))] [])
 (.seq (.region [A 15 (.mv (.t 1)),
 A 16 (.bin .gtr (.t 15) (.c (.int .i64 0)))] [])
 (.cond (.t 16) (.region [A 17 (.mv (.t 0)),
 A 18 (.mv (.t 0)),
 A 19 (.cap0 (.t 18)),
 A 20 (.pop (.t 17) (.t 19)),
 A 21 (.mv (.t 1)),
 A 22 (.app0 3 1 8 [(.int .i64 0)] (.t 20) (.t 21)),
 A 23 (.mv (.t 0)),
 A 24 (.len (.t 23)),
 A 25 (.pop (.t 22) (.t 24)),
 A 0 (.mv (.t 25))] []) .skip)))
 (.seq (.region [A 26 (.mv (.t 0)),
 A 4 (.mv (.t 26))] [])
 .ret)))) }
def a211 : AFunc :=
 { np := 4, nt := 134, mv := false, res := [], code :=
 (.seq (.region [A 8 (.mv (.c (.bool true)))] [])
 (.seq (.region [A 9 (.mv (.c (.bool true)))] [])
 (.block 0 (.loop [0, 1, 2, 3, 8, 9, 63, 66, 67, 76, 77, 78, 79, 80, 81, 82, 83, 84, 85, 86] (.block 1 (.seq (.region [A 19 (.mv (.t 2)),
 A 20 (.mv (.t 1)),
 A 21 (.bin .sub (.t 19) (.t 20)),
 A 10 (.mv (.t 21))] [])
 (.seq (.seq (.region [A 22 (.mv (.t 10)),
 A 23 (.bin .leq (.t 22) (.c (.int .i64 12)))] [])
 (.cond (.t 23) (.seq (.region [A 24 (.mv (.t 0)),
 A 25 (.mv (.t 1)),
 A 26 (.mv (.t 2)),
 A 27 (.call 218 [(.t 24), (.t 25), (.t 26)])] [])
 .ret) .skip))
 (.seq (.seq (.region [A 28 (.mv (.t 3)),
 A 29 (.bin .eql (.t 28) (.c (.int .i64 0)))] [])
 (.cond (.t 29) (.seq (.region [A 30 (.mv (.t 0)),
 A 31 (.mv (.t 1)),
 A 32 (.mv (.t 2)),
 A 33 (.call 219 [(.t 30), (.t 31), (.t 32)])] [])
 .ret) .skip))
 (.seq (.seq (.region [A 34 (.mv (.t 8)),
 A 35 (.un .not (.t 34))] [])
 (.cond (.t 35) (.seq (.region [A 36 (.mv (.t 0)),
 A 37 (.mv (.t 1)),
 A 38 (.mv (.t 2)),
 A 39 (.call 220 [(.t 36), (.t 37), (.t 38)])] [])
 (.region [A 40 (.mv (.t 3)),
 A 41 (.bin .sub (.t 40) (.c (.int .i64 1))),
 A 3 (.mv (.t 41))] [])) .skip))
 (.seq (.region [A 43 (.mv (.t 0)),
 A 44 (.mv (.t 1)),
 A 45 (.mv (.t 2)),
 A 46 (.call 221 [(.t 43), (.t 44), (.t 45)]),
 A 42 (.mv (.t 46)),
 A 47 (.ext (.t 42) 0),
 A 48 (.ext (.t 42) 1),
 A 11 (.mv (.t 47)),
 A 12 (.mv (.t 48))] [])
 (.seq (.seq (.region [A 49 (.mv (.t 12)),
 A 50 (.bin .eql (.t 49) (.c (.int .i64 2)))] [])
 (.cond (.t 50) (.seq (.region [A 51 (.mv (.t 0)),
 A 52 (.mv (.t 1)),
 A 53 (.mv (.t 2)),
 A 54 (.call 222 [(.t 51), (.t 52), (.t 53)])] [])
 (.seq (.region [A 55 (.mv (.t 2)),
 A 56 (.bin .sub (.t 55) (.c (.int .i64 1))),
 A 57 (.mv (.t 11)),
 A 58 (.mv (.t 1)),
 A 59 (.bin .sub (.t 57) (.t 58)),
 A 60 (.bin .sub (.t 56) (.t 59)),
 A 11 (.mv (.t 60))] [])
 (.region [A 12 (.mv (.c (.int .i64 1)))] []))) .skip))
 (.seq (.seq (.region [A 61 (.mv (.t 8)),
 A 62 (.mv (.t 61)),
 ⟨some 63, (.mv (.t 9)), (some (62, true)), 0⟩,
 A 64 (.pick (.t 62) (.t 63) (.c (.bool false))),
 A 65 (.mv (.t 64)),
 ⟨some 66, (.mv (.t 12)), (some (65, true)), 0⟩,
 ⟨some 67, (.bin .eql (.t 66) (.c (.int .i64 1))), (some (65, true)), 0⟩,
 A 68 (.pick (.t 65) (.t 67) (.c (.bool false)))] [])
 (.cond (.t 68) (.seq (.region [A 69 (.mv (.t 0)),
 A 70 (.mv (.t 1)),
 A 71 (.mv (.t 2)),
 A 72 (.call 223 [(.t 69), (.t 70), (.t 71)])] [])
 (.cond (.t 72) .ret .skip)) .skip))
 (.seq (.seq (.region [A 73 (.mv (.t 1)),
 ⟨some 74, (.bin .gtr (.t 73) (.c (.int .i64 0))), none, 1⟩,
 ⟨some 75, (.mv (.t 74)), none, 3⟩,
 ⟨some 76, (.mv (.t 0)), (some (75, true)), 7⟩,
 ⟨some 77, (.mv (.t 1)), (some (75, true)), 7⟩,
 ⟨some 78, (.bin .sub (.t 77) (.c (.int .i64 1))), (some (75, true)), 23⟩,
 ⟨some 79, (.ixa 1 (.t 76) (.t 78)), (some (75, true)), 63⟩,
 ⟨some 80, (.load 1 false (.t 79)), (some (75, true)), 127⟩,
 ⟨some 81, (.mv (.t 0)), (some (75, true)), 7⟩,
 ⟨some 82, (.mv (.t 11)), (some (75, true)), 7⟩,
 ⟨some 83, (.ixa 1 (.t 81) (.t 82)), (some (75, true)), 775⟩,
 ⟨some 84, (.load 1 false (.t 83)), (some (75, true)), 1799⟩,
 ⟨some 85, (.call 224 [(.t 80), (.t 84)]), (some (75, true)), 4095⟩,
 ⟨some 86, (.un .not (.t 85)), (some (75, true)), 8191⟩,
 ⟨some 87, (.pick (.t 75) (.t 86) (.c (.bool false))), none, 16383⟩] [])
 (.cond (.t 87) (.seq (.region [A 88 (.mv (.t 0)),
 A 89 (.mv (.t 1)),
 A 90 (.mv (.t 2)),
 A 91 (.mv (.t 11)),
 A 92 (.call 225 [(.t 88), (.t 89), (.t 90), (.t 91)]),
 A 13 (.mv (.t 92))] [])
 (.seq (.region [A 93 (.mv (.t 13)),
 A 1 (.mv (.t 93))] [])
 (.exit 1))) .skip))
 (.seq (.region [A 95 (.mv (.t 0)),
 A 96 (.mv (.t 1)),
 A 97 (.mv (.t 2)),
 A 98 (.mv (.t 11)),
 A 99 (.call 226 [(.t 95), (.t 96), (.t 97), (.t 98)]),
 A 94 (.mv (.t 99)),
 A 100 (.ext (.t 94) 0),
 A 101 (.ext (.t 94) 1),
 A 14 (.mv (.t 100)),
 A 15 (.mv (.t 101))] [])
 (.seq (.region [A 102 (.mv (.t 15)),
 A 9 (.mv (.t 102))] [])
 (.seq (.region [A 103 (.mv (.t 14)),
 A 104 (.mv (.t 1)),
 A 105 (.bin .sub (.t 103) (.t 104)),
 A 106 (.mv (.t 2)),
 A 107 (.mv (.t 14)),
 A 108 (.bin .sub (.t 106) (.t 107)),
 A 16 (.mv (.t 105)),
 A 17 (.mv (.t 108))] [])
 (.seq (.region [A 109 (.mv (.t 10)),
 A 110 (.bin .quo (.t 109) (.c (.int .i64 8))),
 A 18 (.mv (.t 110))] [])
 (.seq (.region [A 111 (.mv (.t 16)),
 A 112 (.mv (.t 17)),
 A 113 (.bin .lss (.t 111) (.t 112))] [])
 (.cond (.t 113) (.seq (.region [A 114 (.mv (.t 16)),
 A 115 (.mv (.t 18)),
 A 116 (.bin .geq (.t 114) (.t 115)),
 A 8 (.mv (.t 116))] [])
 (.seq (.region [A 117 (.mv (.t 0)),
 A 118 (.mv (.t 1)),
 A 119 (.mv (.t 14)),
 A 120 (.mv (.t 3)),
 A 121 (.call 211 [(.t 117), (.t 118), (.t 119), (.t 120)])] [])
 (.region [A 122 (.mv (.t 14)),
 A 123 (.bin .add (.t 122) (.c (.int .i64 1))),
 A 1 (.mv (.t 123))] []))) (.seq (.region [A 124 (.mv (.t 17)),
 A 125 (.mv (.t 18)),
 A 126 (.bin .geq (.t 124) (.t 125)),
 A 8 (.mv (.t 126))] [])
 (.seq (.region [A 127 (.mv (.t 0)),
 A 128 (.mv (.t 14)),
 A 129 (.bin .add (.t 128) (.c (.int .i64 1))),
 A 130 (.mv (.t 2)),
 A 131 (.mv (.t 3)),
 A 132 (.call 211 [(.t 127), (.t 129), (.t 130), (.t 131)])] [])
 (.region [A 133 (.mv (.t 14)),
 A 2 (.mv (.t 133))] [])))))))))))))))))))))) }
def a213 : AFunc :=
 { np := 1, nt := 36, mv := false, res := [(.cell 2 6 true)], code :=
 (.seq (.region [A 2 (.alloc 63 [(.v (.int .i64 0)), (.v (.int .u64 0)), (.v (.int .u64 0)), (.v (.int .u64 0)), (.v (.int .u64 0)), (.v .nil)])] [])
 (.seq (.region [A 4 (.mv (.t 0)),
 A 5 (.call 227 [(.t 4)]),
 A 6 (.lit 63 6 1 [(.int .i64 0), (.int .u64 0), (.int .u64 0), (.int .u64 0), (.int .u64 0), .nil] [(0, (.t 5))]),
 A 3 (.mv (.t 6))] [])
 (.seq (.block 0 (.loop [0, 2, 3, 13, 14] (.seq (.seq (.region [A 7 (.mv (.t 0)),
 A 8 (.chk (.t 7)),
 A 9 (.fld 3 (.t 8)),
 A 10 (.load 1 false (.t 9)),
 A 11 (.bin .eql (.t 10) (.c (.int .i64 0))),
 A 12 (.mv (.t 11)),
 ⟨some 13, (.mv (.t 0)), (some (12, true)), 0⟩,
 ⟨some 14, (.call 228 [(.t 13), (.c (.int .u8 124))]), (some (12, true)), 0⟩,
 A 15 (.pick (.t 12) (.t 14) (.c (.bool false)))] [])
 (.cond (.t 15) .skip (.exit 0)))
 (.block 1 (.seq (.region [A 16 (.mv (.t 0)),
 A 17 (.chk (.t 16)),
 A 18 (.fld 1 (.t 17)),
 A 19 (.load 1 false (.t 18)),
 A 20 (.bin .add (.t 19) (.c (.int .i64 1))),
 A 21 (.chk (.t 16)),
 A 22 (.fld 1 (.t 21)),
 ⟨none, (.store 1 (.t 22) (.t 20)), none, 0⟩] [])
 (.region [A 23 (.mv (.t 3)),
 A 24 (.mv (.t 0)),
 A 25 (.call 227 [(.t 24)]),
 A 26 (.lit 63 6 1 [(.int .i64 0), (.int .u64 0), (.int .u64 0), (.int .u64 0), (.int .u64 0), .nil] [(0, (.t 25))]),
 A 27 (.app 63 6 64 (.t 23) (.t 26)),
 A 3 (.mv (.t 27))] []))))))
 (.seq (.seq (.region [A 28 (.mv (.t 3)),
 A 29 (.len (.t 28)),
 A 30 (.bin .eql (.t 29) (.c (.int .i64 1)))] [])
 (.cond (.t 30) (.seq (.region [A 31 (.mv (.t 3)),
 A 32 (.ixa 6 (.t 31) (.c (.int .i64 0))),
 A 33 (.load 6 true (.t 32)),
 ⟨none, (.store 6 (.t 2) (.t 33)), none, 0⟩] [])
 .ret) .skip))
 (.seq (.region [A 34 (.mv (.t 3)),
 A 35 (.build [(.int .i64 0), (.int .u64 0), (.int .u64 0), (.int .u64 0), (.int .u64 0), .nil] [(0, 1, (.c (.int .i64 3))), (5, 1, (.t 34))]),
 ⟨none, (.store 6 (.t 2) (.t 35)), none, 0⟩] [])
 .ret))))) }
def a214 : AFunc :=
 { np := 2, nt := 13, mv := false, res := [], code :=
 (.seq (.region [A 4 (.mv (.t 0)),
 A 5 (.chk (.t 4)),
 A 6 (.fld 3 (.t 5)),
 A 7 (.load 1 false (.t 6)),
 A 8 (.bin .eql (.t 7) (.c (.int .i64 0)))] [])
 (.cond (.t 8) (.region [A 9 (.mv (.t 0)),
 A 10 (.mv (.t 1)),
 A 11 (.chk (.t 9)),
 A 12 (.fld 3 (.t 11)),
 ⟨none, (.store 1 (.t 12) (.t 10)), none, 0⟩] []) .skip)) }
def a215 : AFunc :=
 { np := 1, nt := 133, mv := false, res := [(.cell 2 4 true), (.tmp 3), (.tmp 4)], code :=
 (.seq (.region [A 2 (.alloc 60 [(.v (.int .u64 0)), (.v (.int .u64 0)), (.v (.int .u64 0)), (.v (.int .u64 0))]),
 A 3 (.mv (.c (.int .i64 0))),
 A 4 (.mv (.c (.int .i64 0)))] [])
 (.seq (.seq (.region [A 15 (.mv (.t 0)),
 A 16 (.lenS (.t 15)),
 A 17 (.bin .gtr (.t 16) (.c (.int .i64 0))),
 A 18 (.mv (.t 17)),
 ⟨some 19, (.mv (.t 0)), (some (18, true)), 0⟩,
 ⟨some 20, (.ixs (.t 19) (.c (.int .i64 0))), (some (18, true)), 0⟩,
 ⟨some 21, (.bin .eql (.t 20) (.c (.int .u8 46))), (some (18, true)), 0⟩,
 A 22 (.pick (.t 18) (.t 21) (.c (.bool false)))] [])
 (.cond (.t 22) (.seq (.region [A 23 (.build [(.int .u64 0), (.int .u64 0), (.int .u64 0), (.int .u64 0)] []),
 A 24 (.call 86 [(.t 23)]),
 ⟨none, (.store 4 (.t 2) (.t 24)), none, 0⟩,
 A 3 (.mv (.c (.int .i64 1))),
 A 4 (.mv (.c (.int .i64 0)))] [])
 .ret) .skip))
 (.seq (.seq (.region [A 25 (.mv (.t 0)),
 A 26 (.lenS (.t 25)),
 A 27 (.bin .eql (.t 26) (.c (.int .i64 0))),
 A 28 (.mv (.t 27)),
 ⟨some 29, (.mv (.t 0)), (some (28, false)), 0⟩,
 ⟨some 30, (.ixs (.t 29) (.c (.int .i64 0))), (some (28, false)), 0⟩,
 ⟨some 31, (.bin .neq (.t 30) (.c (.int .u8 91))), (some (28, false)), 0⟩,
 A 32 (.pick (.t 28) (.c (.bool true)) (.t 31))] [])
 (.cond (.t 32) (.seq (.region [A 34 (.mv (.t 0)),
 A 35 (.call 229 [(.t 34), (.c (.int .i64 0))]),
 A 33 (.mv (.t 35)),
 A 36 (.ext (.t 33) 0),
 A 37 (.ext (.t 33) 1),
 A 5 (.mv (.t 36)),
 A 6 (.mv (.t 37))] [])
 (.seq (.seq (.region [A 38 (.mv (.t 6)),
 A 39 (.bin .lss (.t 38) (.c (.int .i64 0)))] [])
 (.cond (.t 39) (.seq (.region [A 40 (.build [(.int .u64 0), (.int .u64 0), (.int .u64 0), (.int .u64 0)] []),
 ⟨none, (.store 4 (.t 2) (.t 40)), none, 0⟩,
 A 3 (.mv (.c (.int .i64 0))),
 A 4 (.mv (.c (.int .i64 2)))] [])
 .ret) .skip))
 (.seq (.region [A 41 (.mv (.t 5)),
 A 42 (.litF 5 1 1 [(.int .u8 0)] [(0, (.t 41))]),
 A 43 (.call 85 [(.t 42)]),
 A 44 (.mv (.t 6)),
 ⟨none, (.store 4 (.t 2) (.t 43)), none, 0⟩,
 A 3 (.mv (.t 44)),
 A 4 (.mv (.c (.int .i64 0)))] [])
 .ret))) .skip))
 (.seq (.region [A 7 (.mv (.c (.int .i64 1))),
 A 8 (.mv (.c (.bool false)))] [])
 (.seq (.seq (.region [A 45 (.mv (.t 0)),
 A 46 (.lenS (.t 45)),
 A 47 (.bin .gtr (.t 46) (.c (.int .i64 1))),
 A 48 (.mv (.t 47)),
 ⟨some 49, (.mv (.t 0)), (some (48, true)), 0⟩,
 ⟨some 50, (.ixs (.t 49) (.c (.int .i64 1))), (some (48, true)), 0⟩,
 ⟨some 51, (.bin .eql (.t 50) (.c (.int .u8 94))), (some (48, true)), 0⟩,
 A 52 (.pick (.t 48) (.t 51) (.c (.bool false)))] [])
 (.cond (.t 52) (.region [A 7 (.mv (.c (.int .i64 2))),
 A 8 (.mv (.c (.bool true)))] []) .skip))
 (.seq (.region [A 9 (.mv (.c .nil))] [])
 (.seq (.block 0 (.loop [0, 2, 7, 8, 9, 58, 59, 60, 61, 78, 79, 80, 81, 93, 94, 95, 117, 118, 119] (.seq (.seq (.region [A 53 (.mv (.t 7)),
 A 54 (.mv (.t 0)),
 A 55 (.lenS (.t 54)),
 A 56 (.bin .lss (.t 53) (.t 55)),
 A 57 (.mv (.t 56)),
 ⟨some 58, (.mv (.t 0)), (some (57, true)), 0⟩,
 ⟨some 59, (.mv (.t 7)), (some (57, true)), 0⟩,
 ⟨some 60, (.ixs (.t 58) (.t 59)), (some (57, true)), 0⟩,
 ⟨some 61, (.bin .neq (.t 60) (.c (.int .u8 93))), (some (57, true)), 0⟩,
 A 62 (.pick (.t 57) (.t 61) (.c (.bool false)))] [])
 (.cond (.t 62) .skip (.exit 0)))
 (.block 1 (.seq (.region [A 64 (.mv (.t 0)),
 A 65 (.mv (.t 7)),
 A 66 (.call 229 [(.t 64), (.t 65)]),
 A 63 (.mv (.t 66)),
 A 67 (.ext (.t 63) 0),
 A 68 (.ext (.t 63) 1),
 A 10 (.mv (.t 67)),
 A 11 (.mv (.t 68))] [])
 (.seq (.seq (.region [A 69 (.mv (.t 11)),
 A 70 (.bin .lss (.t 69) (.c (.int .i64 0)))] [])
 (.cond (.t 70) (.seq (.region [A 71 (.build [(.int .u64 0), (.int .u64 0), (.int .u64 0), (.int .u64 0)] []),
 ⟨none, (.store 4 (.t 2) (.t 71)), none, 0⟩,
 A 3 (.mv (.c (.int .i64 0))),
 A 4 (.mv (.c (.int .i64 2)))] [])
 .ret) .skip))
 (.seq (.region [A 72 (.mv (.t 10)),
 A 12 (.mv (.t 72))] [])
 (.seq (.seq (.region [A 73 (.mv (.t 11)),
 A 74 (.mv (.t 0)),
 A 75 (.lenS (.t 74)),
 A 76 (.bin .lss (.t 73) (.t 75)),
 A 77 (.mv (.t 76)),
 ⟨some 78, (.mv (.t 0)), (some (77, true)), 0⟩,
 ⟨some 79, (.mv (.t 11)), (some (77, true)), 0⟩,
 ⟨some 80, (.ixs (.t 78) (.t 79)), (some (77, true)), 0⟩,
 ⟨some 81, (.bin .eql (.t 80) (.c (.int .u8 45))), (some (77, true)), 0⟩,
 A 82 (.pick (.t 77) (.t 81) (.c (.bool false)))] [])
 (.cond (.t 82) (.seq (.region [A 84 (.mv (.t 0)),
 A 85 (.mv (.t 11)),
 A 86 (.bin .add (.t 85) (.c (.int .i64 1))),
 A 87 (.call 229 [(.t 84), (.t 86)]),
 A 83 (.mv (.t 87)),
 A 88 (.ext (.t 83) 0),
 A 89 (.ext (.t 83) 1),
 A 12 (.mv (.t 88)),
 A 11 (.mv (.t 89))] [])
 (.seq (.region [A 90 (.mv (.t 11)),
 A 91 (.bin .lss (.t 90) (.c (.int .i64 0))),
 A 92 (.mv (.t 91)),
 ⟨some 93, (.mv (.t 12)), (some (92, false)), 0⟩,
 ⟨some 94, (.mv (.t 10)), (some (92, false)), 0⟩,
 ⟨some 95, (.bin .lss (.t 93) (.t 94)), (some (92, false)), 0⟩,
 A 96 (.pick (.t 92) (.c (.bool true)) (.t 95))] [])
 (.cond (.t 96) (.seq (.region [A 97 (.build [(.int .u64 0), (.int .u64 0), (.int .u64 0), (.int .u64 0)] []),
 ⟨none, (.store 4 (.t 2) (.t 97)), none, 0⟩,
 A 3 (.mv (.c (.int .i64 0))),
 A 4 (.mv (.c (.int .i64 2)))] [])
 .ret) .skip))) .skip))
 (.seq (.seq (.region [A 98 (.mv (.t 10)),
 A 99 (.conv .i64 (.t 98)),
 A 13 (.mv (.t 99))] [])
 (.block 2 (.loop [0, 2, 8, 9, 11, 12, 13, 58, 59, 60, 61, 78, 79, 80, 81, 93, 94, 95, 117, 118, 119] (.seq (.seq (.region [A 100 (.mv (.t 13)),
 A 101 (.mv (.t 12)),
 A 102 (.conv .i64 (.t 101)),
 A 103 (.bin .leq (.t 100) (.t 102))] [])
 (.cond (.t 103) .skip (.exit 2)))
 (.seq (.block 3 (.region [A 106 (.mv (.t 9)),
 A 107 (.mv (.t 13)),
 A 108 (.conv .u8 (.t 107)),
 A 109 (.litF 5 1 1 [(.int .u8 0)] [(0, (.t 108))]),
 A 110 (.app 5 1 1 (.t 106) (.t 109)),
 A 9 (.mv (.t 110))] []))
 (.region [A 104 (.mv (.t 13)),
 A 105 (.bin .add (.t 104) (.c (.int .i64 1))),
 A 13 (.mv (.t 105))] []))))))
 (.region [A 111 (.mv (.t 11)),
 A 7 (.mv (.t 111))] []))))))))))
 (.seq (.seq (.region [A 112 (.mv (.t 7)),
 A 113 (.mv (.t 0)),
 A 114 (.lenS (.t 113)),
 A 115 (.bin .geq (.t 112) (.t 114)),
 A 116 (.mv (.t 115)),
 ⟨some 117, (.mv (.t 9)), (some (116, false)), 0⟩,
 ⟨some 118, (.len (.t 117)), (some (116, false)), 0⟩,
 ⟨some 119, (.bin .eql (.t 118) (.c (.int .i64 0))), (some (116, false)), 0⟩,
 A 120 (.pick (.t 116) (.c (.bool true)) (.t 119))] [])
 (.cond (.t 120) (.seq (.region [A 121 (.build [(.int .u64 0), (.int .u64 0), (.int .u64 0), (.int .u64 0)] []),
 ⟨none, (.store 4 (.t 2) (.t 121)), none, 0⟩,
 A 3 (.mv (.c (.int .i64 0))),
 A 4 (.mv (.c (.int .i64 2)))] [])
 .ret) .skip))
 (.seq (.region [A 122 (.mv (.t 9)),
 A 123 (.call 85 [(.t 122)]),
 A 14 (.alloc 60 [(.v (.int .u64 0)), (.v (.int .u64 0)), (.v (.int .u64 0)), (.v (.int .u64 0))]),
 ⟨none, (.store 4 (.t 14) (.t 123)), none, 0⟩] [])
 (.seq (.seq (.region [A 124 (.mv (.t 8))] [])
 (.cond (.t 124) (.region [A 125 (.load 4 true (.t 14)),
 A 126 (.call 86 [(.t 125)]),
 ⟨none, (.store 4 (.t 14) (.t 126)), none, 0⟩] []) .skip))
 (.seq (.seq (.region [A 127 (.load 4 true (.t 14)),
 A 128 (.call 61 [(.t 127)])] [])
 (.cond (.t 128) (.seq (.region [A 129 (.build [(.int .u64 0), (.int .u64 0), (.int .u64 0), (.int .u64 0)] []),
 ⟨none, (.store 4 (.t 2) (.t 129)), none, 0⟩,
 A 3 (.mv (.c (.int .i64 0))),
 A 4 (.mv (.c (.int .i64 2)))] [])
 .ret) .skip))
 (.seq (.region [A 130 (.load 4 true (.t 14)),
 A 131 (.mv (.t 7)),
 A 132 (.bin .add (.t 131) (.c (.int .i64 1))),
 ⟨none, (.store 4 (.t 2) (.t 130)), none, 0⟩,
 A 3 (.mv (.t 132)),
 A 4 (.mv (.c (.int .i64 0)))] [])
 .ret)))))))))))) }
def a217 : AFunc :=
 { np := 1, nt := 40, mv := false, res := [(.tmp 2), (.tmp 3), (.tmp 4)], code :=
 (.seq (.region [A 2 (.mv (.c (.int .u64 0))),
 A 3 (.mv (.c (.int .i64 0))),
 A 4 (.mv (.c (.str ⟨#[]⟩)))] [])
 (.seq (.block 0 (.loop [0, 2, 3, 9, 10, 11, 14, 15, 16] (.seq (.seq (.region [A 5 (.mv (.t 0)),
 A 6 (.lenS (.t 5)),
 A 7 (.bin .gtr (.t 6) (.c (.int .i64 0))),
 A 8 (.mv (.t 7)),
 ⟨some 9, (.mv (.t 0)), (some (8, true)), 0⟩,
 ⟨some 10, (.ixs (.t 9) (.c (.int .i64 0))), (some (8, true)), 0⟩,
 ⟨some 11, (.bin .geq (.t 10) (.c (.int .u8 48))), (some (8, true)), 0⟩,
 A 12 (.pick (.t 8) (.t 11) (.c (.bool false))),
 A 13 (.mv (.t 12)),
 ⟨some 14, (.mv (.t 0)), (some (13, true)), 0⟩,
 ⟨some 15, (.ixs (.t 14) (.c (.int .i64 0))), (some (13, true)), 0⟩,
 ⟨some 16, (.bin .leq (.t 15) (.c (.int .u8 57))), (some (13, true)), 0⟩,
 A 17 (.pick (.t 13) (.t 16) (.c (.bool false)))] [])
 (.cond (.t 17) .skip (.exit 0)))
 (.block 1 (.seq (.seq (.region [A 18 (.mv (.t 3)),
 A 19 (.bin .add (.t 18) (.c (.int .i64 1))),
 A 3 (.mv (.t 19))] [])
 (.seq (.region [A 20 (.mv (.t 3)),
 A 21 (.bin .gtr (.t 20) (.c (.int .i64 15)))] [])
 (.cond (.t 21) (.region [A 22 (.build [] []),
 A 23 (.iface 261 (.t 22)),
 ⟨none, (.panic (.t 23)), none, 0⟩] []) .skip)))
 (.region [A 24 (.mv (.t 2)),
 ⟨some 25, (.bin .mul (.t 24) (.c (.int .u64 10))), none, 1⟩,
 A 26 (.mv (.t 0)),
 ⟨some 27, (.ixs (.t 26) (.c (.int .i64 0))), none, 4⟩,
 ⟨some 28, (.bin .sub (.t 27) (.c (.int .u8 48))), none, 12⟩,
 ⟨some 29, (.conv .u64 (.t 28)), none, 28⟩,
 ⟨some 30, (.bin .add (.t 25) (.t 29)), none, 63⟩,
 A 31 (.mv (.t 0)),
 ⟨some 32, (.cutS (.t 31) (some (.c (.int .i64 1))) none), none, 128⟩,
 ⟨some 2, (.mv (.t 30)), none, 127⟩,
 ⟨some 0, (.mv (.t 32)), none, 1023⟩] []))))))
 (.seq (.seq (.region [A 33 (.mv (.t 3)),
 A 34 (.bin .eql (.t 33) (.c (.int .i64 0)))] [])
 (.cond (.t 34) (.region [A 35 (.build [] []),
 A 36 (.iface 261 (.t 35)),
 ⟨none, (.panic (.t 36)), none, 0⟩] []) .skip))
 (.seq (.region [A 37 (.mv (.t 2)),
 A 38 (.mv (.t 3)),
 A 39 (.mv (.t 0)),
 A 2 (.mv (.t 37)),
 A 3 (.mv (.t 38)),
 A 4 (.mv (.t 39))] [])
 .ret)))) }
def a218 : AFunc :=
 { np := 3, nt := 49, mv := false, res := [], code :=
 (.seq (.region [A 8 (.mv (.t 1)),
 A 9 (.bin .add (.t 8) (.c (.int .i64 1))),
 A 6 (.mv (.t 9))] [])
 (.block 0 (.loop [0, 1, 2, 6, 20, 21, 22, 23, 24, 25, 26, 27, 28, 29] (.seq (.seq (.region [A 10 (.mv (.t 6)),
 A 11 (.mv (.t 2)),
 A 12 (.bin .lss (.t 10) (.t 11))] [])
 (.cond (.t 12) .skip (.exit 0)))
 (.seq (.block 1 (.seq (.region [A 15 (.mv (.t 6)),
 A 7 (.mv (.t 15))] [])
 (.block 2 (.loop [0, 1, 2, 6, 7, 20, 21, 22, 23, 24, 25, 26, 27, 28, 29] (.seq (.seq (.region [A 16 (.mv (.t 7)),
 A 17 (.mv (.t 1)),
 ⟨some 18, (.bin .gtr (.t 16) (.t 17)), none, 3⟩,
 ⟨some 19, (.mv (.t 18)), none, 7⟩,
 ⟨some 20, (.mv (.t 0)), (some (19, true)), 15⟩,
 ⟨some 21, (.mv (.t 7)), (some (19, true)), 15⟩,
 ⟨some 22, (.ixa 1 (.t 20) (.t 21)), (some (19, true)), 63⟩,
 ⟨some 23, (.load 1 false (.t 22)), (some (19, true)), 127⟩,
 ⟨some 24, (.mv (.t 0)), (some (19, true)), 15⟩,
 ⟨some 25, (.mv (.t 7)), (some (19, true)), 15⟩,
 ⟨some 26, (.bin .sub (.t 25) (.c (.int .i64 1))), (some (19, true)), 527⟩,
 ⟨some 27, (.ixa 1 (.t 24) (.t 26)), (some (19, true)), 1807⟩,
 ⟨some 28, (.load 1 false (.t 27)), (some (19, true)), 3855⟩,
 ⟨some 29, (.call 224 [(.t 23), (.t 28)]), (some (19, true)), 8191⟩,
 ⟨some 30, (.pick (.t 19) (.t 29) (.c (.bool false))), none, 16383⟩] [])
 (.cond (.t 30) .skip (.exit 2)))
 (.seq (.block 3 (.region [A 33 (.mv (.t 0)),
 A 34 (.mv (.t 7)),
 A 35 (.mv (.t 0)),
 A 36 (.mv (.t 7)),
 ⟨some 37, (.bin .sub (.t 36) (.c (.int .i64 1))), none, 8⟩,
 A 38 (.mv (.t 0)),
 A 39 (.mv (.t 7)),
 ⟨some 40, (.bin .sub (.t 39) (.c (.int .i64 1))), none, 64⟩,
 ⟨some 41, (.ixa 1 (.t 38) (.t 40)), none, 224⟩,
 ⟨some 42, (.load 1 false (.t 41)), none, 480⟩,
 A 43 (.mv (.t 0)),
 A 44 (.mv (.t 7)),
 ⟨some 45, (.ixa 1 (.t 43) (.t 44)), none, 3072⟩,
 ⟨some 46, (.load 1 false (.t 45)), none, 7168⟩,
 ⟨some 47, (.ixa 1 (.t 33) (.t 34)), none, 16355⟩,
 ⟨none, (.store 1 (.t 47) (.t 42)), none, 32739⟩,
 ⟨some 48, (.ixa 1 (.t 35) (.t 37)), none, 65535⟩,
 ⟨none, (.store 1 (.t 48) (.t 46)), none, 131071⟩] [(2, 15), (3, 15), (4, 15)]))
 (.region [A 31 (.mv (.t 7)),
 A 32 (.bin .sub (.t 31) (.c (.int .i64 1))),
 A 7 (.mv (.t 32))] [])))))))
 (.region [A 13 (.mv (.t 6)),
 A 14 (.bin .add (.t 13) (.c (.int .i64 1))),
 A 6 (.mv (.t 14))] [])))))) }
def a224 : AFunc :=
 { np := 2, nt := 17, mv := false, res := [(.tmp 4)], code :=
 (.seq (.region [A 4 (.mv (.c (.bool false)))] [])
 (.seq (.region [A 5 (.mv (.t 0)),
 A 6 (.call 233 [(.t 5)]),
 A 7 (.mv (.t 6)),
 ⟨some 8, (.mv (.t 1)), (some (7, true)), 0⟩,
 ⟨some 9, (.call 233 [(.t 8)]), (some (7, true)), 0⟩,
 ⟨some 10, (.un .not (.t 9)), (some (7, true)), 0⟩,
 A 11 (.pick (.t 7) (.t 10) (.c (.bool false))),
 A 12 (.mv (.t 11)),
 ⟨some 13, (.mv (.t 0)), (some (12, false)), 0⟩,
 ⟨some 14, (.mv (.t 1)), (some (12, false)), 0⟩,
 ⟨some 15, (.bin .lss (.t 13) (.t 14)), (some (12, false)), 0⟩,
 A 16 (.pick (.t 12) (.c (.bool true)) (.t 15)),
 A 4 (.mv (.t 16))] [])
 .ret)) }
def a227 : AFunc :=
 { np := 1, nt := 47, mv := false, res := [(.cell 2 6 true)], code :=
 (.seq (.region [A 2 (.alloc 63 [(.v (.int .i64 0)), (.v (.int .u64 0)), (.v (.int .u64 0)), (.v (.int .u64 0)), (.v (.int .u64 0)), (.v .nil)])] [])
 (.seq (.region [A 4 (.mv (.t 0)),
 A 5 (.call 234 [(.t 4)]),
 A 6 (.lit 63 6 1 [(.int .i64 0), (.int .u64 0), (.int .u64 0), (.int .u64 0), (.int .u64 0), .nil] [(0, (.t 5))]),
 A 3 (.mv (.t 6))] [])
 (.seq (.block 0 (.loop [0, 2, 3, 13, 14, 15, 16, 17, 18, 19, 20, 21, 22, 25, 26, 27, 30, 31, 32] (.seq (.seq (.region [A 7 (.mv (.t 0)),
 ⟨some 8, (.chk (.t 7)), none, 1⟩,
 ⟨some 9, (.fld 3 (.t 8)), none, 3⟩,
 ⟨some 10, (.load 1 false (.t 9)), none, 7⟩,
 ⟨some 11, (.bin .eql (.t 10) (.c (.int .i64 0))), none, 15⟩,
 ⟨some 12, (.mv (.t 11)), none, 31⟩,
 ⟨some 13, (.mv (.t 0)), (some (12, true)), 63⟩,
 ⟨some 14, (.chk (.t 13)), (some (12, true)), 127⟩,
 ⟨some 15, (.fld 1 (.t 14)), (some (12, true)), 255⟩,
 ⟨some 16, (.load 1 false (.t 15)), (some (12, true)), 511⟩,
 ⟨some 17, (.mv (.t 0)), (some (12, true)), 63⟩,
 ⟨some 18, (.chk (.t 17)), (some (12, true)), 1087⟩,
 ⟨some 19, (.fld 0 (.t 18)), (some (12, true)), 3135⟩,
 ⟨some 20, (.load 1 false (.t 19)), (some (12, true)), 7231⟩,
 ⟨some 21, (.lenS (.t 20)), (some (12, true)), 15423⟩,
 ⟨some 22, (.bin .lss (.t 16) (.t 21)), (some (12, true)), 32767⟩,
 ⟨some 23, (.pick (.t 12) (.t 22) (.c (.bool false))), none, 65535⟩,
 ⟨some 24, (.mv (.t 23)), none, 131071⟩,
 ⟨some 25, (.mv (.t 0)), (some (24, true)), 262143⟩,
 ⟨some 26, (.call 228 [(.t 25), (.c (.int .u8 124))]), (some (24, true)), 524287⟩,
 ⟨some 27, (.un .not (.t 26)), (some (24, true)), 1048575⟩,
 ⟨some 28, (.pick (.t 24) (.t 27) (.c (.bool false))), none, 2097151⟩,
 ⟨some 29, (.mv (.t 28)), none, 4194303⟩,
 ⟨some 30, (.mv (.t 0)), (some (29, true)), 8388607⟩,
 ⟨some 31, (.call 228 [(.t 30), (.c (.int .u8 41))]), (some (29, true)), 16777215⟩,
 ⟨some 32, (.un .not (.t 31)), (some (29, true)), 33554431⟩,
 ⟨some 33, (.pick (.t 29) (.t 32) (.c (.bool false))), none, 67108863⟩] [])
 (.cond (.t 33) .skip (.exit 0)))
 (.block 1 (.region [A 34 (.mv (.t 3)),
 A 35 (.mv (.t 0)),
 A 36 (.call 234 [(.t 35)]),
 A 37 (.lit 63 6 1 [(.int .i64 0), (.int .u64 0), (.int .u64 0), (.int .u64 0), (.int .u64 0), .nil] [(0, (.t 36))]),
 A 38 (.app 63 6 64 (.t 34) (.t 37)),
 A 3 (.mv (.t 38))] [])))))
 (.seq (.seq (.region [A 39 (.mv (.t 3)),
 A 40 (.len (.t 39)),
 A 41 (.bin .eql (.t 40) (.c (.int .i64 1)))] [])
 (.cond (.t 41) (.seq (.region [A 42 (.mv (.t 3)),
 A 43 (.ixa 6 (.t 42) (.c (.int .i64 0))),
 A 44 (.load 6 true (.t 43)),
 ⟨none, (.store 6 (.t 2) (.t 44)), none, 0⟩] [])
 .ret) .skip))
 (.seq (.region [A 45 (.mv (.t 3)),
 A 46 (.build [(.int .i64 0), (.int .u64 0), (.int .u64 0), (.int .u64 0), (.int .u64 0), .nil] [(0, 1, (.c (.int .i64 2))), (5, 1, (.t 45))]),
 ⟨none, (.store 6 (.t 2) (.t 46)), none, 0⟩] [])
 .ret))))) }
def a228 : AFunc :=
 { np := 2, nt := 28, mv := false, res := [(.tmp 4)], code :=
 (.seq (.region [A 4 (.mv (.c (.bool false)))] [])
 (.seq (.region [A 5 (.mv (.t 0)),
 ⟨some 6, (.chk (.t 5)), none, 1⟩,
 ⟨some 7, (.fld 1 (.t 6)), none, 3⟩,
 ⟨some 8, (.load 1 false (.t 7)), none, 7⟩,
 A 9 (.mv (.t 0)),
 ⟨some 10, (.chk (.t 9)), none, 16⟩,
 ⟨some 11, (.fld 0 (.t 10)), none, 48⟩,
 ⟨some 12, (.load 1 false (.t 11)), none, 112⟩,
 ⟨some 13, (.lenS (.t 12)), none, 240⟩,
 ⟨some 14, (.bin .lss (.t 8) (.t 13)), none, 511⟩,
 ⟨some 15, (.mv (.t 14)), none, 1023⟩,
 ⟨some 16, (.mv (.t 0)), (some (15, true)), 2047⟩,
 ⟨some 17, (.chk (.t 16)), (some (15, true)), 4095⟩,
 ⟨some 18, (.fld 0 (.t 17)), (some (15, true)), 8191⟩,
 ⟨some 19, (.load 1 false (.t 18)), (some (15, true)), 16383⟩,
 ⟨some 20, (.mv (.t 0)), (some (15, true)), 2047⟩,
 ⟨some 21, (.chk (.t 20)), (some (15, true)), 34815⟩,
 ⟨some 22, (.fld 1 (.t 21)), (some (15, true)), 100351⟩,
 ⟨some 23, (.load 1 false (.t 22)), (some (15, true)), 231423⟩,
 ⟨some 24, (.ixs (.t 19) (.t 23)), (some (15, true)), 524287⟩,
 ⟨some 25, (.mv (.t 1)), (some (15, true)), 2047⟩,
 ⟨some 26, (.bin .eql (.t 24) (.t 25)), (some (15, true)), 2097151⟩,
 ⟨some 27, (.pick (.t 15) (.t 26) (.c (.bool false))), none, 4194303⟩,
 ⟨some 4, (.mv (.t 27)), none, 8388607⟩] [])
 .ret)) }
def a229 : AFunc :=
 { np := 2, nt := 90, mv := false, res := [(.tmp 4), (.tmp 5)], code :=
 (.seq (.region [A 4 (.mv (.c (.int .u8 0))),
 A 5 (.mv (.c (.int .i64 0)))] [])
 (.seq (.seq (.region [A 7 (.mv (.t 1)),
 A 8 (.mv (.t 0)),
 A 9 (.lenS (.t 8)),
 A 10 (.bin .geq (.t 7) (.t 9))] [])
 (.cond (.t 10) (.seq (.region [A 4 (.mv (.c (.int .u8 0))),
 A 5 (.mv (.c (.int .i64 (-1))))] [])
 .ret) .skip))
 (.seq (.region [A 11 (.mv (.t 0)),
 A 12 (.mv (.t 1)),
 A 13 (.ixs (.t 11) (.t 12)),
 A 6 (.mv (.t 13))] [])
 (.seq (.seq (.region [A 14 (.mv (.t 6)),
 A 15 (.bin .neq (.t 14) (.c (.int .u8 92)))] [])
 (.cond (.t 15) (.seq (.seq (.region [A 16 (.mv (.t 6)),
 A 17 (.bin .lss (.t 16) (.c (.int .u8 33))),
 A 18 (.mv (.t 17)),
 ⟨some 19, (.mv (.t 6)), (some (18, false)), 0⟩,
 ⟨some 20, (.bin .gtr (.t 19) (.c (.int .u8 126))), (some (18, false)), 0⟩,
 A 21 (.pick (.t 18) (.c (.bool true)) (.t 20)),
 A 22 (.mv (.t 21)),
 ⟨some 23, (.mv (.t 6)), (some (22, false)), 0⟩,
 ⟨some 24, (.call 235 [(.c (.str ⟨#[92, 124, 42, 43, 63, 40, 41, 91, 93, 46, 94, 45]⟩)), (.t 23)]), (some (22, false)), 0⟩,
 A 25 (.pick (.t 22) (.c (.bool true)) (.t 24))] [])
 (.cond (.t 25) (.seq (.region [A 4 (.mv (.c (.int .u8 0))),
 A 5 (.mv (.c (.int .i64 (-1))))] [])
 .ret) .skip))
 (.seq (.region [A 26 (.mv (.t 6)),
 A 27 (.mv (.t 1)),
 A 28 (.bin .add (.t 27) (.c (.int .i64 1))),
 A 4 (.mv (.t 26)),
 A 5 (.mv (.t 28))] [])
 .ret)) .skip))
 (.seq (.seq (.region [A 29 (.mv (.t 1)),
 A 30 (.bin .add (.t 29) (.c (.int .i64 1))),
 A 31 (.mv (.t 0)),
 A 32 (.lenS (.t 31)),
 A 33 (.bin .lss (.t 30) (.t 32)),
 A 34 (.mv (.t 33)),
 ⟨some 35, (.mv (.t 0)), (some (34, true)), 0⟩,
 ⟨some 36, (.mv (.t 1)), (some (34, true)), 0⟩,
 ⟨some 37, (.bin .add (.t 36) (.c (.int .i64 1))), (some (34, true)), 0⟩,
 ⟨some 38, (.ixs (.t 35) (.t 37)), (some (34, true)), 0⟩,
 ⟨some 39, (.call 235 [(.c (.str ⟨#[92, 124, 42, 43, 63, 40, 41, 91, 93, 46, 94, 45]⟩)), (.t 38)]), (some (34, true)), 0⟩,
 A 40 (.pick (.t 34) (.t 39) (.c (.bool false)))] [])
 (.cond (.t 40) (.seq (.region [A 41 (.mv (.t 0)),
 A 42 (.mv (.t 1)),
 A 43 (.bin .add (.t 42) (.c (.int .i64 1))),
 A 44 (.ixs (.t 41) (.t 43)),
 A 45 (.mv (.t 1)),
 A 46 (.bin .add (.t 45) (.c (.int .i64 2))),
 A 4 (.mv (.t 44)),
 A 5 (.mv (.t 46))] [])
 .ret) .skip))
 (.seq (.seq (.region [A 47 (.mv (.t 1)),
 A 48 (.bin .add (.t 47) (.c (.int .i64 3))),
 A 49 (.mv (.t 0)),
 A 50 (.lenS (.t 49)),
 A 51 (.bin .lss (.t 48) (.t 50)),
 A 52 (.mv (.t 51)),
 ⟨some 53, (.mv (.t 0)), (some (52, true)), 0⟩,
 ⟨some 54, (.mv (.t 1)), (some (52, true)), 0⟩,
 ⟨some 55, (.bin .add (.t 54) (.c (.int .i64 1))), (some (52, true)), 0⟩,
 ⟨some 56, (.ixs (.t 53) (.t 55)), (some (52, true)), 0⟩,
 ⟨some 57, (.bin .eql (.t 56) (.c (.int .u8 120))), (some (52, true)), 0⟩,
 A 58 (.pick (.t 52) (.t 57) (.c (.bool false))),
 A 59 (.mv (.t 58)),
 ⟨some 60, (.mv (.t 0)), (some (59, true)), 0⟩,
 ⟨some 61, (.mv (.t 1)), (some (59, true)), 0⟩,
 ⟨some 62, (.bin .add (.t 61) (.c (.int .i64 2))), (some (59, true)), 0⟩,
 ⟨some 63, (.ixs (.t 60) (.t 62)), (some (59, true)), 0⟩,
 ⟨some 64, (.call 236 [(.t 63)]), (some (59, true)), 0⟩,
 ⟨some 65, (.bin .geq (.t 64) (.c (.int .i64 0))), (some (59, true)), 0⟩,
 A 66 (.pick (.t 59) (.t 65) (.c (.bool false))),
 A 67 (.mv (.t 66)),
 ⟨some 68, (.mv (.t 0)), (some (67, true)), 0⟩,
 ⟨some 69, (.mv (.t 1)), (some (67, true)), 0⟩,
 ⟨some 70, (.bin .add (.t 69) (.c (.int .i64 3))), (some (67, true)), 0⟩,
 ⟨some 71, (.ixs (.t 68) (.t 70)), (some (67, true)), 0⟩,
 ⟨some 72, (.call 236 [(.t 71)]), (some (67, true)), 0⟩,
 ⟨some 73, (.bin .geq (.t 72) (.c (.int .i64 0))), (some (67, true)), 0⟩,
 A 74 (.pick (.t 67) (.t 73) (.c (.bool false)))] [])
 (.cond (.t 74) (.seq (.region [A 75 (.mv (.t 0)),
 A 76 (.mv (.t 1)),
 ⟨some 77, (.bin .add (.t 76) (.c (.int .i64 2))), none, 2⟩,
 ⟨some 78, (.ixs (.t 75) (.t 77)), none, 7⟩,
 ⟨some 79, (.call 236 [(.t 78)]), none, 15⟩,
 ⟨some 80, (.bin .mul (.t 79) (.c (.int .i64 16))), none, 31⟩,
 A 81 (.mv (.t 0)),
 A 82 (.mv (.t 1)),
 ⟨some 83, (.bin .add (.t 82) (.c (.int .i64 3))), none, 128⟩,
 ⟨some 84, (.ixs (.t 81) (.t 83)), none, 448⟩,
 ⟨some 85, (.call 236 [(.t 84)]), none, 991⟩,
 ⟨some 86, (.bin .add (.t 80) (.t 85)), none, 2047⟩,
 ⟨some 87, (.conv .u8 (.t 86)), none, 4095⟩,
 A 88 (.mv (.t 1)),
 ⟨some 89, (.bin .add (.t 88) (.c (.int .i64 4))), none, 8192⟩,
 ⟨some 4, (.mv (.t 87)), none, 8191⟩,
 ⟨some 5, (.mv (.t 89)), none, 65535⟩] [(5, 10), (6, 4), (7, 4), (8, 4), (9, 4), (13, 4), (13, 10), (14, 4), (14, 10)])
 .ret) .skip))
 (.seq (.region [A 4 (.mv (.c (.int .u8 0))),
 A 5 (.mv (.c (.int .i64 (-1))))] [])
 .ret))))))) }
def a233 : AFunc :=
 { np := 1, nt := 6, mv := false, res := [(.tmp 2)], code :=
 (.seq (.region [A 2 (.mv (.c (.bool false)))] [])
 (.seq (.region [A 3 (.mv (.t 0)),
 A 4 (.mv (.t 0)),
 A 5 (.bin .neq (.t 3) (.t 4)),
 A 2 (.mv (.t 5))] [])
 .ret)) }
def a234 : AFunc :=
 { np := 1, nt := 37, mv := false, res := [(.cell 2 6 true)], code :=
 (.seq (.region [A 2 (.alloc 63 [(.v (.int .i64 0)), (.v (.int .u64 0)), (.v (.int .u64 0)), (.v (.int .u64 0)), (.v (.int .u64 0)), (.v .nil)])] [])
 (.seq (.region [A 6 (.mv (.t 0)),
 A 7 (.call 238 [(.t 6)]),
 A 3 (.alloc 63 [(.v (.int .i64 0)), (.v (.int .u64 0)), (.v (.int .u64 0)), (.v (.int .u64 0)), (.v (.int .u64 0)), (.v .nil)]),
 ⟨none, (.store 6 (.t 3) (.t 7)), none, 0⟩] [])
 (.seq (.region [A 4 (.mv (.c (.str ⟨#[42, 43, 63]⟩)))] [])
 (.seq (.seq (.region [A 5 (.mv (.c (.int .i64 0)))] [])
 (.block 0 (.loop [0, 2, 3, 4, 5, 18, 19, 20, 21, 22] (.seq (.seq (.region [A 8 (.mv (.t 5)),
 A 9 (.bin .lss (.t 8) (.c (.int .i64 3)))] [])
 (.cond (.t 9) .skip (.exit 0)))
 (.seq (.block 1 (.seq (.region [A 12 (.mv (.t 0)),
 A 13 (.chk (.t 12)),
 A 14 (.fld 3 (.t 13)),
 A 15 (.load 1 false (.t 14)),
 A 16 (.bin .eql (.t 15) (.c (.int .i64 0))),
 A 17 (.mv (.t 16)),
 ⟨some 18, (.mv (.t 0)), (some (17, true)), 0⟩,
 ⟨some 19, (.mv (.t 4)), (some (17, true)), 0⟩,
 ⟨some 20, (.mv (.t 5)), (some (17, true)), 0⟩,
 ⟨some 21, (.ixs (.t 19) (.t 20)), (some (17, true)), 0⟩,
 ⟨some 22, (.call 228 [(.t 18), (.t 21)]), (some (17, true)), 0⟩,
 A 23 (.pick (.t 17) (.t 22) (.c (.bool false)))] [])
 (.cond (.t 23) (.seq (.region [A 24 (.mv (.t 0)),
 A 25 (.chk (.t 24)),
 A 26 (.fld 1 (.t 25)),
 A 27 (.load 1 false (.t 26)),
 A 28 (.bin .add (.t 27) (.c (.int .i64 1))),
 A 29 (.chk (.t 24)),
 A 30 (.fld 1 (.t 29)),
 ⟨none, (.store 1 (.t 30) (.t 28)), none, 0⟩] [])
 (.seq (.region [A 31 (.mv (.t 5)),
 A 32 (.bin .add (.c (.int .i64 4)) (.t 31)),
 A 33 (.load 6 true (.t 3)),
 A 34 (.lit 63 6 1 [(.int .i64 0), (.int .u64 0), (.int .u64 0), (.int .u64 0), (.int .u64 0), .nil] [(0, (.t 33))]),
 A 35 (.build [(.int .i64 0), (.int .u64 0), (.int .u64 0), (.int .u64 0), (.int .u64 0), .nil] [(0, 1, (.t 32)), (5, 1, (.t 34))]),
 ⟨none, (.store 6 (.t 2) (.t 35)), none, 0⟩] [])
 .ret)) .skip)))
 (.region [A 10 (.mv (.t 5)),
 A 11 (.bin .add (.t 10) (.c (.int .i64 1))),
 A 5 (.mv (.t 11))] []))))))
 (.seq (.region [A 36 (.load 6 true (.t 3)),
 ⟨none, (.store 6 (.t 2) (.t 36)), none, 0⟩] [])
 .ret))))) }
def a235 : AFunc :=
 { np := 2, nt := 17, mv := false, res := [(.tmp 4)], code :=
 (.seq (.region [A 4 (.mv (.c (.bool false)))] [])
 (.seq (.seq (.region [A 5 (.mv (.c (.int .i64 0)))] [])
 (.block 0 (.loop [0, 1, 5] (.seq (.seq (.region [A 6 (.mv (.t 5)),
 A 7 (.mv (.t 0)),
 A 8 (.lenS (.t 7)),
 A 9 (.bin .lss (.t 6) (.t 8))] [])
 (.cond (.t 9) .skip (.exit 0)))
 (.seq (.block 1 (.seq (.region [A 12 (.mv (.t 0)),
 A 13 (.mv (.t 5)),
 A 14 (.ixs (.t 12) (.t 13)),
 A 15 (.mv (.t 1)),
 A 16 (.bin .eql (.t 14) (.t 15))] [])
 (.cond (.t 16) (.seq (.region [A 4 (.mv (.c (.bool true)))] [])
 .ret) .skip)))
 (.region [A 10 (.mv (.t 5)),
 A 11 (.bin .add (.t 10) (.c (.int .i64 1))),
 A 5 (.mv (.t 11))] []))))))
 (.seq (.region [A 4 (.mv (.c (.bool false)))] [])
 .ret))) }
def a236 : AFunc :=
 { np := 1, nt := 13, mv := false, res := [(.tmp 2)], code :=
 (.seq (.region [A 2 (.mv (.c (.int .i64 0)))] [])
 (.seq (.seq (.region [A 3 (.mv (.c (.int .i64 0)))] [])
 (.block 0 (.loop [0, 3] (.seq (.seq (.region [A 4 (.mv (.t 3)),
 A 5 (.bin .lss (.t 4) (.c (.int .i64 16)))] [])
 (.cond (.t 5) .skip (.exit 0)))
 (.seq (.block 1 (.seq (.region [A 8 (.mv (.t 3)),
 A 9 (.ixs (.c (.str ⟨#[48, 49, 50, 51, 52, 53, 54, 55, 56, 57, 97, 98, 99, 100, 101, 102]⟩)) (.t 8)),
 A 10 (.mv (.t 0)),
 A 11 (.bin .eql (.t 9) (.t 10))] [])
 (.cond (.t 11) (.seq (.region [A 12 (.mv (.t 3)),
 A 2 (.mv (.t 12))] [])
 .ret) .skip)))
 (.region [A 6 (.mv (.t 3)),
 A 7 (.bin .add (.t 6) (.c (.int .i64 1))),
 A 3 (.mv (.t 7))] []))))))
 (.seq (.region [A 2 (.mv (.c (.int .i64 (-1))))] [])
 .ret))) }
def a238 : AFunc :=
 { np := 1, nt := 89, mv := false, res := [(.cell 2 6 true)], code :=
 (.seq (.region [A 2 (.alloc 63 [(.v (.int .i64 0)), (.v (.int .u64 0)), (.v (.int .u64 0)), (.v (.int .u64 0)), (.v (.int .u64 0)), (.v .nil)])] [])
 (.seq (.seq (.region [A 7 (.mv (.t 0)),
 A 8 (.call 228 [(.t 7), (.c (.int .u8 40))])] [])
 (.cond (.t 8) (.seq (.seq (.region [A 9 (.mv (.t 0)),
 A 10 (.chk (.t 9)),
 A 11 (.fld 2 (.t 10)),
 A 12 (.load 1 false (.t 11)),
 A 13 (.bin .gtr (.t 12) (.c (.int .i64 12)))] [])
 (.cond (.t 13) (.seq (.region [A 14 (.mv (.t 0)),
 A 15 (.call 214 [(.t 14), (.c (.int .i64 6))])] [])
 (.seq (.region [A 16 (.build [(.int .i64 0), (.int .u64 0), (.int .u64 0), (.int .u64 0), (.int .u64 0), .nil] []),
 ⟨none, (.store 6 (.t 2) (.t 16)), none, 0⟩] [])
 .ret)) .skip))
 (.seq (.region [A 17 (.mv (.t 0)),
 A 18 (.chk (.t 17)),
 A 19 (.fld 2 (.t 18)),
 A 20 (.load 1 false (.t 19)),
 A 21 (.bin .add (.t 20) (.c (.int .i64 1))),
 A 22 (.chk (.t 17)),
 A 23 (.fld 2 (.t 22)),
 ⟨none, (.store 1 (.t 23) (.t 21)), none, 0⟩] [])
 (.seq (.region [A 24 (.mv (.t 0)),
 A 25 (.chk (.t 24)),
 A 26 (.fld 1 (.t 25)),
 A 27 (.load 1 false (.t 26)),
 A 28 (.bin .add (.t 27) (.c (.int .i64 1))),
 A 29 (.chk (.t 24)),
 A 30 (.fld 1 (.t 29)),
 ⟨none, (.store 1 (.t 30) (.t 28)), none, 0⟩] [])
 (.seq (.region [A 31 (.mv (.t 0)),
 A 32 (.call 213 [(.t 31)]),
 A 3 (.alloc 63 [(.v (.int .i64 0)), (.v (.int .u64 0)), (.v (.int .u64 0)), (.v (.int .u64 0)), (.v (.int .u64 0)), (.v .nil)]),
 ⟨none, (.store 6 (.t 3) (.t 32)), none, 0⟩] [])
 (.seq (.seq (.region [A 33 (.mv (.t 0)),
 A 34 (.call 228 [(.t 33), (.c (.int .u8 41))]),
 A 35 (.un .not (.t 34))] [])
 (.cond (.t 35) (.region [A 36 (.mv (.t 0)),
 A 37 (.call 214 [(.t 36), (.c (.int .i64 2))])] []) .skip))
 (.seq (.region [A 38 (.mv (.t 0)),
 A 39 (.chk (.t 38)),
 A 40 (.fld 1 (.t 39)),
 A 41 (.load 1 false (.t 40)),
 A 42 (.bin .add (.t 41) (.c (.int .i64 1))),
 A 43 (.chk (.t 38)),
 A 44 (.fld 1 (.t 43)),
 ⟨none, (.store 1 (.t 44) (.t 42)), none, 0⟩] [])
 (.seq (.region [A 45 (.mv (.t 0)),
 A 46 (.chk (.t 45)),
 A 47 (.fld 2 (.t 46)),
 A 48 (.load 1 false (.t 47)),
 A 49 (.bin .sub (.t 48) (.c (.int .i64 1))),
 A 50 (.chk (.t 45)),
 A 51 (.fld 2 (.t 50)),
 ⟨none, (.store 1 (.t 51) (.t 49)), none, 0⟩] [])
 (.seq (.region [A 52 (.load 6 true (.t 3)),
 ⟨none, (.store 6 (.t 2) (.t 52)), none, 0⟩] [])
 .ret)))))))) .skip))
 (.seq (.region [A 54 (.mv (.t 0)),
 ⟨some 55, (.chk (.t 54)), none, 1⟩,
 ⟨some 56, (.fld 0 (.t 55)), none, 3⟩,
 ⟨some 57, (.load 1 false (.t 56)), none, 7⟩,
 A 58 (.mv (.t 0)),
 ⟨some 59, (.chk (.t 58)), none, 16⟩,
 ⟨some 60, (.fld 1 (.t 59)), none, 48⟩,
 ⟨some 61, (.load 1 false (.t 60)), none, 112⟩,
 A 62 (.mv (.t 0)),
 ⟨some 63, (.chk (.t 62)), none, 256⟩,
 ⟨some 64, (.fld 0 (.t 63)), none, 768⟩,
 ⟨some 65, (.load 1 false (.t 64)), none, 1792⟩,
 ⟨some 66, (.lenS (.t 65)), none, 3840⟩,
 ⟨some 67, (.mn (.t 61) (.t 66)), none, 8176⟩,
 ⟨some 68, (.cutS (.t 57) (some (.t 67)) none), none, 16383⟩,
 ⟨some 69, (.call 215 [(.t 68)]), none, 32767⟩,
 ⟨some 53, (.mv (.t 69)), none, 65535⟩,
 ⟨some 70, (.ext (.t 53) 0), none, 131071⟩,
 ⟨some 71, (.ext (.t 53) 1), none, 131071⟩,
 ⟨some 72, (.ext (.t 53) 2), none, 131071⟩,
 A 4 (.galloc 60 4),
 ⟨some 4, (.gstore 60 4 4 (.t 70)), none, 1310719⟩,
 ⟨some 5, (.mv (.t 71)), none, 3670015⟩,
 ⟨some 6, (.mv (.t 72)), none, 8388607⟩] [(18, 21), (19, 21), (20, 15)])
 (.seq (.seq (.region [A 73 (.mv (.t 6)),
 A 74 (.bin .neq (.t 73) (.c (.int .i64 0)))] [])
 (.cond (.t 74) (.region [A 75 (.mv (.t 0)),
 A 76 (.mv (.t 6)),
 A 77 (.call 214 [(.t 75), (.t 76)])] []) .skip))
 (.seq (.region [A 78 (.mv (.t 0)),
 A 79 (.mv (.t 0)),
 A 80 (.chk (.t 79)),
 A 81 (.fld 1 (.t 80)),
 A 82 (.load 1 false (.t 81)),
 A 83 (.mv (.t 5)),
 A 84 (.bin .add (.t 82) (.t 83)),
 A 85 (.chk (.t 78)),
 A 86 (.fld 1 (.t 85)),
 ⟨none, (.store 1 (.t 86) (.t 84)), none, 0⟩] [])
 (.seq (.region [A 87 (.load 4 true (.t 4)),
 A 88 (.build [(.int .i64 0), (.int .u64 0), (.int .u64 0), (.int .u64 0), (.int .u64 0), .nil] [(0, 1, (.c (.int .i64 1))), (1, 4, (.t 87))]),
 ⟨none, (.store 6 (.t 2) (.t 88)), none, 0⟩] [])
 .ret)))))) }
end Go.Vm.T
