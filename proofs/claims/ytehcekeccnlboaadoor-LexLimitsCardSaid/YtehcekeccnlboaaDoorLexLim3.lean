/- Proof that LexLimits (the greatest number and one more, a text as long as may be and one more) returns true, for the program as translated, under the conditions of its given row and card: over a machine on plain data that is proved sound for the model. Part 4 of 5: DIr1, DIr, PmxEv, DLex1, PmxLib, DLex2, DS1, DLex3, DLex4, DLex5, DLex6, DLex7, DLex8, DLex9, DOk, DLexA, DLexB, DLexO, DShelf, DLexP -/
import Derived.Test.YtehcekeccnlboaaDoorLexLim2
import Derived.Laws.BitsLemmas
import Derived.Laws.Bits64
import Derived.Lib.ParseIntB
import Derived.KernelRfl
import Derived.Test.YtehcekeccnlboaaDoorProg
import Derived.Lib.IndexMore
import Derived.Shelf.Pu.ParseUintPublic10
import Derived.Shelf.Strings.Search3

section
set_option linter.unusedSimpArgs false
set_option linter.unusedVariables false
set_option linter.unusedSectionVars false
/- The code of the functions, as the pure machine has it: by a program of this session out of the loaded translation; PmxOk holds it to the model's. -/
set_option maxRecDepth 100000
namespace Go.Pm
/-- (*troth/expr.Expr).part -/
def i89 : AFunc := ⟨2, 15, [.tmp 4],
  (.seq (.region [⟨some 4, none, .mov (.c (.str []))⟩] [0, 1])
  (.seq (.seq (.region [⟨some 5, none, .mov (.t 0)⟩,
    ⟨some 6, none, .call false 90 [(.t 5)]⟩,
    ⟨some 7, none, .mov (.t 1)⟩,
    ⟨some 8, none, .bin .lss (.t 6) (.t 7)⟩] [0, 8])
  (.cond (.t 8) (.seq (.region [⟨some 9, none, .mov (.t 0)⟩,
    ⟨some 10, none, .call false 44 [(.t 9)]⟩,
    ⟨some 11, none, .bin .add (.c (.str [40])) (.t 10)⟩,
    ⟨some 12, none, .bin .add (.t 11) (.c (.str [41]))⟩,
    ⟨some 4, none, .mov (.t 12)⟩] [4])
  .ret)
  .skip))
  (.seq (.region [⟨some 13, none, .mov (.t 0)⟩,
    ⟨some 14, none, .call false 44 [(.t 13)]⟩,
    ⟨some 4, none, .mov (.t 14)⟩] [4])
  .ret)))⟩

/-- (*troth/expr.Expr).strength -/
def i90 : AFunc := ⟨1, 13, [.tmp 2],
  (.seq (.region [⟨some 2, none, .mov (.c (.int .i64 0))⟩] [0])
  (.seq (.seq (.region [⟨some 3, none, .mov (.t 0)⟩,
    ⟨some 4, none, .nilchk (.t 3)⟩,
    ⟨some 5, none, .faddr 0 (.t 4)⟩,
    ⟨some 6, none, .load none (.t 5)⟩,
    ⟨some 7, none, .bin .lss (.t 6) (.c (.int .u8 4))⟩] [0, 7])
  (.cond (.t 7) (.seq (.region [⟨some 2, none, .mov (.c (.int .i64 5))⟩] [2])
  .ret)
  .skip))
  (.seq (.region [⟨some 8, none, .mov (.t 0)⟩,
    ⟨some 9, none, .nilchk (.t 8)⟩,
    ⟨some 10, none, .faddr 1 (.t 9)⟩,
    ⟨some 11, none, .load none (.t 10)⟩,
    ⟨some 12, none, .call false 112 [(.t 11)]⟩,
    ⟨some 2, none, .mov (.t 12)⟩] [2])
  .ret)))⟩

/-- (*troth/expr.Expr).plain -/
def i91 : AFunc := ⟨1, 35, [.cell 2 (some 8)],
  (.seq (.region [⟨some 2, none, .alloc [(.int .u8 0), (.int .u8 0), (.int .u64 0), (.int .u8 0), (.int .u8 0), (.int .u8 0), .nilp, .nilp] 38⟩] [0, 2])
  (.seq (.region [⟨some 4, none, .mov (.t 0)⟩,
    ⟨some 5, none, .nilchk (.t 4)⟩,
    ⟨some 6, none, .load (some 8) (.t 5)⟩,
    ⟨some 3, none, .alloc [(.int .u8 0), (.int .u8 0), (.int .u64 0), (.int .u8 0), (.int .u8 0), (.int .u8 0), .nilp, .nilp] 38⟩,
    ⟨none, none, .store 8 (.t 3) (.t 6)⟩] [0, 2, 3])
  (.seq (.seq (.region [⟨some 7, none, .mov (.t 0)⟩,
    ⟨some 8, none, .nilchk (.t 7)⟩,
    ⟨some 9, none, .faddr 0 (.t 8)⟩,
    ⟨some 10, none, .load none (.t 9)⟩] [2, 3, 10])
  (.block 0 (.seq (.region [⟨some 12, none, .bin .eql (.t 10) (.c (.int .u8 0))⟩,
    ⟨some 11, none, .mov (.t 12)⟩] [2, 3, 10, 11])
  (.cond (.t 11) (.region [⟨some 13, none, .faddr 2 (.t 3)⟩,
    ⟨none, none, .store 1 (.t 13) (.c (.int .u64 0))⟩] [2, 3])
  (.seq (.region [⟨some 15, none, .bin .eql (.t 10) (.c (.int .u8 1))⟩,
    ⟨some 14, none, .mov (.t 15)⟩] [2, 3, 10, 14])
  (.cond (.t 14) (.region [⟨some 16, none, .faddr 4 (.t 3)⟩,
    ⟨none, none, .store 1 (.t 16) (.c (.int .u8 0))⟩] [2, 3])
  (.seq (.region [⟨some 18, none, .bin .eql (.t 10) (.c (.int .u8 2))⟩,
    ⟨some 17, none, .mov (.t 18)⟩] [2, 3, 10, 17])
  (.cond (.t 17) (.region [⟨some 19, none, .faddr 3 (.t 3)⟩,
    ⟨none, none, .store 1 (.t 19) (.c (.int .u8 0))⟩,
    ⟨some 20, none, .faddr 4 (.t 3)⟩,
    ⟨none, none, .store 1 (.t 20) (.c (.int .u8 0))⟩] [2, 3])
  (.seq (.region [⟨some 22, none, .bin .eql (.t 10) (.c (.int .u8 3))⟩,
    ⟨some 21, none, .mov (.t 22)⟩] [2, 3, 10, 21])
  (.cond (.t 21) (.region [⟨some 23, none, .faddr 5 (.t 3)⟩,
    ⟨none, none, .store 1 (.t 23) (.c (.int .u8 0))⟩] [2, 3])
  (.seq (.region [⟨some 25, none, .bin .eql (.t 10) (.c (.int .u8 4))⟩,
    ⟨some 24, none, .mov (.t 25)⟩] [2, 3, 10, 24])
  (.cond (.t 24) (.region [⟨some 26, none, .faddr 1 (.t 3)⟩,
    ⟨none, none, .store 1 (.t 26) (.c (.int .u8 0))⟩,
    ⟨some 27, none, .faddr 6 (.t 3)⟩,
    ⟨none, none, .store 1 (.t 27) (.c .nilp)⟩] [2, 3])
  (.seq (.region [⟨some 29, none, .bin .eql (.t 10) (.c (.int .u8 5))⟩,
    ⟨some 28, none, .mov (.t 29)⟩] [2, 3, 28])
  (.cond (.t 28) (.region [⟨some 30, none, .faddr 1 (.t 3)⟩,
    ⟨none, none, .store 1 (.t 30) (.c (.int .u8 0))⟩,
    ⟨some 31, none, .faddr 6 (.t 3)⟩,
    ⟨none, none, .store 1 (.t 31) (.c .nilp)⟩,
    ⟨some 32, none, .faddr 7 (.t 3)⟩,
    ⟨none, none, .store 1 (.t 32) (.c .nilp)⟩] [2, 3])
  .skip))))))))))))))
  (.seq (.region [⟨some 33, none, .faddr 0 (.t 3)⟩,
    ⟨none, none, .store 1 (.t 33) (.c (.int .u8 0))⟩] [2, 3])
  (.seq (.region [⟨some 34, none, .load (some 8) (.t 3)⟩,
    ⟨none, none, .store 8 (.t 2) (.t 34)⟩] [2])
  .ret)))))⟩

/-- troth/num.Sides -/
def i92 : AFunc := ⟨1, 13, [.tmp 2],
  (.seq (.region [⟨some 2, none, .mov (.c (.int .i64 0))⟩] [0])
  (.seq (.block 0 (.seq (.region [⟨some 4, none, .mov (.t 0)⟩,
    ⟨some 5, none, .bin .lss (.t 4) (.c (.int .u8 1))⟩,
    ⟨some 6, none, .mov (.t 5)⟩,
    ⟨some 7, (some (6, false)), .mov (.t 0)⟩,
    ⟨some 8, (some (6, false)), .bin .gtr (.t 7) (.c (.int .u8 14))⟩,
    ⟨some 9, none, .pick (.t 6) (.c (.bool true)) (.t 8)⟩,
    ⟨some 3, none, .mov (.t 9)⟩] [0, 3])
  (.cond (.t 3) (.seq (.region [⟨some 2, none, .mov (.c (.int .i64 0))⟩] [2])
  .ret)
  (.seq (.region [⟨some 11, none, .mov (.t 0)⟩,
    ⟨some 12, none, .bin .geq (.t 11) (.c (.int .u8 13))⟩,
    ⟨some 10, none, .mov (.t 12)⟩] [10])
  (.cond (.t 10) (.seq (.region [⟨some 2, none, .mov (.c (.int .i64 1))⟩] [2])
  .ret)
  .skip)))))
  (.seq (.region [⟨some 2, none, .mov (.c (.int .i64 2))⟩] [2])
  .ret)))⟩

/-- troth/num.One -/
def i93 : AFunc := ⟨2, 15, [.tmp 4],
  (.seq (.region [⟨some 4, none, .mov (.c (.int .u64 0))⟩] [0, 1])
  (.seq (.seq (.region [⟨some 5, none, .mov (.t 0)⟩] [1, 5])
  (.block 0 (.seq (.region [⟨some 7, none, .bin .eql (.t 5) (.c (.int .u8 13))⟩,
    ⟨some 6, none, .mov (.t 7)⟩] [1, 5, 6])
  (.cond (.t 6) (.seq (.region [⟨some 8, none, .mov (.t 1)⟩,
    ⟨some 9, none, .bin .eql (.t 8) (.c (.int .u64 0))⟩,
    ⟨some 10, none, .call false 113 [(.t 9)]⟩,
    ⟨some 4, none, .mov (.t 10)⟩] [4])
  .ret)
  (.seq (.region [⟨some 12, none, .bin .eql (.t 5) (.c (.int .u8 14))⟩,
    ⟨some 11, none, .mov (.t 12)⟩] [1, 11])
  (.cond (.t 11) (.seq (.region [⟨some 13, none, .mov (.t 1)⟩,
    ⟨some 14, none, .un .neg (.t 13)⟩,
    ⟨some 4, none, .mov (.t 14)⟩] [4])
  .ret)
  .skip))))))
  (.seq (.region [⟨some 4, none, .mov (.c (.int .u64 0))⟩] [4])
  .ret)))⟩

def i94_L0 : ACode :=
  (.seq (.region [⟨some 6, none, .mov (.c (.int .u64 0))⟩] [6])
  .ret)

def i94_L1 : ACode :=
  (.seq (.seq (.region [⟨some 7, none, .mov (.t 0)⟩] [1, 2, 7])
  (.block 0 (.seq (.region [⟨some 9, none, .bin .eql (.t 7) (.c (.int .u8 1))⟩,
    ⟨some 8, none, .mov (.t 9)⟩] [1, 2, 7, 8])
  (.cond (.t 8) (.seq (.region [⟨some 10, none, .mov (.t 1)⟩,
    ⟨some 11, none, .mov (.t 2)⟩,
    ⟨some 12, none, .bin .eql (.t 10) (.t 11)⟩,
    ⟨some 13, none, .call false 113 [(.t 12)]⟩,
    ⟨some 6, none, .mov (.t 13)⟩] [6])
  .ret)
  (.seq (.region [⟨some 15, none, .bin .eql (.t 7) (.c (.int .u8 2))⟩,
    ⟨some 14, none, .mov (.t 15)⟩] [1, 2, 7, 14])
  (.cond (.t 14) (.seq (.region [⟨some 16, none, .mov (.t 1)⟩,
    ⟨some 17, none, .mov (.t 2)⟩,
    ⟨some 18, none, .bin .neq (.t 16) (.t 17)⟩,
    ⟨some 19, none, .call false 113 [(.t 18)]⟩,
    ⟨some 6, none, .mov (.t 19)⟩] [6])
  .ret)
  (.seq (.region [⟨some 21, none, .bin .eql (.t 7) (.c (.int .u8 3))⟩,
    ⟨some 20, none, .mov (.t 21)⟩] [1, 2, 7, 20])
  (.cond (.t 20) (.seq (.region [⟨some 22, none, .mov (.t 1)⟩,
    ⟨some 23, none, .mov (.t 2)⟩,
    ⟨some 24, none, .bin .lss (.t 22) (.t 23)⟩,
    ⟨some 25, none, .call false 113 [(.t 24)]⟩,
    ⟨some 6, none, .mov (.t 25)⟩] [6])
  .ret)
  (.seq (.region [⟨some 27, none, .bin .eql (.t 7) (.c (.int .u8 4))⟩,
    ⟨some 26, none, .mov (.t 27)⟩] [1, 2, 7, 26])
  (.cond (.t 26) (.seq (.region [⟨some 28, none, .mov (.t 1)⟩,
    ⟨some 29, none, .mov (.t 2)⟩,
    ⟨some 30, none, .bin .leq (.t 28) (.t 29)⟩,
    ⟨some 31, none, .call false 113 [(.t 30)]⟩,
    ⟨some 6, none, .mov (.t 31)⟩] [6])
  .ret)
  (.seq (.region [⟨some 33, none, .bin .eql (.t 7) (.c (.int .u8 5))⟩,
    ⟨some 32, none, .mov (.t 33)⟩] [1, 2, 7, 32])
  (.cond (.t 32) (.seq (.region [⟨some 34, none, .mov (.t 1)⟩,
    ⟨some 35, none, .mov (.t 2)⟩,
    ⟨some 36, none, .bin .add (.t 34) (.t 35)⟩,
    ⟨some 6, none, .mov (.t 36)⟩] [6])
  .ret)
  (.seq (.region [⟨some 38, none, .bin .eql (.t 7) (.c (.int .u8 6))⟩,
    ⟨some 37, none, .mov (.t 38)⟩] [1, 2, 7, 37])
  (.cond (.t 37) (.seq (.region [⟨some 39, none, .mov (.t 1)⟩,
    ⟨some 40, none, .mov (.t 2)⟩,
    ⟨some 41, none, .bin .sub (.t 39) (.t 40)⟩,
    ⟨some 6, none, .mov (.t 41)⟩] [6])
  .ret)
  (.seq (.region [⟨some 43, none, .bin .eql (.t 7) (.c (.int .u8 7))⟩,
    ⟨some 42, none, .mov (.t 43)⟩] [1, 2, 7, 42])
  (.cond (.t 42) (.seq (.region [⟨some 44, none, .mov (.t 1)⟩,
    ⟨some 45, none, .mov (.t 2)⟩,
    ⟨some 46, none, .bin .or (.t 44) (.t 45)⟩,
    ⟨some 6, none, .mov (.t 46)⟩] [6])
  .ret)
  (.seq (.region [⟨some 48, none, .bin .eql (.t 7) (.c (.int .u8 8))⟩,
    ⟨some 47, none, .mov (.t 48)⟩] [1, 2, 7, 47])
  (.cond (.t 47) (.seq (.region [⟨some 49, none, .mov (.t 1)⟩,
    ⟨some 50, none, .mov (.t 2)⟩,
    ⟨some 51, none, .bin .xor (.t 49) (.t 50)⟩,
    ⟨some 6, none, .mov (.t 51)⟩] [6])
  .ret)
  (.seq (.region [⟨some 53, none, .bin .eql (.t 7) (.c (.int .u8 12))⟩,
    ⟨some 52, none, .mov (.t 53)⟩] [1, 2, 7, 52])
  (.cond (.t 52) (.seq (.region [⟨some 54, none, .mov (.t 1)⟩,
    ⟨some 55, none, .mov (.t 2)⟩,
    ⟨some 56, none, .bin .and (.t 54) (.t 55)⟩,
    ⟨some 6, none, .mov (.t 56)⟩] [6])
  .ret)
  (.seq (.region [⟨some 58, none, .bin .eql (.t 7) (.c (.int .u8 9))⟩,
    ⟨some 57, none, .mov (.t 58)⟩] [1, 2, 7, 57])
  (.cond (.t 57) (.seq (.region [⟨some 59, none, .mov (.t 1)⟩,
    ⟨some 60, none, .mov (.t 2)⟩,
    ⟨some 61, none, .bin .mul (.t 59) (.t 60)⟩,
    ⟨some 6, none, .mov (.t 61)⟩] [6])
  .ret)
  (.seq (.region [⟨some 63, none, .bin .eql (.t 7) (.c (.int .u8 10))⟩,
    ⟨some 62, none, .mov (.t 63)⟩] [1, 2, 7, 62])
  (.cond (.t 62) (.seq (.seq (.region [⟨some 64, none, .mov (.t 2)⟩,
    ⟨some 65, none, .bin .eql (.t 64) (.c (.int .u64 0))⟩] [1, 2, 65])
  (.cond (.t 65) (.goto 0)
  .skip))
  (.seq (.region [⟨some 66, none, .mov (.t 1)⟩,
    ⟨some 67, none, .mov (.t 2)⟩,
    ⟨some 68, none, .bin .quo (.t 66) (.t 67)⟩,
    ⟨some 6, none, .mov (.t 68)⟩] [6])
  .ret))
  (.seq (.region [⟨some 70, none, .bin .eql (.t 7) (.c (.int .u8 11))⟩,
    ⟨some 69, none, .mov (.t 70)⟩] [1, 2, 69])
  (.cond (.t 69) (.seq (.seq (.region [⟨some 71, none, .mov (.t 2)⟩,
    ⟨some 72, none, .bin .eql (.t 71) (.c (.int .u64 0))⟩] [1, 2, 72])
  (.cond (.t 72) (.goto 0)
  .skip))
  (.seq (.region [⟨some 73, none, .mov (.t 1)⟩,
    ⟨some 74, none, .mov (.t 2)⟩,
    ⟨some 75, none, .bin .rem (.t 73) (.t 74)⟩,
    ⟨some 6, none, .mov (.t 75)⟩] [6])
  .ret))
  .skip))))))))))))))))))))))))))
  (.seq (.label 0)
  i94_L0))

/-- troth/num.Do -/
def i94 : AFunc := ⟨3, 76, [.tmp 6],
  (.seq (.region [⟨some 6, none, .mov (.c (.int .u64 0))⟩] [0, 1, 2])
  (.scope i94_L1))⟩

/-- troth/trothref01.Sides -/
def i95 : AFunc := ⟨1, 15, [.tmp 2],
  (.seq (.region [⟨some 2, none, .mov (.c (.int .i64 0))⟩] [0])
  (.seq (.seq (.region [⟨some 3, none, .mov (.t 0)⟩,
    ⟨some 4, none, .bin .eql (.t 3) (.c (.int .u8 13))⟩,
    ⟨some 5, none, .mov (.t 4)⟩,
    ⟨some 6, (some (5, false)), .mov (.t 0)⟩,
    ⟨some 7, (some (5, false)), .bin .eql (.t 6) (.c (.int .u8 14))⟩,
    ⟨some 8, none, .pick (.t 5) (.c (.bool true)) (.t 7)⟩] [0, 8])
  (.cond (.t 8) (.seq (.region [⟨some 2, none, .mov (.c (.int .i64 1))⟩] [2])
  .ret)
  .skip))
  (.seq (.seq (.region [⟨some 9, none, .mov (.t 0)⟩,
    ⟨some 10, none, .bin .gtr (.t 9) (.c (.int .u8 0))⟩,
    ⟨some 11, none, .mov (.t 10)⟩,
    ⟨some 12, (some (11, true)), .mov (.t 0)⟩,
    ⟨some 13, (some (11, true)), .bin .lss (.t 12) (.c (.int .u8 13))⟩,
    ⟨some 14, none, .pick (.t 11) (.t 13) (.c (.bool false))⟩] [14])
  (.cond (.t 14) (.seq (.region [⟨some 2, none, .mov (.c (.int .i64 2))⟩] [2])
  .ret)
  .skip))
  (.seq (.region [⟨some 2, none, .mov (.c (.int .i64 0))⟩] [2])
  .ret))))⟩

/-- troth/trothref03.Leaf -/
def i96 : AFunc := ⟨1, 37, [.tmp 2],
  (.seq (.region [⟨some 1, none, .ibox (.t 0)⟩,
    ⟨some 2, none, .mov (.c (.bool false))⟩] [1])
  (.seq (.seq (.region [⟨some 3, none, .faddr 0 (.t 1)⟩,
    ⟨some 4, none, .load none (.t 3)⟩] [1, 4])
  (.block 0 (.seq (.region [⟨some 6, none, .bin .eql (.t 4) (.c (.int .u8 0))⟩,
    ⟨some 5, none, .mov (.t 6)⟩] [1, 4, 5])
  (.cond (.t 5) (.seq (.region [⟨some 2, none, .mov (.c (.bool true))⟩] [2])
  .ret)
  (.seq (.region [⟨some 8, none, .bin .eql (.t 4) (.c (.int .u8 1))⟩,
    ⟨some 7, none, .mov (.t 8)⟩] [1, 4, 7])
  (.cond (.t 7) (.seq (.region [⟨some 9, none, .faddr 4 (.t 1)⟩,
    ⟨some 10, none, .load none (.t 9)⟩,
    ⟨some 11, none, .bin .lss (.t 10) (.c (.int .u8 8))⟩,
    ⟨some 2, none, .mov (.t 11)⟩] [2])
  .ret)
  (.seq (.region [⟨some 13, none, .bin .eql (.t 4) (.c (.int .u8 2))⟩,
    ⟨some 12, none, .mov (.t 13)⟩] [1, 4, 12])
  (.cond (.t 12) (.seq (.region [⟨some 14, none, .faddr 3 (.t 1)⟩,
    ⟨some 15, none, .load none (.t 14)⟩,
    ⟨some 16, none, .bin .lss (.t 15) (.c (.int .u8 4))⟩,
    ⟨some 17, none, .mov (.t 16)⟩,
    ⟨some 18, (some (17, true)), .faddr 4 (.t 1)⟩,
    ⟨some 19, (some (17, true)), .load none (.t 18)⟩,
    ⟨some 20, (some (17, true)), .bin .lss (.t 19) (.c (.int .u8 8))⟩,
    ⟨some 21, none, .pick (.t 17) (.t 20) (.c (.bool false))⟩,
    ⟨some 2, none, .mov (.t 21)⟩] [2])
  .ret)
  (.seq (.region [⟨some 23, none, .bin .eql (.t 4) (.c (.int .u8 3))⟩,
    ⟨some 22, none, .mov (.t 23)⟩] [1, 22])
  (.cond (.t 22) (.seq (.region [⟨some 24, none, .faddr 5 (.t 1)⟩,
    ⟨some 25, none, .load none (.t 24)⟩,
    ⟨some 26, none, .bin .geq (.t 25) (.c (.int .u8 97))⟩,
    ⟨some 27, none, .mov (.t 26)⟩,
    ⟨some 28, (some (27, true)), .faddr 5 (.t 1)⟩,
    ⟨some 29, (some (27, true)), .load none (.t 28)⟩,
    ⟨some 30, (some (27, true)), .bin .leq (.t 29) (.c (.int .u8 122))⟩,
    ⟨some 31, none, .pick (.t 27) (.t 30) (.c (.bool false))⟩,
    ⟨some 32, none, .mov (.t 31)⟩,
    ⟨some 33, (some (32, true)), .faddr 5 (.t 1)⟩,
    ⟨some 34, (some (32, true)), .load none (.t 33)⟩,
    ⟨some 35, (some (32, true)), .bin .neq (.t 34) (.c (.int .u8 114))⟩,
    ⟨some 36, none, .pick (.t 32) (.t 35) (.c (.bool false))⟩,
    ⟨some 2, none, .mov (.t 36)⟩] [2])
  .ret)
  .skip))))))))))
  (.seq (.region [⟨some 2, none, .mov (.c (.bool false))⟩] [2])
  .ret)))⟩

/-- troth/trothref01.truth -/
def i97 : AFunc := ⟨1, 4, [.tmp 2],
  (.seq (.region [⟨some 2, none, .mov (.c (.int .u64 0))⟩] [0])
  (.seq (.seq (.region [⟨some 3, none, .mov (.t 0)⟩] [3])
  (.cond (.t 3) (.seq (.region [⟨some 2, none, .mov (.c (.int .u64 1))⟩] [2])
  .ret)
  .skip))
  (.seq (.region [⟨some 2, none, .mov (.c (.int .u64 0))⟩] [2])
  .ret)))⟩

def i98_L0 : ACode :=
  (.seq (.seq (.region [⟨some 13, none, .mov (.t 9)⟩,
    ⟨some 14, none, .bin .lss (.t 13) (.c (.int .i64 64))⟩] [0, 1, 2, 7, 8, 9, 14])
  (.cond (.t 14) .skip
  (.exit 0)))
  (.seq (.block 1 (.seq (.region [⟨some 17, none, .mov (.t 1)⟩,
    ⟨some 18, none, .bin .rem (.t 17) (.c (.int .u64 2))⟩,
    ⟨some 19, none, .mov (.t 2)⟩,
    ⟨some 20, none, .bin .rem (.t 19) (.c (.int .u64 2))⟩,
    ⟨some 10, none, .mov (.t 18)⟩,
    ⟨some 11, none, .mov (.t 20)⟩] [0, 1, 2, 7, 8, 9, 10, 11])
  (.seq (.region [⟨some 21, none, .mov (.t 10)⟩,
    ⟨some 22, none, .mov (.t 11)⟩,
    ⟨some 23, none, .bin .add (.t 21) (.t 22)⟩,
    ⟨some 24, none, .bin .gtr (.t 23) (.c (.int .u64 0))⟩,
    ⟨some 12, none, .mov (.t 24)⟩] [0, 1, 2, 7, 8, 9, 10, 11, 12])
  (.seq (.seq (.region [⟨some 25, none, .mov (.t 0)⟩,
    ⟨some 26, none, .bin .eql (.t 25) (.c (.int .i64 1))⟩] [0, 1, 2, 7, 8, 9, 10, 11, 12, 26])
  (.cond (.t 26) (.region [⟨some 27, none, .mov (.t 10)⟩,
    ⟨some 28, none, .mov (.t 11)⟩,
    ⟨some 29, none, .bin .neq (.t 27) (.t 28)⟩,
    ⟨some 12, none, .mov (.t 29)⟩] [0, 1, 2, 7, 8, 9, 10, 11, 12])
  .skip))
  (.seq (.seq (.region [⟨some 30, none, .mov (.t 0)⟩,
    ⟨some 31, none, .bin .eql (.t 30) (.c (.int .i64 2))⟩] [0, 1, 2, 7, 8, 9, 10, 11, 12, 31])
  (.cond (.t 31) (.region [⟨some 32, none, .mov (.t 10)⟩,
    ⟨some 33, none, .mov (.t 11)⟩,
    ⟨some 34, none, .bin .add (.t 32) (.t 33)⟩,
    ⟨some 35, none, .bin .eql (.t 34) (.c (.int .u64 2))⟩,
    ⟨some 12, none, .mov (.t 35)⟩] [0, 1, 2, 7, 8, 9, 12])
  .skip))
  (.seq (.seq (.region [⟨some 36, none, .mov (.t 12)⟩] [0, 1, 2, 7, 8, 9, 36])
  (.cond (.t 36) (.region [⟨some 37, none, .mov (.t 7)⟩,
    ⟨some 38, none, .mov (.t 8)⟩,
    ⟨some 39, none, .bin .add (.t 37) (.t 38)⟩,
    ⟨some 7, none, .mov (.t 39)⟩] [0, 1, 2, 7, 8, 9])
  .skip))
  (.seq (.region [⟨some 40, none, .mov (.t 1)⟩,
    ⟨some 41, none, .bin .quo (.t 40) (.c (.int .u64 2))⟩,
    ⟨some 1, none, .mov (.t 41)⟩] [0, 1, 2, 7, 8, 9])
  (.seq (.region [⟨some 42, none, .mov (.t 2)⟩,
    ⟨some 43, none, .bin .quo (.t 42) (.c (.int .u64 2))⟩,
    ⟨some 2, none, .mov (.t 43)⟩] [0, 1, 2, 7, 8, 9])
  (.region [⟨some 44, none, .mov (.t 8)⟩,
    ⟨some 45, none, .bin .mul (.t 44) (.c (.int .u64 2))⟩,
    ⟨some 8, none, .mov (.t 45)⟩] [0, 1, 2, 7, 8, 9])))))))))
  (.region [⟨some 15, none, .mov (.t 9)⟩,
    ⟨some 16, none, .bin .add (.t 15) (.c (.int .i64 1))⟩,
    ⟨some 9, none, .mov (.t 16)⟩] [0, 1, 2, 7, 8, 9])))

/-- troth/trothref01.bitwise -/
def i98 : AFunc := ⟨3, 47, [.tmp 6],
  (.seq (.region [⟨some 6, none, .mov (.c (.int .u64 0))⟩] [0, 1, 2])
  (.seq (.region [⟨some 7, none, .mov (.c (.int .u64 0))⟩] [0, 1, 2, 7])
  (.seq (.region [⟨some 8, none, .mov (.c (.int .u64 1))⟩] [0, 1, 2, 7, 8])
  (.seq (.seq (.region [⟨some 9, none, .mov (.c (.int .i64 0))⟩] [0, 1, 2, 7, 8, 9])
  (.block 0 (.loop [0, 1, 2, 7, 8, 9] i98_L0)))
  (.seq (.region [⟨some 46, none, .mov (.t 7)⟩,
    ⟨some 6, none, .mov (.t 46)⟩] [6])
  .ret)))))⟩

def i99_L0 : ACode :=
  (.seq (.region [⟨some 102, none, .bin .lss (.t 101) (.t 100)⟩] [1, 8, 9, 10, 11, 12, 13, 99, 100, 101, 102])
  (.seq (.cond (.t 102) .skip
  (.exit 3))
  (.seq (.block 4 (.seq (.region [⟨some 103, none, .idxas 1 (.t 99) (.t 101)⟩,
    ⟨some 104, none, .load none (.t 103)⟩,
    ⟨some 15, none, .mov (.t 104)⟩] [1, 8, 9, 10, 11, 12, 13, 15, 99, 100, 101])
  (.seq (.region [⟨some 16, none, .mov (.c (.int .u8 0))⟩] [1, 8, 9, 10, 11, 12, 13, 15, 99, 100, 101])
  (.seq (.block 5 (.seq (.region [⟨some 107, none, .mov (.t 15)⟩,
    ⟨some 108, none, .bin .eql (.t 107) (.c (.int .u8 95))⟩,
    ⟨some 109, none, .mov (.t 108)⟩,
    ⟨some 110, (some (109, true)), .mov (.t 8)⟩,
    ⟨some 111, none, .pick (.t 109) (.t 110) (.c (.bool false))⟩,
    ⟨some 106, none, .mov (.t 111)⟩] [1, 8, 9, 10, 11, 12, 13, 15, 99, 100, 101, 106])
  (.cond (.t 106) (.seq (.region [⟨some 12, none, .mov (.c (.bool true))⟩] [1, 8, 9, 10, 11, 12, 13, 99, 100, 101])
  (.exit 4))
  (.seq (.region [⟨some 113, none, .mov (.t 15)⟩,
    ⟨some 114, none, .bin .leq (.c (.int .u8 48)) (.t 113)⟩,
    ⟨some 115, none, .mov (.t 114)⟩,
    ⟨some 116, (some (115, true)), .mov (.t 15)⟩,
    ⟨some 117, (some (115, true)), .bin .leq (.t 116) (.c (.int .u8 57))⟩,
    ⟨some 118, none, .pick (.t 115) (.t 117) (.c (.bool false))⟩,
    ⟨some 112, none, .mov (.t 118)⟩] [1, 8, 9, 10, 11, 12, 13, 15, 99, 100, 101, 112])
  (.cond (.t 112) (.region [⟨some 119, none, .mov (.t 15)⟩,
    ⟨some 120, none, .bin .sub (.t 119) (.c (.int .u8 48))⟩,
    ⟨some 16, none, .mov (.t 120)⟩] [1, 8, 9, 10, 11, 12, 13, 16, 99, 100, 101])
  (.seq (.region [⟨some 122, none, .mov (.t 15)⟩,
    ⟨some 123, none, .call false 114 [(.t 122)]⟩,
    ⟨some 124, none, .bin .leq (.c (.int .u8 97)) (.t 123)⟩,
    ⟨some 125, none, .mov (.t 124)⟩,
    ⟨some 126, (some (125, true)), .mov (.t 15)⟩,
    ⟨some 127, (some (125, true)), .call false 114 [(.t 126)]⟩,
    ⟨some 128, (some (125, true)), .bin .leq (.t 127) (.c (.int .u8 122))⟩,
    ⟨some 129, none, .pick (.t 125) (.t 128) (.c (.bool false))⟩,
    ⟨some 121, none, .mov (.t 129)⟩] [1, 8, 9, 10, 11, 12, 13, 15, 99, 100, 101, 121])
  (.cond (.t 121) (.region [⟨some 130, none, .mov (.t 15)⟩,
    ⟨some 131, none, .call false 114 [(.t 130)]⟩,
    ⟨some 132, none, .bin .sub (.t 131) (.c (.int .u8 97))⟩,
    ⟨some 133, none, .bin .add (.t 132) (.c (.int .u8 10))⟩,
    ⟨some 16, none, .mov (.t 133)⟩] [1, 8, 9, 10, 11, 12, 13, 16, 99, 100, 101])
  (.seq (.region [⟨some 105, none, .mkif 151 (.c (.int .i64 2))⟩,
    ⟨some 6, none, .mov (.c (.int .u64 0))⟩,
    ⟨some 7, none, .mov (.t 105)⟩] [6, 7])
  .ret))))))))
  (.seq (.seq (.region [⟨some 134, none, .mov (.t 16)⟩,
    ⟨some 135, none, .mov (.t 1)⟩,
    ⟨some 136, none, .cvi .u8 (.t 135)⟩,
    ⟨some 137, none, .bin .geq (.t 134) (.t 136)⟩] [1, 8, 9, 10, 11, 12, 13, 16, 99, 100, 101, 137])
  (.cond (.t 137) (.seq (.region [⟨some 138, none, .mkif 151 (.c (.int .i64 2))⟩,
    ⟨some 6, none, .mov (.c (.int .u64 0))⟩,
    ⟨some 7, none, .mov (.t 138)⟩] [6, 7])
  .ret)
  .skip))
  (.seq (.seq (.region [⟨some 139, none, .mov (.t 13)⟩,
    ⟨some 140, none, .mov (.t 10)⟩,
    ⟨some 141, none, .bin .geq (.t 139) (.t 140)⟩] [1, 8, 9, 10, 11, 12, 13, 16, 99, 100, 101, 141])
  (.cond (.t 141) (.seq (.region [⟨some 142, none, .mov (.t 11)⟩,
    ⟨some 143, none, .mkif 151 (.c (.int .i64 1))⟩,
    ⟨some 6, none, .mov (.t 142)⟩,
    ⟨some 7, none, .mov (.t 143)⟩] [6, 7])
  .ret)
  .skip))
  (.seq (.region [⟨some 144, none, .mov (.t 13)⟩,
    ⟨some 145, none, .mov (.t 1)⟩,
    ⟨some 146, none, .cvi .u64 (.t 145)⟩,
    ⟨some 147, none, .bin .mul (.t 144) (.t 146)⟩,
    ⟨some 13, none, .mov (.t 147)⟩] [1, 8, 9, 10, 11, 12, 13, 16, 99, 100, 101])
  (.seq (.region [⟨some 148, none, .mov (.t 13)⟩,
    ⟨some 149, none, .mov (.t 16)⟩,
    ⟨some 150, none, .cvi .u64 (.t 149)⟩,
    ⟨some 151, none, .bin .add (.t 148) (.t 150)⟩,
    ⟨some 17, none, .mov (.t 151)⟩] [1, 8, 9, 10, 11, 12, 13, 17, 99, 100, 101])
  (.seq (.seq (.region [⟨some 152, none, .mov (.t 17)⟩,
    ⟨some 153, none, .mov (.t 13)⟩,
    ⟨some 154, none, .bin .lss (.t 152) (.t 153)⟩,
    ⟨some 155, none, .mov (.t 154)⟩,
    ⟨some 156, (some (155, false)), .mov (.t 17)⟩,
    ⟨some 157, (some (155, false)), .mov (.t 11)⟩,
    ⟨some 158, (some (155, false)), .bin .gtr (.t 156) (.t 157)⟩,
    ⟨some 159, none, .pick (.t 155) (.c (.bool true)) (.t 158)⟩] [1, 8, 9, 10, 11, 12, 17, 99, 100, 101, 159])
  (.cond (.t 159) (.seq (.region [⟨some 160, none, .mov (.t 11)⟩,
    ⟨some 161, none, .mkif 151 (.c (.int .i64 1))⟩,
    ⟨some 6, none, .mov (.t 160)⟩,
    ⟨some 7, none, .mov (.t 161)⟩] [6, 7])
  .ret)
  .skip))
  (.region [⟨some 162, none, .mov (.t 17)⟩,
    ⟨some 13, none, .mov (.t 162)⟩] [1, 8, 9, 10, 11, 12, 13, 99, 100, 101]))))))))))
  (.region [⟨some 163, none, .bin .add (.t 101) (.c (.int .i64 1))⟩,
    ⟨some 101, none, .mov (.t 163)⟩] [1, 8, 9, 10, 11, 12, 13, 99, 100, 101]))))

/-- internal/strconv.ParseUint -/
def i99 : AFunc := ⟨3, 172, [.tmp 6, .tmp 7],
  (.seq (.region [⟨some 6, none, .mov (.c (.int .u64 0))⟩,
    ⟨some 7, none, .mov (.c .nili)⟩] [0, 1, 2])
  (.seq (.seq (.region [⟨some 18, none, .mov (.t 0)⟩,
    ⟨some 19, none, .bin .eql (.t 18) (.c (.str []))⟩] [0, 1, 2, 19])
  (.cond (.t 19) (.seq (.region [⟨some 20, none, .mkif 151 (.c (.int .i64 2))⟩,
    ⟨some 6, none, .mov (.c (.int .u64 0))⟩,
    ⟨some 7, none, .mov (.t 20)⟩] [6, 7])
  .ret)
  .skip))
  (.seq (.region [⟨some 21, none, .mov (.t 1)⟩,
    ⟨some 22, none, .bin .eql (.t 21) (.c (.int .i64 0))⟩,
    ⟨some 8, none, .mov (.t 22)⟩] [0, 1, 2, 8])
  (.seq (.region [⟨some 23, none, .mov (.t 0)⟩,
    ⟨some 9, none, .mov (.t 23)⟩] [0, 1, 2, 8, 9])
  (.seq (.block 0 (.seq (.region [⟨some 26, none, .mov (.t 1)⟩,
    ⟨some 27, none, .bin .leq (.c (.int .i64 2)) (.t 26)⟩,
    ⟨some 28, none, .mov (.t 27)⟩,
    ⟨some 29, (some (28, true)), .mov (.t 1)⟩,
    ⟨some 30, (some (28, true)), .bin .leq (.t 29) (.c (.int .i64 36))⟩,
    ⟨some 31, none, .pick (.t 28) (.t 30) (.c (.bool false))⟩,
    ⟨some 25, none, .mov (.t 31)⟩] [0, 1, 2, 8, 9, 25])
  (.cond (.t 25) .skip
  (.seq (.region [⟨some 33, none, .mov (.t 1)⟩,
    ⟨some 34, none, .bin .eql (.t 33) (.c (.int .i64 0))⟩,
    ⟨some 32, none, .mov (.t 34)⟩] [0, 2, 8, 9, 32])
  (.cond (.t 32) (.seq (.region [⟨some 1, none, .mov (.c (.int .i64 10))⟩] [0, 1, 2, 8, 9])
  (.seq (.region [⟨some 35, none, .mov (.t 0)⟩,
    ⟨some 36, none, .idxstr (.t 35) (.c (.int .i64 0))⟩,
    ⟨some 37, none, .bin .eql (.t 36) (.c (.int .u8 48))⟩] [0, 1, 2, 8, 9, 37])
  (.cond (.t 37) (.block 1 (.seq (.region [⟨some 41, none, .mov (.t 0)⟩,
    ⟨some 42, none, .lenstr (.t 41)⟩,
    ⟨some 43, none, .bin .geq (.t 42) (.c (.int .i64 3))⟩,
    ⟨some 44, none, .mov (.t 43)⟩,
    ⟨some 45, (some (44, true)), .mov (.t 0)⟩,
    ⟨some 46, (some (44, true)), .idxstr (.t 45) (.c (.int .i64 1))⟩,
    ⟨some 47, (some (44, true)), .call false 114 [(.t 46)]⟩,
    ⟨some 48, (some (44, true)), .bin .eql (.t 47) (.c (.int .u8 98))⟩,
    ⟨some 49, none, .pick (.t 44) (.t 48) (.c (.bool false))⟩,
    ⟨some 40, none, .mov (.t 49)⟩] [0, 2, 8, 9, 40])
  (.cond (.t 40) (.seq (.region [⟨some 1, none, .mov (.c (.int .i64 2))⟩] [0, 1, 2, 8, 9])
  (.region [⟨some 50, none, .mov (.t 0)⟩,
    ⟨some 51, none, .slstr (.t 50) (some (.c (.int .i64 2))) none⟩,
    ⟨some 0, none, .mov (.t 51)⟩] [0, 1, 2, 8, 9]))
  (.seq (.region [⟨some 53, none, .mov (.t 0)⟩,
    ⟨some 54, none, .lenstr (.t 53)⟩,
    ⟨some 55, none, .bin .geq (.t 54) (.c (.int .i64 3))⟩,
    ⟨some 56, none, .mov (.t 55)⟩,
    ⟨some 57, (some (56, true)), .mov (.t 0)⟩,
    ⟨some 58, (some (56, true)), .idxstr (.t 57) (.c (.int .i64 1))⟩,
    ⟨some 59, (some (56, true)), .call false 114 [(.t 58)]⟩,
    ⟨some 60, (some (56, true)), .bin .eql (.t 59) (.c (.int .u8 111))⟩,
    ⟨some 61, none, .pick (.t 56) (.t 60) (.c (.bool false))⟩,
    ⟨some 52, none, .mov (.t 61)⟩] [0, 2, 8, 9, 52])
  (.cond (.t 52) (.seq (.region [⟨some 1, none, .mov (.c (.int .i64 8))⟩] [0, 1, 2, 8, 9])
  (.region [⟨some 62, none, .mov (.t 0)⟩,
    ⟨some 63, none, .slstr (.t 62) (some (.c (.int .i64 2))) none⟩,
    ⟨some 0, none, .mov (.t 63)⟩] [0, 1, 2, 8, 9]))
  (.seq (.region [⟨some 65, none, .mov (.t 0)⟩,
    ⟨some 66, none, .lenstr (.t 65)⟩,
    ⟨some 67, none, .bin .geq (.t 66) (.c (.int .i64 3))⟩,
    ⟨some 68, none, .mov (.t 67)⟩,
    ⟨some 69, (some (68, true)), .mov (.t 0)⟩,
    ⟨some 70, (some (68, true)), .idxstr (.t 69) (.c (.int .i64 1))⟩,
    ⟨some 71, (some (68, true)), .call false 114 [(.t 70)]⟩,
    ⟨some 72, (some (68, true)), .bin .eql (.t 71) (.c (.int .u8 120))⟩,
    ⟨some 73, none, .pick (.t 68) (.t 72) (.c (.bool false))⟩,
    ⟨some 64, none, .mov (.t 73)⟩] [0, 2, 8, 9, 64])
  (.cond (.t 64) (.seq (.region [⟨some 1, none, .mov (.c (.int .i64 16))⟩] [0, 1, 2, 8, 9])
  (.region [⟨some 74, none, .mov (.t 0)⟩,
    ⟨some 75, none, .slstr (.t 74) (some (.c (.int .i64 2))) none⟩,
    ⟨some 0, none, .mov (.t 75)⟩] [0, 1, 2, 8, 9]))
  (.seq (.region [⟨some 1, none, .mov (.c (.int .i64 8))⟩] [0, 1, 2, 8, 9])
  (.region [⟨some 38, none, .mov (.t 0)⟩,
    ⟨some 39, none, .slstr (.t 38) (some (.c (.int .i64 1))) none⟩,
    ⟨some 0, none, .mov (.t 39)⟩] [0, 1, 2, 8, 9])))))))))
  .skip)))
  (.seq (.region [⟨some 24, none, .mkif 151 (.c (.int .i64 3))⟩,
    ⟨some 6, none, .mov (.c (.int .u64 0))⟩,
    ⟨some 7, none, .mov (.t 24)⟩] [6, 7])
  .ret))))))
  (.seq (.seq (.region [⟨some 76, none, .mov (.t 2)⟩,
    ⟨some 77, none, .bin .eql (.t 76) (.c (.int .i64 0))⟩] [0, 1, 2, 8, 9, 77])
  (.cond (.t 77) (.region [⟨some 2, none, .mov (.c (.int .i64 64))⟩] [0, 1, 2, 8, 9])
  (.seq (.region [⟨some 78, none, .mov (.t 2)⟩,
    ⟨some 79, none, .bin .lss (.t 78) (.c (.int .i64 0))⟩,
    ⟨some 80, none, .mov (.t 79)⟩,
    ⟨some 81, (some (80, false)), .mov (.t 2)⟩,
    ⟨some 82, (some (80, false)), .bin .gtr (.t 81) (.c (.int .i64 64))⟩,
    ⟨some 83, none, .pick (.t 80) (.c (.bool true)) (.t 82)⟩] [0, 1, 2, 8, 9, 83])
  (.cond (.t 83) (.seq (.region [⟨some 84, none, .mkif 151 (.c (.int .i64 4))⟩,
    ⟨some 6, none, .mov (.c (.int .u64 0))⟩,
    ⟨some 7, none, .mov (.t 84)⟩] [6, 7])
  .ret)
  .skip))))
  (.seq (.region [⟨some 10, none, .mov (.c (.int .u64 0))⟩] [0, 1, 2, 8, 9])
  (.seq (.seq (.region [⟨some 85, none, .mov (.t 1)⟩] [0, 1, 2, 8, 9, 85])
  (.block 2 (.seq (.region [⟨some 91, none, .bin .eql (.t 85) (.c (.int .i64 10))⟩,
    ⟨some 90, none, .mov (.t 91)⟩] [0, 1, 2, 8, 9, 85, 90])
  (.cond (.t 90) (.region [⟨some 10, none, .mov (.c (.int .u64 1844674407370955162))⟩] [0, 1, 2, 8, 9, 10])
  (.seq (.region [⟨some 93, none, .bin .eql (.t 85) (.c (.int .i64 16))⟩,
    ⟨some 92, none, .mov (.t 93)⟩] [0, 1, 2, 8, 9, 92])
  (.cond (.t 92) (.region [⟨some 10, none, .mov (.c (.int .u64 1152921504606846976))⟩] [0, 1, 2, 8, 9, 10])
  (.region [⟨some 86, none, .mov (.t 1)⟩,
    ⟨some 87, none, .cvi .u64 (.t 86)⟩,
    ⟨some 88, none, .bin .quo (.c (.int .u64 18446744073709551615)) (.t 87)⟩,
    ⟨some 89, none, .bin .add (.t 88) (.c (.int .u64 1))⟩,
    ⟨some 10, none, .mov (.t 89)⟩] [0, 1, 2, 8, 9, 10])))))))
  (.seq (.region [⟨some 94, none, .mov (.t 2)⟩,
    ⟨some 95, none, .cvi .u64 (.t 94)⟩,
    ⟨some 96, none, .bin .shl (.c (.int .u64 1)) (.t 95)⟩,
    ⟨some 97, none, .bin .sub (.t 96) (.c (.int .u64 1))⟩,
    ⟨some 11, none, .mov (.t 97)⟩] [0, 1, 8, 9, 10, 11])
  (.seq (.region [⟨some 12, none, .mov (.c (.bool false))⟩] [0, 1, 8, 9, 10, 11, 12])
  (.seq (.region [⟨some 13, none, .mov (.c (.int .u64 0))⟩] [0, 1, 8, 9, 10, 11, 12, 13])
  (.seq (.seq (.region [⟨some 98, none, .mov (.t 0)⟩,
    ⟨some 99, none, .cvs2b 5 (.t 98)⟩,
    ⟨some 100, none, .lensl (.t 99)⟩,
    ⟨some 101, none, .mov (.c (.int .i64 0))⟩] [1, 8, 9, 10, 11, 12, 13, 99, 100, 101])
  (.block 3 (.loop [1, 8, 9, 10, 11, 12, 13, 99, 100, 101] i99_L0)))
  (.seq (.seq (.region [⟨some 164, none, .mov (.t 12)⟩,
    ⟨some 165, none, .mov (.t 164)⟩,
    ⟨some 166, (some (165, true)), .mov (.t 9)⟩,
    ⟨some 167, (some (165, true)), .call false 115 [(.t 166)]⟩,
    ⟨some 168, (some (165, true)), .un .not (.t 167)⟩,
    ⟨some 169, none, .pick (.t 165) (.t 168) (.c (.bool false))⟩] [13, 169])
  (.cond (.t 169) (.seq (.region [⟨some 170, none, .mkif 151 (.c (.int .i64 2))⟩,
    ⟨some 6, none, .mov (.c (.int .u64 0))⟩,
    ⟨some 7, none, .mov (.t 170)⟩] [6, 7])
  .ret)
  .skip))
  (.seq (.region [⟨some 171, none, .mov (.t 13)⟩,
    ⟨some 6, none, .mov (.t 171)⟩,
    ⟨some 7, none, .mov (.c .nili)⟩] [6, 7])
  .ret))))))))))))))⟩

/-- strings.Contains -/
def i101 : AFunc := ⟨2, 9, [.tmp 4],
  (.seq (.region [⟨some 4, none, .mov (.c (.bool false))⟩] [0, 1])
  (.seq (.region [⟨some 5, none, .mov (.t 0)⟩,
    ⟨some 6, none, .mov (.t 1)⟩,
    ⟨some 7, none, .call false 120 [(.t 5), (.t 6)]⟩,
    ⟨some 8, none, .bin .geq (.t 7) (.c (.int .i64 0))⟩,
    ⟨some 4, none, .mov (.t 8)⟩] [4])
  .ret))⟩

def i102_L0 : ACode :=
  (.seq (.region [⟨some 18, none, .bin .lss (.t 17) (.t 16)⟩] [1, 2, 15, 16, 17, 18])
  (.seq (.cond (.t 18) .skip
  (.exit 0))
  (.seq (.block 1 (.seq (.region [⟨some 19, none, .mov (.t 17)⟩,
    ⟨some 20, none, .idxas 8 (.t 15) (.t 17)⟩,
    ⟨some 21, none, .load (some 8) (.t 20)⟩,
    ⟨some 8, none, .alloc [(.int .u8 0), (.int .u8 0), (.int .u8 0), (.int .u8 0), .nilp, .nilp, (.sl 8 [] .exact), (.sl 8 [] .exact)] 72⟩,
    ⟨some 7, none, .mov (.t 19)⟩,
    ⟨none, none, .store 8 (.t 8) (.t 21)⟩] [1, 2, 7, 8, 15, 16, 17])
  (.seq (.region [⟨some 22, none, .mov (.t 1)⟩,
    ⟨some 23, none, .mov (.t 7)⟩,
    ⟨some 24, none, .idxas 8 (.t 22) (.t 23)⟩,
    ⟨some 25, none, .load (some 8) (.t 24)⟩,
    ⟨some 9, none, .alloc [(.int .u8 0), (.int .u8 0), (.int .u8 0), (.int .u8 0), .nilp, .nilp, (.sl 8 [] .exact), (.sl 8 [] .exact)] 72⟩,
    ⟨none, none, .store 8 (.t 9) (.t 25)⟩] [1, 2, 8, 9, 15, 16, 17])
  (.seq (.region [⟨some 26, none, .mov (.t 2)⟩,
    ⟨some 27, none, .load (some 8) (.t 8)⟩,
    ⟨some 28, none, .load (some 8) (.t 9)⟩,
    ⟨some 29, none, .callv true (.t 26) [(.t 27), (.t 28)]⟩,
    ⟨some 30, none, .un .not (.t 29)⟩] [1, 2, 15, 16, 17, 30])
  (.cond (.t 30) (.seq (.region [⟨some 6, none, .mov (.c (.bool false))⟩] [6])
  .ret)
  .skip)))))
  (.region [⟨some 31, none, .bin .add (.t 17) (.c (.int .i64 1))⟩,
    ⟨some 17, none, .mov (.t 31)⟩] [1, 2, 15, 16, 17]))))

/-- slices.EqualFunc[[]troth/prog.Stmt,[]troth/prog.Stmt,troth/prog.Stmt,troth/prog.Stmt] -/
def i102 : AFunc := ⟨3, 32, [.tmp 6],
  (.seq (.region [⟨some 6, none, .mov (.c (.bool false))⟩] [0, 1, 2])
  (.seq (.seq (.region [⟨some 10, none, .mov (.t 0)⟩,
    ⟨some 11, none, .lensl (.t 10)⟩,
    ⟨some 12, none, .mov (.t 1)⟩,
    ⟨some 13, none, .lensl (.t 12)⟩,
    ⟨some 14, none, .bin .neq (.t 11) (.t 13)⟩] [0, 1, 2, 14])
  (.cond (.t 14) (.seq (.region [⟨some 6, none, .mov (.c (.bool false))⟩] [6])
  .ret)
  .skip))
  (.seq (.seq (.region [⟨some 15, none, .mov (.t 0)⟩,
    ⟨some 16, none, .lensl (.t 15)⟩,
    ⟨some 17, none, .mov (.c (.int .i64 0))⟩] [1, 2, 15, 16, 17])
  (.block 0 (.loop [1, 2, 15, 16, 17] i102_L0)))
  (.seq (.region [⟨some 6, none, .mov (.c (.bool true))⟩] [6])
  .ret))))⟩

/-- troth/prog.blocks$1 -/
def i103 : AFunc := ⟨3, 64, [.tmp 5],
  (.seq (.region [⟨some 3, none, .ibox (.t 0)⟩,
    ⟨some 4, none, .ibox (.t 1)⟩,
    ⟨some 5, none, .mov (.c (.bool false))⟩] [2, 3, 4])
  (.seq (.region [⟨some 6, none, .faddr 0 (.t 3)⟩,
    ⟨some 7, none, .load none (.t 6)⟩,
    ⟨some 8, none, .faddr 0 (.t 4)⟩,
    ⟨some 9, none, .load none (.t 8)⟩,
    ⟨some 10, none, .bin .eql (.t 7) (.t 9)⟩,
    ⟨some 11, none, .mov (.t 10)⟩,
    ⟨some 12, (some (11, true)), .faddr 1 (.t 3)⟩,
    ⟨some 13, (some (11, true)), .load none (.t 12)⟩,
    ⟨some 14, (some (11, true)), .faddr 1 (.t 4)⟩,
    ⟨some 15, (some (11, true)), .load none (.t 14)⟩,
    ⟨some 16, (some (11, true)), .bin .eql (.t 13) (.t 15)⟩,
    ⟨some 17, none, .pick (.t 11) (.t 16) (.c (.bool false))⟩,
    ⟨some 18, none, .mov (.t 17)⟩,
    ⟨some 19, (some (18, true)), .faddr 2 (.t 3)⟩,
    ⟨some 20, (some (18, true)), .load none (.t 19)⟩,
    ⟨some 21, (some (18, true)), .faddr 2 (.t 4)⟩,
    ⟨some 22, (some (18, true)), .load none (.t 21)⟩,
    ⟨some 23, (some (18, true)), .bin .eql (.t 20) (.t 22)⟩,
    ⟨some 24, none, .pick (.t 18) (.t 23) (.c (.bool false))⟩,
    ⟨some 25, none, .mov (.t 24)⟩,
    ⟨some 26, (some (25, true)), .faddr 3 (.t 3)⟩,
    ⟨some 27, (some (25, true)), .load none (.t 26)⟩,
    ⟨some 28, (some (25, true)), .faddr 3 (.t 4)⟩,
    ⟨some 29, (some (25, true)), .load none (.t 28)⟩,
    ⟨some 30, (some (25, true)), .bin .eql (.t 27) (.t 29)⟩,
    ⟨some 31, none, .pick (.t 25) (.t 30) (.c (.bool false))⟩,
    ⟨some 32, none, .mov (.t 31)⟩,
    ⟨some 33, (some (32, true)), .faddr 4 (.t 3)⟩,
    ⟨some 34, (some (32, true)), .load none (.t 33)⟩,
    ⟨some 35, (some (32, true)), .faddr 4 (.t 4)⟩,
    ⟨some 36, (some (32, true)), .load none (.t 35)⟩,
    ⟨some 37, (some (32, true)), .call false 77 [(.t 34), (.t 36)]⟩,
    ⟨some 38, none, .pick (.t 32) (.t 37) (.c (.bool false))⟩,
    ⟨some 39, none, .mov (.t 38)⟩,
    ⟨some 40, (some (39, true)), .faddr 5 (.t 3)⟩,
    ⟨some 41, (some (39, true)), .load none (.t 40)⟩,
    ⟨some 42, (some (39, true)), .faddr 5 (.t 4)⟩,
    ⟨some 43, (some (39, true)), .load none (.t 42)⟩,
    ⟨some 44, (some (39, true)), .call false 77 [(.t 41), (.t 43)]⟩,
    ⟨some 45, none, .pick (.t 39) (.t 44) (.c (.bool false))⟩,
    ⟨some 46, none, .mov (.t 45)⟩,
    ⟨some 47, (some (46, true)), .faddr 6 (.t 3)⟩,
    ⟨some 48, (some (46, true)), .load none (.t 47)⟩,
    ⟨some 49, (some (46, true)), .faddr 6 (.t 4)⟩,
    ⟨some 50, (some (46, true)), .load none (.t 49)⟩,
    ⟨some 51, (some (46, true)), .load none (.t 2)⟩,
    ⟨some 52, (some (46, true)), .bin .add (.t 51) (.c (.int .i64 1))⟩,
    ⟨some 53, (some (46, true)), .call false 80 [(.t 48), (.t 50), (.t 52)]⟩,
    ⟨some 54, none, .pick (.t 46) (.t 53) (.c (.bool false))⟩,
    ⟨some 55, none, .mov (.t 54)⟩,
    ⟨some 56, (some (55, true)), .faddr 7 (.t 3)⟩,
    ⟨some 57, (some (55, true)), .load none (.t 56)⟩,
    ⟨some 58, (some (55, true)), .faddr 7 (.t 4)⟩,
    ⟨some 59, (some (55, true)), .load none (.t 58)⟩,
    ⟨some 60, (some (55, true)), .load none (.t 2)⟩,
    ⟨some 61, (some (55, true)), .bin .add (.t 60) (.c (.int .i64 1))⟩,
    ⟨some 62, (some (55, true)), .call false 80 [(.t 57), (.t 59), (.t 61)]⟩,
    ⟨some 63, none, .pick (.t 55) (.t 62) (.c (.bool false))⟩,
    ⟨some 5, none, .mov (.t 63)⟩] [5])
  .ret))⟩

/-- math/bits.Mul -/
def i105 : AFunc := ⟨2, 30, [.tmp 4, .tmp 5],
  (.seq (.region [⟨some 4, none, .mov (.c (.int .u64 0))⟩,
    ⟨some 5, none, .mov (.c (.int .u64 0))⟩] [0, 1])
  (.seq (.cond (.c (.bool false)) (.seq (.region [⟨some 11, none, .mov (.t 0)⟩,
    ⟨some 12, none, .cvi .u32 (.t 11)⟩,
    ⟨some 13, none, .mov (.t 1)⟩,
    ⟨some 14, none, .cvi .u32 (.t 13)⟩,
    ⟨some 15, none, .call false 122 [(.t 12), (.t 14)]⟩,
    ⟨some 10, none, .mov (.t 15)⟩,
    ⟨some 16, none, .ext (.t 10) 0⟩,
    ⟨some 17, none, .ext (.t 10) 1⟩,
    ⟨some 6, none, .mov (.t 16)⟩,
    ⟨some 7, none, .mov (.t 17)⟩] [6, 7])
  (.seq (.region [⟨some 18, none, .mov (.t 6)⟩,
    ⟨some 19, none, .cvi .u64 (.t 18)⟩,
    ⟨some 20, none, .mov (.t 7)⟩,
    ⟨some 21, none, .cvi .u64 (.t 20)⟩,
    ⟨some 4, none, .mov (.t 19)⟩,
    ⟨some 5, none, .mov (.t 21)⟩] [4, 5])
  .ret))
  .skip)
  (.seq (.region [⟨some 23, none, .mov (.t 0)⟩,
    ⟨some 24, none, .mov (.t 1)⟩,
    ⟨some 25, none, .call false 123 [(.t 23), (.t 24)]⟩,
    ⟨some 22, none, .mov (.t 25)⟩,
    ⟨some 26, none, .ext (.t 22) 0⟩,
    ⟨some 27, none, .ext (.t 22) 1⟩,
    ⟨some 8, none, .mov (.t 26)⟩,
    ⟨some 9, none, .mov (.t 27)⟩] [8, 9])
  (.seq (.region [⟨some 28, none, .mov (.t 8)⟩,
    ⟨some 29, none, .mov (.t 9)⟩,
    ⟨some 4, none, .mov (.t 28)⟩,
    ⟨some 5, none, .mov (.t 29)⟩] [4, 5])
  .ret))))⟩

/-- strings.HasPrefix -/
def i106 : AFunc := ⟨2, 8, [.tmp 4],
  (.seq (.region [⟨some 4, none, .mov (.c (.bool false))⟩] [0, 1])
  (.seq (.region [⟨some 5, none, .mov (.t 0)⟩,
    ⟨some 6, none, .mov (.t 1)⟩,
    ⟨some 7, none, .call false 124 [(.t 5), (.t 6)]⟩,
    ⟨some 4, none, .mov (.t 7)⟩] [4])
  .ret))⟩

/-- (*strings.Builder).Len -/
def i108 : AFunc := ⟨1, 8, [.tmp 2],
  (.seq (.region [⟨some 2, none, .mov (.c (.int .i64 0))⟩] [0])
  (.seq (.region [⟨some 3, none, .mov (.t 0)⟩,
    ⟨some 4, none, .nilchk (.t 3)⟩,
    ⟨some 5, none, .faddr 1 (.t 4)⟩,
    ⟨some 6, none, .load none (.t 5)⟩,
    ⟨some 7, none, .lensl (.t 6)⟩,
    ⟨some 2, none, .mov (.t 7)⟩] [2])
  .ret))⟩

/-- internal/strconv.FormatUint -/
def i109 : AFunc := ⟨2, 32, [.tmp 4],
  (.seq (.region [⟨some 4, none, .mov (.c (.str []))⟩] [0, 1])
  (.seq (.seq (.region [⟨some 9, none, .mov (.t 1)⟩,
    ⟨some 10, none, .bin .eql (.t 9) (.c (.int .i64 10))⟩] [0, 1, 10])
  (.cond (.t 10) (.seq (.seq (.region [⟨some 11, none, .mov (.t 0)⟩,
    ⟨some 12, none, .bin .lss (.t 11) (.c (.int .u64 100))⟩] [0, 12])
  (.cond (.t 12) (.seq (.region [⟨some 13, none, .mov (.t 0)⟩,
    ⟨some 14, none, .cvi .i64 (.t 13)⟩,
    ⟨some 15, none, .call false 126 [(.t 14)]⟩,
    ⟨some 4, none, .mov (.t 15)⟩] [4])
  .ret)
  .skip))
  (.seq (.region [⟨some 5, none, .alloc [(.int .u8 0), (.int .u8 0), (.int .u8 0), (.int .u8 0), (.int .u8 0), (.int .u8 0), (.int .u8 0), (.int .u8 0), (.int .u8 0), (.int .u8 0), (.int .u8 0), (.int .u8 0), (.int .u8 0), (.int .u8 0), (.int .u8 0), (.int .u8 0), (.int .u8 0), (.int .u8 0), (.int .u8 0), (.int .u8 0), (.int .u8 0), (.int .u8 0), (.int .u8 0), (.int .u8 0)] 164⟩] [0, 5])
  (.seq (.region [⟨some 16, none, .mov (.t 0)⟩,
    ⟨some 17, none, .call false 127 [(.t 16)]⟩,
    ⟨some 6, none, .mov (.t 17)⟩] [0, 5, 6])
  (.seq (.region [⟨some 18, none, .mov (.t 6)⟩,
    ⟨some 19, none, .slarr 24 1 (.t 5) none (some (.t 18)) none⟩,
    ⟨some 20, none, .mov (.t 0)⟩,
    ⟨some 21, none, .call false 128 [(.t 19), (.t 20)]⟩] [5, 6])
  (.seq (.region [⟨some 22, none, .mov (.t 6)⟩,
    ⟨some 23, none, .slarr 24 1 (.t 5) none (some (.t 22)) none⟩,
    ⟨some 24, none, .cvb2s (.t 23)⟩,
    ⟨some 4, none, .mov (.t 24)⟩] [4])
  .ret)))))
  .skip))
  (.seq (.region [⟨some 26, none, .mov (.t 0)⟩,
    ⟨some 27, none, .mov (.t 1)⟩,
    ⟨some 28, none, .call false 129 [(.c (.sl 1 [] .exact)), (.t 26), (.t 27), (.c (.bool false)), (.c (.bool false))]⟩,
    ⟨some 25, none, .mov (.t 28)⟩,
    ⟨some 29, none, .ext (.t 25) 0⟩,
    ⟨some 30, none, .ext (.t 25) 1⟩,
    ⟨some 7, none, .mov (.t 29)⟩,
    ⟨some 8, none, .mov (.t 30)⟩] [8])
  (.seq (.region [⟨some 31, none, .mov (.t 8)⟩,
    ⟨some 4, none, .mov (.t 31)⟩] [4])
  .ret))))⟩

/-- (troth/prog.Stmt).plain -/
def i110 : AFunc := ⟨1, 86, [.tmp 2],
  (.seq (.region [⟨some 1, none, .ibox (.t 0)⟩,
    ⟨some 2, none, .mov (.c (.str []))⟩] [1])
  (.seq (.region [⟨some 6, none, .faddr 1 (.t 1)⟩,
    ⟨some 7, none, .load none (.t 6)⟩,
    ⟨some 8, none, .cvi .i64 (.t 7)⟩,
    ⟨some 9, none, .call false 87 [(.t 8)]⟩,
    ⟨some 10, none, .bin .add (.c (.str [114])) (.t 9)⟩,
    ⟨some 11, none, .bin .add (.t 10) (.c (.str [32, 61, 32]))⟩,
    ⟨some 3, none, .mov (.t 11)⟩] [1, 3])
  (.seq (.draw [⟨some 12, none, .faddr 3 (.t 1)⟩,
    ⟨some 13, none, .load none (.t 12)⟩,
    ⟨some 14, none, .bslice 5 1 [(.int .u8 0)] 1 [(0, (.t 13))]⟩,
    ⟨some 15, none, .cvb2s (.t 14)⟩,
    ⟨some 16, none, .faddr 2 (.t 1)⟩,
    ⟨some 17, none, .load none (.t 16)⟩,
    ⟨some 18, none, .call false 30 [(.t 17)]⟩,
    ⟨some 4, none, .mov (.t 15)⟩,
    ⟨some 5, none, .mov (.t 18)⟩] [[], [0], [0, 1], [0, 1, 2], [], [4], [4, 5], [0, 1, 2, 3, 4, 5, 6], [0, 1, 2, 3, 4, 5, 6, 7]] [1, 3, 4, 5])
  (.seq (.seq (.region [⟨some 19, none, .faddr 0 (.t 1)⟩,
    ⟨some 20, none, .load none (.t 19)⟩] [1, 3, 4, 5, 20])
  (.block 0 (.seq (.region [⟨some 22, none, .bin .eql (.t 20) (.c (.int .u8 1))⟩,
    ⟨some 21, none, .mov (.t 22)⟩] [1, 3, 4, 5, 20, 21])
  (.cond (.t 21) (.seq (.region [⟨some 23, none, .mov (.t 3)⟩,
    ⟨some 24, none, .faddr 4 (.t 1)⟩,
    ⟨some 25, none, .load none (.t 24)⟩,
    ⟨some 26, none, .call false 15 [(.t 25)]⟩,
    ⟨some 27, none, .bin .add (.t 23) (.t 26)⟩,
    ⟨some 2, none, .mov (.t 27)⟩] [2])
  .ret)
  (.seq (.region [⟨some 29, none, .bin .eql (.t 20) (.c (.int .u8 2))⟩,
    ⟨some 28, none, .mov (.t 29)⟩] [1, 3, 4, 5, 20, 28])
  (.cond (.t 28) (.seq (.region [⟨some 30, none, .mov (.t 3)⟩,
    ⟨some 31, none, .mov (.t 4)⟩,
    ⟨some 32, none, .mov (.t 5)⟩,
    ⟨some 33, none, .bslice 9 1 [(.str [])] 2 [(0, (.t 31)), (1, (.t 32))]⟩,
    ⟨some 34, none, .call false 130 [(.c (.str [108, 111, 97, 100])), (.t 33)]⟩,
    ⟨some 35, none, .bin .add (.t 30) (.t 34)⟩,
    ⟨some 2, none, .mov (.t 35)⟩] [2])
  .ret)
  (.seq (.region [⟨some 37, none, .bin .eql (.t 20) (.c (.int .u8 3))⟩,
    ⟨some 36, none, .mov (.t 37)⟩] [1, 3, 4, 5, 20, 36])
  (.cond (.t 36) (.seq (.region [⟨some 38, none, .mov (.t 4)⟩,
    ⟨some 39, none, .faddr 4 (.t 1)⟩,
    ⟨some 40, none, .load none (.t 39)⟩,
    ⟨some 41, none, .call false 15 [(.t 40)]⟩,
    ⟨some 42, none, .mov (.t 5)⟩,
    ⟨some 43, none, .bslice 9 1 [(.str [])] 3 [(0, (.t 38)), (1, (.t 41)), (2, (.t 42))]⟩,
    ⟨some 44, none, .call false 130 [(.c (.str [115, 116, 111, 114, 101])), (.t 43)]⟩,
    ⟨some 2, none, .mov (.t 44)⟩] [2])
  .ret)
  (.seq (.region [⟨some 46, none, .bin .eql (.t 20) (.c (.int .u8 4))⟩,
    ⟨some 45, none, .mov (.t 46)⟩] [1, 3, 4, 5, 20, 45])
  (.cond (.t 45) (.seq (.region [⟨some 47, none, .mov (.t 3)⟩,
    ⟨some 48, none, .mov (.t 4)⟩,
    ⟨some 49, none, .faddr 4 (.t 1)⟩,
    ⟨some 50, none, .load none (.t 49)⟩,
    ⟨some 51, none, .call false 15 [(.t 50)]⟩,
    ⟨some 52, none, .mov (.t 5)⟩,
    ⟨some 53, none, .bslice 9 1 [(.str [])] 3 [(0, (.t 48)), (1, (.t 51)), (2, (.t 52))]⟩,
    ⟨some 54, none, .call false 130 [(.c (.str [115, 119, 97, 112])), (.t 53)]⟩,
    ⟨some 55, none, .bin .add (.t 47) (.t 54)⟩,
    ⟨some 2, none, .mov (.t 55)⟩] [2])
  .ret)
  (.seq (.region [⟨some 57, none, .bin .eql (.t 20) (.c (.int .u8 5))⟩,
    ⟨some 56, none, .mov (.t 57)⟩] [1, 3, 4, 5, 20, 56])
  (.cond (.t 56) (.seq (.region [⟨some 58, none, .mov (.t 3)⟩,
    ⟨some 59, none, .mov (.t 4)⟩,
    ⟨some 60, none, .faddr 4 (.t 1)⟩,
    ⟨some 61, none, .load none (.t 60)⟩,
    ⟨some 62, none, .call false 15 [(.t 61)]⟩,
    ⟨some 63, none, .mov (.t 5)⟩,
    ⟨some 64, none, .bslice 9 1 [(.str [])] 3 [(0, (.t 59)), (1, (.t 62)), (2, (.t 63))]⟩,
    ⟨some 65, none, .call false 130 [(.c (.str [97, 100, 100])), (.t 64)]⟩,
    ⟨some 66, none, .bin .add (.t 58) (.t 65)⟩,
    ⟨some 2, none, .mov (.t 66)⟩] [2])
  .ret)
  (.seq (.region [⟨some 68, none, .bin .eql (.t 20) (.c (.int .u8 6))⟩,
    ⟨some 67, none, .mov (.t 68)⟩] [1, 3, 4, 5, 20, 67])
  (.cond (.t 67) (.seq (.draw [⟨some 69, none, .mov (.t 3)⟩,
    ⟨some 70, none, .mov (.t 4)⟩,
    ⟨some 71, none, .faddr 4 (.t 1)⟩,
    ⟨some 72, none, .load none (.t 71)⟩,
    ⟨some 73, none, .call false 15 [(.t 72)]⟩,
    ⟨some 74, none, .faddr 5 (.t 1)⟩,
    ⟨some 75, none, .load none (.t 74)⟩,
    ⟨some 76, none, .call false 15 [(.t 75)]⟩,
    ⟨some 77, none, .mov (.t 5)⟩,
    ⟨some 78, none, .bslice 9 1 [(.str [])] 4 [(0, (.t 70)), (1, (.t 73)), (2, (.t 76)), (3, (.t 77))]⟩,
    ⟨some 79, none, .call false 130 [(.c (.str [99, 97, 115])), (.t 78)]⟩,
    ⟨some 80, none, .bin .add (.t 69) (.t 79)⟩,
    ⟨some 2, none, .mov (.t 80)⟩] [[], [], [], [2], [2, 3], [], [5], [2, 3, 4, 5, 6], [], [1, 2, 3, 4, 5, 6, 7, 8], [1, 2, 3, 4, 5, 6, 7, 8, 9], [0, 1, 2, 3, 4, 5, 6, 7, 8, 9, 10], [0, 1, 2, 3, 4, 5, 6, 7, 8, 9, 10, 11]] [2])
  .ret)
  (.seq (.region [⟨some 82, none, .bin .eql (.t 20) (.c (.int .u8 7))⟩,
    ⟨some 81, none, .mov (.t 82)⟩] [5, 81])
  (.cond (.t 81) (.seq (.region [⟨some 83, none, .mov (.t 5)⟩,
    ⟨some 84, none, .bslice 9 1 [(.str [])] 1 [(0, (.t 83))]⟩,
    ⟨some 85, none, .call false 130 [(.c (.str [102, 101, 110, 99, 101])), (.t 84)]⟩,
    ⟨some 2, none, .mov (.t 85)⟩] [2])
  .ret)
  .skip))))))))))))))))
  (.seq (.region [⟨some 2, none, .mov (.c (.str []))⟩] [2])
  .ret)))))⟩

/-- internal/strconv.Itoa -/
def i111 : AFunc := ⟨1, 5, [.tmp 2],
  (.seq (.region [⟨some 2, none, .mov (.c (.str []))⟩] [0])
  (.seq (.region [⟨some 3, none, .mov (.t 0)⟩,
    ⟨some 4, none, .call false 131 [(.t 3), (.c (.int .i64 10))]⟩,
    ⟨some 2, none, .mov (.t 4)⟩] [2])
  .ret))⟩

/-- troth/expr.Strength -/
def i112 : AFunc := ⟨1, 17, [.tmp 2],
  (.seq (.region [⟨some 2, none, .mov (.c (.int .i64 0))⟩] [0])
  (.seq (.block 0 (.seq (.region [⟨some 4, none, .mov (.t 0)⟩,
    ⟨some 5, none, .call false 92 [(.t 4)]⟩,
    ⟨some 6, none, .bin .eql (.t 5) (.c (.int .i64 0))⟩,
    ⟨some 3, none, .mov (.t 6)⟩] [0, 3])
  (.cond (.t 3) (.seq (.region [⟨some 2, none, .mov (.c (.int .i64 0))⟩] [2])
  .ret)
  (.seq (.region [⟨some 8, none, .mov (.t 0)⟩,
    ⟨some 9, none, .call false 92 [(.t 8)]⟩,
    ⟨some 10, none, .bin .eql (.t 9) (.c (.int .i64 1))⟩,
    ⟨some 7, none, .mov (.t 10)⟩] [0, 7])
  (.cond (.t 7) (.seq (.region [⟨some 2, none, .mov (.c (.int .i64 4))⟩] [2])
  .ret)
  (.seq (.region [⟨some 12, none, .mov (.t 0)⟩,
    ⟨some 13, none, .bin .leq (.t 12) (.c (.int .u8 4))⟩,
    ⟨some 11, none, .mov (.t 13)⟩] [0, 11])
  (.cond (.t 11) (.seq (.region [⟨some 2, none, .mov (.c (.int .i64 1))⟩] [2])
  .ret)
  (.seq (.region [⟨some 15, none, .mov (.t 0)⟩,
    ⟨some 16, none, .bin .leq (.t 15) (.c (.int .u8 8))⟩,
    ⟨some 14, none, .mov (.t 16)⟩] [14])
  (.cond (.t 14) (.seq (.region [⟨some 2, none, .mov (.c (.int .i64 2))⟩] [2])
  .ret)
  .skip)))))))))
  (.seq (.region [⟨some 2, none, .mov (.c (.int .i64 3))⟩] [2])
  .ret)))⟩

/-- troth/num.bit -/
def i113 : AFunc := ⟨1, 4, [.tmp 2],
  (.seq (.region [⟨some 2, none, .mov (.c (.int .u64 0))⟩] [0])
  (.seq (.seq (.region [⟨some 3, none, .mov (.t 0)⟩] [3])
  (.cond (.t 3) (.seq (.region [⟨some 2, none, .mov (.c (.int .u64 1))⟩] [2])
  .ret)
  .skip))
  (.seq (.region [⟨some 2, none, .mov (.c (.int .u64 0))⟩] [2])
  .ret)))⟩

/-- internal/strconv.lower -/
def i114 : AFunc := ⟨1, 5, [.tmp 2],
  (.seq (.region [⟨some 2, none, .mov (.c (.int .u8 0))⟩] [0])
  (.seq (.region [⟨some 3, none, .mov (.t 0)⟩,
    ⟨some 4, none, .bin .or (.t 3) (.c (.int .u8 32))⟩,
    ⟨some 2, none, .mov (.t 4)⟩] [2])
  .ret))⟩

def i115_L0 : ACode :=
  (.seq (.seq (.region [⟨some 51, none, .mov (.t 4)⟩,
    ⟨some 52, none, .mov (.t 0)⟩,
    ⟨some 53, none, .lenstr (.t 52)⟩,
    ⟨some 54, none, .bin .lss (.t 51) (.t 53)⟩] [0, 3, 4, 5, 54])
  (.cond (.t 54) .skip
  (.exit 0)))
  (.seq (.block 1 (.seq (.seq (.region [⟨some 57, none, .mov (.t 0)⟩,
    ⟨some 58, none, .mov (.t 4)⟩,
    ⟨some 59, none, .idxstr (.t 57) (.t 58)⟩,
    ⟨some 60, none, .bin .leq (.c (.int .u8 48)) (.t 59)⟩,
    ⟨some 61, none, .mov (.t 60)⟩,
    ⟨some 62, (some (61, true)), .mov (.t 0)⟩,
    ⟨some 63, (some (61, true)), .mov (.t 4)⟩,
    ⟨some 64, (some (61, true)), .idxstr (.t 62) (.t 63)⟩,
    ⟨some 65, (some (61, true)), .bin .leq (.t 64) (.c (.int .u8 57))⟩,
    ⟨some 66, none, .pick (.t 61) (.t 65) (.c (.bool false))⟩,
    ⟨some 67, none, .mov (.t 66)⟩,
    ⟨some 68, (some (67, false)), .mov (.t 5)⟩,
    ⟨some 69, (some (67, false)), .mov (.t 68)⟩,
    ⟨some 70, (some (69, true)), .mov (.t 0)⟩,
    ⟨some 71, (some (69, true)), .mov (.t 4)⟩,
    ⟨some 72, (some (69, true)), .idxstr (.t 70) (.t 71)⟩,
    ⟨some 73, (some (69, true)), .call false 114 [(.t 72)]⟩,
    ⟨some 74, (some (69, true)), .bin .leq (.c (.int .u8 97)) (.t 73)⟩,
    ⟨some 75, (some (67, false)), .pick (.t 69) (.t 74) (.c (.bool false))⟩,
    ⟨some 76, (some (67, false)), .mov (.t 75)⟩,
    ⟨some 77, (some (76, true)), .mov (.t 0)⟩,
    ⟨some 78, (some (76, true)), .mov (.t 4)⟩,
    ⟨some 79, (some (76, true)), .idxstr (.t 77) (.t 78)⟩,
    ⟨some 80, (some (76, true)), .call false 114 [(.t 79)]⟩,
    ⟨some 81, (some (76, true)), .bin .leq (.t 80) (.c (.int .u8 102))⟩,
    ⟨some 82, (some (67, false)), .pick (.t 76) (.t 81) (.c (.bool false))⟩,
    ⟨some 83, none, .pick (.t 67) (.c (.bool true)) (.t 82)⟩] [0, 3, 4, 5, 83])
  (.cond (.t 83) (.seq (.region [⟨some 3, none, .mov (.c (.int .i32 48))⟩] [0, 3, 4, 5])
  (.exit 1))
  .skip))
  (.seq (.seq (.region [⟨some 84, none, .mov (.t 0)⟩,
    ⟨some 85, none, .mov (.t 4)⟩,
    ⟨some 86, none, .idxstr (.t 84) (.t 85)⟩,
    ⟨some 87, none, .bin .eql (.t 86) (.c (.int .u8 95))⟩] [0, 3, 4, 5, 87])
  (.cond (.t 87) (.seq (.seq (.region [⟨some 88, none, .mov (.t 3)⟩,
    ⟨some 89, none, .bin .neq (.t 88) (.c (.int .i32 48))⟩] [0, 4, 5, 89])
  (.cond (.t 89) (.seq (.region [⟨some 2, none, .mov (.c (.bool false))⟩] [2])
  .ret)
  .skip))
  (.seq (.region [⟨some 3, none, .mov (.c (.int .i32 95))⟩] [0, 3, 4, 5])
  (.exit 1)))
  .skip))
  (.seq (.seq (.region [⟨some 90, none, .mov (.t 3)⟩,
    ⟨some 91, none, .bin .eql (.t 90) (.c (.int .i32 95))⟩] [0, 4, 5, 91])
  (.cond (.t 91) (.seq (.region [⟨some 2, none, .mov (.c (.bool false))⟩] [2])
  .ret)
  .skip))
  (.region [⟨some 3, none, .mov (.c (.int .i32 33))⟩] [0, 3, 4, 5])))))
  (.region [⟨some 55, none, .mov (.t 4)⟩,
    ⟨some 56, none, .bin .add (.t 55) (.c (.int .i64 1))⟩,
    ⟨some 4, none, .mov (.t 56)⟩] [0, 3, 4, 5])))

/-- internal/strconv.underscoreOK -/
def i115 : AFunc := ⟨1, 94, [.tmp 2],
  (.seq (.region [⟨some 2, none, .mov (.c (.bool false))⟩] [0])
  (.seq (.region [⟨some 3, none, .mov (.c (.int .i32 94))⟩] [0, 3])
  (.seq (.region [⟨some 4, none, .mov (.c (.int .i64 0))⟩] [0, 3, 4])
  (.seq (.seq (.region [⟨some 6, none, .mov (.t 0)⟩,
    ⟨some 7, none, .lenstr (.t 6)⟩,
    ⟨some 8, none, .bin .geq (.t 7) (.c (.int .i64 1))⟩,
    ⟨some 9, none, .mov (.t 8)⟩,
    ⟨some 10, (some (9, true)), .mov (.t 0)⟩,
    ⟨some 11, (some (9, true)), .idxstr (.t 10) (.c (.int .i64 0))⟩,
    ⟨some 12, (some (9, true)), .bin .eql (.t 11) (.c (.int .u8 45))⟩,
    ⟨some 13, (some (9, true)), .mov (.t 12)⟩,
    ⟨some 14, (some (13, false)), .mov (.t 0)⟩,
    ⟨some 15, (some (13, false)), .idxstr (.t 14) (.c (.int .i64 0))⟩,
    ⟨some 16, (some (13, false)), .bin .eql (.t 15) (.c (.int .u8 43))⟩,
    ⟨some 17, (some (9, true)), .pick (.t 13) (.c (.bool true)) (.t 16)⟩,
    ⟨some 18, none, .pick (.t 9) (.t 17) (.c (.bool false))⟩] [0, 3, 4, 18])
  (.cond (.t 18) (.region [⟨some 19, none, .mov (.t 0)⟩,
    ⟨some 20, none, .slstr (.t 19) (some (.c (.int .i64 1))) none⟩,
    ⟨some 0, none, .mov (.t 20)⟩] [0, 3, 4])
  .skip))
  (.seq (.region [⟨some 5, none, .mov (.c (.bool false))⟩] [0, 3, 4, 5])
  (.seq (.seq (.region [⟨some 21, none, .mov (.t 0)⟩,
    ⟨some 22, none, .lenstr (.t 21)⟩,
    ⟨some 23, none, .bin .geq (.t 22) (.c (.int .i64 2))⟩,
    ⟨some 24, none, .mov (.t 23)⟩,
    ⟨some 25, (some (24, true)), .mov (.t 0)⟩,
    ⟨some 26, (some (24, true)), .idxstr (.t 25) (.c (.int .i64 0))⟩,
    ⟨some 27, (some (24, true)), .bin .eql (.t 26) (.c (.int .u8 48))⟩,
    ⟨some 28, none, .pick (.t 24) (.t 27) (.c (.bool false))⟩,
    ⟨some 29, none, .mov (.t 28)⟩,
    ⟨some 30, (some (29, true)), .mov (.t 0)⟩,
    ⟨some 31, (some (29, true)), .idxstr (.t 30) (.c (.int .i64 1))⟩,
    ⟨some 32, (some (29, true)), .call false 114 [(.t 31)]⟩,
    ⟨some 33, (some (29, true)), .bin .eql (.t 32) (.c (.int .u8 98))⟩,
    ⟨some 34, (some (29, true)), .mov (.t 33)⟩,
    ⟨some 35, (some (34, false)), .mov (.t 0)⟩,
    ⟨some 36, (some (34, false)), .idxstr (.t 35) (.c (.int .i64 1))⟩,
    ⟨some 37, (some (34, false)), .call false 114 [(.t 36)]⟩,
    ⟨some 38, (some (34, false)), .bin .eql (.t 37) (.c (.int .u8 111))⟩,
    ⟨some 39, (some (29, true)), .pick (.t 34) (.c (.bool true)) (.t 38)⟩,
    ⟨some 40, (some (29, true)), .mov (.t 39)⟩,
    ⟨some 41, (some (40, false)), .mov (.t 0)⟩,
    ⟨some 42, (some (40, false)), .idxstr (.t 41) (.c (.int .i64 1))⟩,
    ⟨some 43, (some (40, false)), .call false 114 [(.t 42)]⟩,
    ⟨some 44, (some (40, false)), .bin .eql (.t 43) (.c (.int .u8 120))⟩,
    ⟨some 45, (some (29, true)), .pick (.t 40) (.c (.bool true)) (.t 44)⟩,
    ⟨some 46, none, .pick (.t 29) (.t 45) (.c (.bool false))⟩] [0, 3, 4, 5, 46])
  (.cond (.t 46) (.seq (.region [⟨some 4, none, .mov (.c (.int .i64 2))⟩] [0, 4])
  (.seq (.region [⟨some 3, none, .mov (.c (.int .i32 48))⟩] [0, 3, 4])
  (.region [⟨some 47, none, .mov (.t 0)⟩,
    ⟨some 48, none, .idxstr (.t 47) (.c (.int .i64 1))⟩,
    ⟨some 49, none, .call false 114 [(.t 48)]⟩,
    ⟨some 50, none, .bin .eql (.t 49) (.c (.int .u8 120))⟩,
    ⟨some 5, none, .mov (.t 50)⟩] [0, 3, 4, 5])))
  .skip))
  (.seq (.block 0 (.loop [0, 3, 4, 5] i115_L0))
  (.seq (.region [⟨some 92, none, .mov (.t 3)⟩,
    ⟨some 93, none, .bin .neq (.t 92) (.c (.int .i32 95))⟩,
    ⟨some 2, none, .mov (.t 93)⟩] [2])
  .ret))))))))⟩

/-- strconv.syntaxError -/
def i116 : AFunc := ⟨2, 11, [.tmp 4],
  (.seq (.region [⟨some 4, none, .mov (.c .nilp)⟩] [0, 1])
  (.seq (.draw [⟨some 5, none, .mov (.t 0)⟩,
    ⟨some 6, none, .mov (.t 1)⟩,
    ⟨some 7, none, .call false 132 [(.t 6)]⟩,
    ⟨some 8, none, .load none (.g 2)⟩,
    ⟨some 9, none, .build [(.str []), (.str []), .nili] [(0, 1, (.t 5)), (1, 1, (.t 7)), (2, 1, (.t 8))]⟩,
    ⟨some 10, none, .ibox (.t 9)⟩,
    ⟨some 4, none, .mov (.t 10)⟩] [[], [], [1], [], [0, 1, 2, 3], [0, 1, 2, 3, 4], [0, 1, 2, 3, 4, 5]] [4])
  .ret))⟩

/-- strconv.rangeError -/
def i117 : AFunc := ⟨2, 11, [.tmp 4],
  (.seq (.region [⟨some 4, none, .mov (.c .nilp)⟩] [0, 1])
  (.seq (.draw [⟨some 5, none, .mov (.t 0)⟩,
    ⟨some 6, none, .mov (.t 1)⟩,
    ⟨some 7, none, .call false 132 [(.t 6)]⟩,
    ⟨some 8, none, .load none (.g 3)⟩,
    ⟨some 9, none, .build [(.str []), (.str []), .nili] [(0, 1, (.t 5)), (1, 1, (.t 7)), (2, 1, (.t 8))]⟩,
    ⟨some 10, none, .ibox (.t 9)⟩,
    ⟨some 4, none, .mov (.t 10)⟩] [[], [], [1], [], [0, 1, 2, 3], [0, 1, 2, 3, 4], [0, 1, 2, 3, 4, 5]] [4])
  .ret))⟩

/-- strconv.baseError -/
def i118 : AFunc := ⟨3, 16, [.tmp 6],
  (.seq (.region [⟨some 6, none, .mov (.c .nilp)⟩] [0, 1, 2])
  (.seq (.region [⟨some 7, none, .mov (.t 0)⟩,
    ⟨some 8, none, .mov (.t 1)⟩,
    ⟨some 9, none, .call false 132 [(.t 8)]⟩,
    ⟨some 10, none, .mov (.t 2)⟩,
    ⟨some 11, none, .call false 87 [(.t 10)]⟩,
    ⟨some 12, none, .bin .add (.c (.str [105, 110, 118, 97, 108, 105, 100, 32, 98, 97, 115, 101, 32])) (.t 11)⟩,
    ⟨some 13, none, .call false 133 [(.t 12)]⟩,
    ⟨some 14, none, .build [(.str []), (.str []), .nili] [(0, 1, (.t 7)), (1, 1, (.t 9)), (2, 1, (.t 13))]⟩,
    ⟨some 15, none, .ibox (.t 14)⟩,
    ⟨some 6, none, .mov (.t 15)⟩] [6])
  .ret))⟩

/-- strconv.bitSizeError -/
def i119 : AFunc := ⟨3, 16, [.tmp 6],
  (.seq (.region [⟨some 6, none, .mov (.c .nilp)⟩] [0, 1, 2])
  (.seq (.region [⟨some 7, none, .mov (.t 0)⟩,
    ⟨some 8, none, .mov (.t 1)⟩,
    ⟨some 9, none, .call false 132 [(.t 8)]⟩,
    ⟨some 10, none, .mov (.t 2)⟩,
    ⟨some 11, none, .call false 87 [(.t 10)]⟩,
    ⟨some 12, none, .bin .add (.c (.str [105, 110, 118, 97, 108, 105, 100, 32, 98, 105, 116, 32, 115, 105, 122, 101, 32])) (.t 11)⟩,
    ⟨some 13, none, .call false 133 [(.t 12)]⟩,
    ⟨some 14, none, .build [(.str []), (.str []), .nili] [(0, 1, (.t 7)), (1, 1, (.t 9)), (2, 1, (.t 13))]⟩,
    ⟨some 15, none, .ibox (.t 14)⟩,
    ⟨some 6, none, .mov (.t 15)⟩] [6])
  .ret))⟩

/-- strings.Index -/
def i120 : AFunc := ⟨2, 8, [.tmp 4],
  (.seq (.region [⟨some 4, none, .mov (.c (.int .i64 0))⟩] [0, 1])
  (.seq (.region [⟨some 5, none, .mov (.t 0)⟩,
    ⟨some 6, none, .mov (.t 1)⟩,
    ⟨some 7, none, .call false 134 [(.t 5), (.t 6)]⟩,
    ⟨some 4, none, .mov (.t 7)⟩] [4])
  .ret))⟩

/-- math/bits.Mul32 -/
def i122 : AFunc := ⟨2, 17, [.tmp 4, .tmp 5],
  (.seq (.region [⟨some 4, none, .mov (.c (.int .u32 0))⟩,
    ⟨some 5, none, .mov (.c (.int .u32 0))⟩] [0, 1])
  (.seq (.region [⟨some 7, none, .mov (.t 0)⟩,
    ⟨some 8, none, .cvi .u64 (.t 7)⟩,
    ⟨some 9, none, .mov (.t 1)⟩,
    ⟨some 10, none, .cvi .u64 (.t 9)⟩,
    ⟨some 11, none, .bin .mul (.t 8) (.t 10)⟩,
    ⟨some 6, none, .mov (.t 11)⟩] [6])
  (.seq (.region [⟨some 12, none, .mov (.t 6)⟩,
    ⟨some 13, none, .bin .shr (.t 12) (.c (.int .u64 32))⟩,
    ⟨some 14, none, .cvi .u32 (.t 13)⟩,
    ⟨some 15, none, .mov (.t 6)⟩,
    ⟨some 16, none, .cvi .u32 (.t 15)⟩,
    ⟨some 4, none, .mov (.t 14)⟩,
    ⟨some 5, none, .mov (.t 16)⟩] [4, 5])
  .ret)))⟩

/-- math/bits.Mul64 -/
def i123 : AFunc := ⟨2, 51, [.tmp 4, .tmp 5],
  (.seq (.region [⟨some 4, none, .mov (.c (.int .u64 0))⟩,
    ⟨some 5, none, .mov (.c (.int .u64 0))⟩] [0, 1])
  (.seq (.region [⟨some 14, none, .mov (.t 0)⟩,
    ⟨some 15, none, .bin .and (.t 14) (.c (.int .u64 4294967295))⟩,
    ⟨some 6, none, .mov (.t 15)⟩] [0, 1, 6])
  (.seq (.region [⟨some 16, none, .mov (.t 0)⟩,
    ⟨some 17, none, .bin .shr (.t 16) (.c (.int .u64 32))⟩,
    ⟨some 7, none, .mov (.t 17)⟩] [0, 1, 6, 7])
  (.seq (.region [⟨some 18, none, .mov (.t 1)⟩,
    ⟨some 19, none, .bin .and (.t 18) (.c (.int .u64 4294967295))⟩,
    ⟨some 8, none, .mov (.t 19)⟩] [0, 1, 6, 7, 8])
  (.seq (.region [⟨some 20, none, .mov (.t 1)⟩,
    ⟨some 21, none, .bin .shr (.t 20) (.c (.int .u64 32))⟩,
    ⟨some 9, none, .mov (.t 21)⟩] [0, 1, 6, 7, 8, 9])
  (.seq (.region [⟨some 22, none, .mov (.t 6)⟩,
    ⟨some 23, none, .mov (.t 8)⟩,
    ⟨some 24, none, .bin .mul (.t 22) (.t 23)⟩,
    ⟨some 10, none, .mov (.t 24)⟩] [0, 1, 6, 7, 8, 9, 10])
  (.seq (.region [⟨some 25, none, .mov (.t 7)⟩,
    ⟨some 26, none, .mov (.t 8)⟩,
    ⟨some 27, none, .bin .mul (.t 25) (.t 26)⟩,
    ⟨some 28, none, .mov (.t 10)⟩,
    ⟨some 29, none, .bin .shr (.t 28) (.c (.int .u64 32))⟩,
    ⟨some 30, none, .bin .add (.t 27) (.t 29)⟩,
    ⟨some 11, none, .mov (.t 30)⟩] [0, 1, 6, 7, 9, 11])
  (.seq (.region [⟨some 31, none, .mov (.t 11)⟩,
    ⟨some 32, none, .bin .and (.t 31) (.c (.int .u64 4294967295))⟩,
    ⟨some 12, none, .mov (.t 32)⟩] [0, 1, 6, 7, 9, 11, 12])
  (.seq (.region [⟨some 33, none, .mov (.t 11)⟩,
    ⟨some 34, none, .bin .shr (.t 33) (.c (.int .u64 32))⟩,
    ⟨some 13, none, .mov (.t 34)⟩] [0, 1, 6, 7, 9, 12, 13])
  (.seq (.region [⟨some 35, none, .mov (.t 12)⟩,
    ⟨some 36, none, .mov (.t 6)⟩,
    ⟨some 37, none, .mov (.t 9)⟩,
    ⟨some 38, none, .bin .mul (.t 36) (.t 37)⟩,
    ⟨some 39, none, .bin .add (.t 35) (.t 38)⟩,
    ⟨some 12, none, .mov (.t 39)⟩] [0, 1, 7, 9, 12, 13])
  (.seq (.region [⟨some 40, none, .mov (.t 7)⟩,
    ⟨some 41, none, .mov (.t 9)⟩,
    ⟨some 42, none, .bin .mul (.t 40) (.t 41)⟩,
    ⟨some 43, none, .mov (.t 13)⟩,
    ⟨some 44, none, .bin .add (.t 42) (.t 43)⟩,
    ⟨some 45, none, .mov (.t 12)⟩,
    ⟨some 46, none, .bin .shr (.t 45) (.c (.int .u64 32))⟩,
    ⟨some 47, none, .bin .add (.t 44) (.t 46)⟩,
    ⟨some 4, none, .mov (.t 47)⟩] [0, 1, 4])
  (.seq (.region [⟨some 48, none, .mov (.t 0)⟩,
    ⟨some 49, none, .mov (.t 1)⟩,
    ⟨some 50, none, .bin .mul (.t 48) (.t 49)⟩,
    ⟨some 5, none, .mov (.t 50)⟩] [4, 5])
  .ret))))))))))))⟩

/-- internal/stringslite.HasPrefix -/
def i124 : AFunc := ⟨2, 18, [.tmp 4],
  (.seq (.region [⟨some 4, none, .mov (.c (.bool false))⟩] [0, 1])
  (.seq (.region [⟨some 5, none, .mov (.t 0)⟩,
    ⟨some 6, none, .lenstr (.t 5)⟩,
    ⟨some 7, none, .mov (.t 1)⟩,
    ⟨some 8, none, .lenstr (.t 7)⟩,
    ⟨some 9, none, .bin .geq (.t 6) (.t 8)⟩,
    ⟨some 10, none, .mov (.t 9)⟩,
    ⟨some 11, (some (10, true)), .mov (.t 0)⟩,
    ⟨some 12, (some (10, true)), .mov (.t 1)⟩,
    ⟨some 13, (some (10, true)), .lenstr (.t 12)⟩,
    ⟨some 14, (some (10, true)), .slstr (.t 11) none (some (.t 13))⟩,
    ⟨some 15, (some (10, true)), .mov (.t 1)⟩,
    ⟨some 16, (some (10, true)), .bin .eql (.t 14) (.t 15)⟩,
    ⟨some 17, none, .pick (.t 10) (.t 16) (.c (.bool false))⟩,
    ⟨some 4, none, .mov (.t 17)⟩] [4])
  .ret))⟩

/-- internal/strconv.small -/
def i126 : AFunc := ⟨1, 15, [.tmp 2],
  (.seq (.region [⟨some 2, none, .mov (.c (.str []))⟩] [0])
  (.seq (.seq (.region [⟨some 3, none, .mov (.t 0)⟩,
    ⟨some 4, none, .bin .lss (.t 3) (.c (.int .i64 10))⟩] [0, 4])
  (.cond (.t 4) (.seq (.region [⟨some 5, none, .mov (.t 0)⟩,
    ⟨some 6, none, .mov (.t 0)⟩,
    ⟨some 7, none, .bin .add (.t 6) (.c (.int .i64 1))⟩,
    ⟨some 8, none, .slstr (.c (.str [48, 49, 50, 51, 52, 53, 54, 55, 56, 57, 97, 98, 99, 100, 101, 102, 103, 104, 105, 106, 107, 108, 109, 110, 111, 112, 113, 114, 115, 116, 117, 118, 119, 120, 121, 122])) (some (.t 5)) (some (.t 7))⟩,
    ⟨some 2, none, .mov (.t 8)⟩] [2])
  .ret)
  .skip))
  (.seq (.region [⟨some 9, none, .mov (.t 0)⟩,
    ⟨some 10, none, .bin .mul (.t 9) (.c (.int .i64 2))⟩,
    ⟨some 11, none, .mov (.t 0)⟩,
    ⟨some 12, none, .bin .mul (.t 11) (.c (.int .i64 2))⟩,
    ⟨some 13, none, .bin .add (.t 12) (.c (.int .i64 2))⟩,
    ⟨some 14, none, .slstr (.c (.str [48, 48, 48, 49, 48, 50, 48, 51, 48, 52, 48, 53, 48, 54, 48, 55, 48, 56, 48, 57, 49, 48, 49, 49, 49, 50, 49, 51, 49, 52, 49, 53, 49, 54, 49, 55, 49, 56, 49, 57, 50, 48, 50, 49, 50, 50, 50, 51, 50, 52, 50, 53, 50, 54, 50, 55, 50, 56, 50, 57, 51, 48, 51, 49, 51, 50, 51, 51, 51, 52, 51, 53, 51, 54, 51, 55, 51, 56, 51, 57, 52, 48, 52, 49, 52, 50, 52, 51, 52, 52, 52, 53, 52, 54, 52, 55, 52, 56, 52, 57, 53, 48, 53, 49, 53, 50, 53, 51, 53, 52, 53, 53, 53, 54, 53, 55, 53, 56, 53, 57, 54, 48, 54, 49, 54, 50, 54, 51, 54, 52, 54, 53, 54, 54, 54, 55, 54, 56, 54, 57, 55, 48, 55, 49, 55, 50, 55, 51, 55, 52, 55, 53, 55, 54, 55, 55, 55, 56, 55, 57, 56, 48, 56, 49, 56, 50, 56, 51, 56, 52, 56, 53, 56, 54, 56, 55, 56, 56, 56, 57, 57, 48, 57, 49, 57, 50, 57, 51, 57, 52, 57, 53, 57, 54, 57, 55, 57, 56, 57, 57])) (some (.t 10)) (some (.t 13))⟩,
    ⟨some 2, none, .mov (.t 14)⟩] [2])
  .ret)))⟩

/-- internal/strconv.numDigits -/
def i127 : AFunc := ⟨1, 15, [.tmp 2],
  (.seq (.region [⟨some 2, none, .mov (.c (.int .i64 0))⟩] [0])
  (.seq (.region [⟨some 4, none, .mov (.t 0)⟩,
    ⟨some 5, none, .call false 137 [(.t 4)]⟩,
    ⟨some 6, none, .call false 136 [(.t 5)]⟩,
    ⟨some 3, none, .mov (.t 6)⟩] [0, 3])
  (.seq (.region [⟨some 7, none, .mov (.t 3)⟩,
    ⟨some 8, none, .mov (.t 0)⟩,
    ⟨some 9, none, .mov (.t 3)⟩,
    ⟨some 10, none, .idxaa 20 1 (.g 4) (.t 9)⟩,
    ⟨some 11, none, .load none (.t 10)⟩,
    ⟨some 12, none, .bin .geq (.t 8) (.t 11)⟩,
    ⟨some 13, none, .call false 138 [(.t 12)]⟩,
    ⟨some 14, none, .bin .add (.t 7) (.t 13)⟩,
    ⟨some 2, none, .mov (.t 14)⟩] [2])
  .ret)))⟩

def i128_L0 : ACode :=
  (.seq (.seq (.region [⟨some 19, none, .mov (.t 4)⟩,
    ⟨some 20, none, .bin .geq (.t 19) (.c (.int .i64 8))⟩] [0, 1, 4, 20])
  (.cond (.t 20) .skip
  (.exit 0)))
  (.block 1 (.seq (.region [⟨some 21, none, .mov (.t 1)⟩,
    ⟨some 22, none, .bin .rem (.t 21) (.c (.int .u64 100000000))⟩,
    ⟨some 23, none, .cvi .u32 (.t 22)⟩,
    ⟨some 5, none, .mov (.t 23)⟩] [0, 1, 4, 5])
  (.seq (.region [⟨some 24, none, .mov (.t 1)⟩,
    ⟨some 25, none, .bin .quo (.t 24) (.c (.int .u64 100000000))⟩,
    ⟨some 1, none, .mov (.t 25)⟩] [0, 1, 4, 5])
  (.seq (.region [⟨some 26, none, .mov (.t 5)⟩,
    ⟨some 27, none, .bin .quo (.t 26) (.c (.int .u32 10000))⟩,
    ⟨some 28, none, .mov (.t 5)⟩,
    ⟨some 29, none, .bin .rem (.t 28) (.c (.int .u32 10000))⟩,
    ⟨some 6, none, .mov (.t 27)⟩,
    ⟨some 7, none, .mov (.t 29)⟩] [0, 1, 4, 6, 7])
  (.seq (.region [⟨some 30, none, .mov (.t 7)⟩,
    ⟨some 31, none, .bin .quo (.t 30) (.c (.int .u32 100))⟩,
    ⟨some 32, none, .bin .mul (.t 31) (.c (.int .u32 2))⟩,
    ⟨some 33, none, .mov (.t 7)⟩,
    ⟨some 34, none, .bin .rem (.t 33) (.c (.int .u32 100))⟩,
    ⟨some 35, none, .bin .mul (.t 34) (.c (.int .u32 2))⟩,
    ⟨some 8, none, .mov (.t 32)⟩,
    ⟨some 9, none, .mov (.t 35)⟩] [0, 1, 4, 6, 8, 9])
  (.seq (.region [⟨some 36, none, .mov (.t 6)⟩,
    ⟨some 37, none, .bin .quo (.t 36) (.c (.int .u32 100))⟩,
    ⟨some 38, none, .bin .mul (.t 37) (.c (.int .u32 2))⟩,
    ⟨some 39, none, .mov (.t 6)⟩,
    ⟨some 40, none, .bin .rem (.t 39) (.c (.int .u32 100))⟩,
    ⟨some 41, none, .bin .mul (.t 40) (.c (.int .u32 2))⟩,
    ⟨some 10, none, .mov (.t 38)⟩,
    ⟨some 11, none, .mov (.t 41)⟩] [0, 1, 4, 8, 9, 10, 11])
  (.seq (.draw [⟨some 42, none, .mov (.t 0)⟩,
    ⟨some 43, none, .mov (.t 4)⟩,
    ⟨some 44, none, .bin .sub (.t 43) (.c (.int .i64 1))⟩,
    ⟨some 45, none, .mov (.t 0)⟩,
    ⟨some 46, none, .mov (.t 4)⟩,
    ⟨some 47, none, .bin .sub (.t 46) (.c (.int .i64 2))⟩,
    ⟨some 48, none, .mov (.t 9)⟩,
    ⟨some 49, none, .bin .add (.t 48) (.c (.int .u32 1))⟩,
    ⟨some 50, none, .idxstr (.c (.str [48, 48, 48, 49, 48, 50, 48, 51, 48, 52, 48, 53, 48, 54, 48, 55, 48, 56, 48, 57, 49, 48, 49, 49, 49, 50, 49, 51, 49, 52, 49, 53, 49, 54, 49, 55, 49, 56, 49, 57, 50, 48, 50, 49, 50, 50, 50, 51, 50, 52, 50, 53, 50, 54, 50, 55, 50, 56, 50, 57, 51, 48, 51, 49, 51, 50, 51, 51, 51, 52, 51, 53, 51, 54, 51, 55, 51, 56, 51, 57, 52, 48, 52, 49, 52, 50, 52, 51, 52, 52, 52, 53, 52, 54, 52, 55, 52, 56, 52, 57, 53, 48, 53, 49, 53, 50, 53, 51, 53, 52, 53, 53, 53, 54, 53, 55, 53, 56, 53, 57, 54, 48, 54, 49, 54, 50, 54, 51, 54, 52, 54, 53, 54, 54, 54, 55, 54, 56, 54, 57, 55, 48, 55, 49, 55, 50, 55, 51, 55, 52, 55, 53, 55, 54, 55, 55, 55, 56, 55, 57, 56, 48, 56, 49, 56, 50, 56, 51, 56, 52, 56, 53, 56, 54, 56, 55, 56, 56, 56, 57, 57, 48, 57, 49, 57, 50, 57, 51, 57, 52, 57, 53, 57, 54, 57, 55, 57, 56, 57, 57])) (.t 49)⟩,
    ⟨some 51, none, .mov (.t 9)⟩,
    ⟨some 52, none, .idxstr (.c (.str [48, 48, 48, 49, 48, 50, 48, 51, 48, 52, 48, 53, 48, 54, 48, 55, 48, 56, 48, 57, 49, 48, 49, 49, 49, 50, 49, 51, 49, 52, 49, 53, 49, 54, 49, 55, 49, 56, 49, 57, 50, 48, 50, 49, 50, 50, 50, 51, 50, 52, 50, 53, 50, 54, 50, 55, 50, 56, 50, 57, 51, 48, 51, 49, 51, 50, 51, 51, 51, 52, 51, 53, 51, 54, 51, 55, 51, 56, 51, 57, 52, 48, 52, 49, 52, 50, 52, 51, 52, 52, 52, 53, 52, 54, 52, 55, 52, 56, 52, 57, 53, 48, 53, 49, 53, 50, 53, 51, 53, 52, 53, 53, 53, 54, 53, 55, 53, 56, 53, 57, 54, 48, 54, 49, 54, 50, 54, 51, 54, 52, 54, 53, 54, 54, 54, 55, 54, 56, 54, 57, 55, 48, 55, 49, 55, 50, 55, 51, 55, 52, 55, 53, 55, 54, 55, 55, 55, 56, 55, 57, 56, 48, 56, 49, 56, 50, 56, 51, 56, 52, 56, 53, 56, 54, 56, 55, 56, 56, 56, 57, 57, 48, 57, 49, 57, 50, 57, 51, 57, 52, 57, 53, 57, 54, 57, 55, 57, 56, 57, 57])) (.t 51)⟩,
    ⟨some 53, none, .idxas 1 (.t 42) (.t 44)⟩,
    ⟨none, none, .store 1 (.t 53) (.t 50)⟩,
    ⟨some 54, none, .idxas 1 (.t 45) (.t 47)⟩,
    ⟨none, none, .store 1 (.t 54) (.t 52)⟩] [[], [], [1], [], [], [4], [], [6], [6, 7], [], [9], [0, 1, 2, 6, 7], [0, 1, 2, 6, 7, 8, 11], [0, 1, 2, 3, 4, 5, 6, 7, 8, 9, 11, 12], [0, 1, 2, 3, 4, 5, 6, 7, 8, 9, 10, 11, 12, 13]] [0, 1, 4, 8, 10, 11])
  (.seq (.draw [⟨some 55, none, .mov (.t 0)⟩,
    ⟨some 56, none, .mov (.t 4)⟩,
    ⟨some 57, none, .bin .sub (.t 56) (.c (.int .i64 3))⟩,
    ⟨some 58, none, .mov (.t 0)⟩,
    ⟨some 59, none, .mov (.t 4)⟩,
    ⟨some 60, none, .bin .sub (.t 59) (.c (.int .i64 4))⟩,
    ⟨some 61, none, .mov (.t 8)⟩,
    ⟨some 62, none, .bin .add (.t 61) (.c (.int .u32 1))⟩,
    ⟨some 63, none, .idxstr (.c (.str [48, 48, 48, 49, 48, 50, 48, 51, 48, 52, 48, 53, 48, 54, 48, 55, 48, 56, 48, 57, 49, 48, 49, 49, 49, 50, 49, 51, 49, 52, 49, 53, 49, 54, 49, 55, 49, 56, 49, 57, 50, 48, 50, 49, 50, 50, 50, 51, 50, 52, 50, 53, 50, 54, 50, 55, 50, 56, 50, 57, 51, 48, 51, 49, 51, 50, 51, 51, 51, 52, 51, 53, 51, 54, 51, 55, 51, 56, 51, 57, 52, 48, 52, 49, 52, 50, 52, 51, 52, 52, 52, 53, 52, 54, 52, 55, 52, 56, 52, 57, 53, 48, 53, 49, 53, 50, 53, 51, 53, 52, 53, 53, 53, 54, 53, 55, 53, 56, 53, 57, 54, 48, 54, 49, 54, 50, 54, 51, 54, 52, 54, 53, 54, 54, 54, 55, 54, 56, 54, 57, 55, 48, 55, 49, 55, 50, 55, 51, 55, 52, 55, 53, 55, 54, 55, 55, 55, 56, 55, 57, 56, 48, 56, 49, 56, 50, 56, 51, 56, 52, 56, 53, 56, 54, 56, 55, 56, 56, 56, 57, 57, 48, 57, 49, 57, 50, 57, 51, 57, 52, 57, 53, 57, 54, 57, 55, 57, 56, 57, 57])) (.t 62)⟩,
    ⟨some 64, none, .mov (.t 8)⟩,
    ⟨some 65, none, .idxstr (.c (.str [48, 48, 48, 49, 48, 50, 48, 51, 48, 52, 48, 53, 48, 54, 48, 55, 48, 56, 48, 57, 49, 48, 49, 49, 49, 50, 49, 51, 49, 52, 49, 53, 49, 54, 49, 55, 49, 56, 49, 57, 50, 48, 50, 49, 50, 50, 50, 51, 50, 52, 50, 53, 50, 54, 50, 55, 50, 56, 50, 57, 51, 48, 51, 49, 51, 50, 51, 51, 51, 52, 51, 53, 51, 54, 51, 55, 51, 56, 51, 57, 52, 48, 52, 49, 52, 50, 52, 51, 52, 52, 52, 53, 52, 54, 52, 55, 52, 56, 52, 57, 53, 48, 53, 49, 53, 50, 53, 51, 53, 52, 53, 53, 53, 54, 53, 55, 53, 56, 53, 57, 54, 48, 54, 49, 54, 50, 54, 51, 54, 52, 54, 53, 54, 54, 54, 55, 54, 56, 54, 57, 55, 48, 55, 49, 55, 50, 55, 51, 55, 52, 55, 53, 55, 54, 55, 55, 55, 56, 55, 57, 56, 48, 56, 49, 56, 50, 56, 51, 56, 52, 56, 53, 56, 54, 56, 55, 56, 56, 56, 57, 57, 48, 57, 49, 57, 50, 57, 51, 57, 52, 57, 53, 57, 54, 57, 55, 57, 56, 57, 57])) (.t 64)⟩,
    ⟨some 66, none, .idxas 1 (.t 55) (.t 57)⟩,
    ⟨none, none, .store 1 (.t 66) (.t 63)⟩,
    ⟨some 67, none, .idxas 1 (.t 58) (.t 60)⟩,
    ⟨none, none, .store 1 (.t 67) (.t 65)⟩] [[], [], [1], [], [], [4], [], [6], [6, 7], [], [9], [0, 1, 2, 6, 7], [0, 1, 2, 6, 7, 8, 11], [0, 1, 2, 3, 4, 5, 6, 7, 8, 9, 11, 12], [0, 1, 2, 3, 4, 5, 6, 7, 8, 9, 10, 11, 12, 13]] [0, 1, 4, 10, 11])
  (.seq (.draw [⟨some 68, none, .mov (.t 0)⟩,
    ⟨some 69, none, .mov (.t 4)⟩,
    ⟨some 70, none, .bin .sub (.t 69) (.c (.int .i64 5))⟩,
    ⟨some 71, none, .mov (.t 0)⟩,
    ⟨some 72, none, .mov (.t 4)⟩,
    ⟨some 73, none, .bin .sub (.t 72) (.c (.int .i64 6))⟩,
    ⟨some 74, none, .mov (.t 11)⟩,
    ⟨some 75, none, .bin .add (.t 74) (.c (.int .u32 1))⟩,
    ⟨some 76, none, .idxstr (.c (.str [48, 48, 48, 49, 48, 50, 48, 51, 48, 52, 48, 53, 48, 54, 48, 55, 48, 56, 48, 57, 49, 48, 49, 49, 49, 50, 49, 51, 49, 52, 49, 53, 49, 54, 49, 55, 49, 56, 49, 57, 50, 48, 50, 49, 50, 50, 50, 51, 50, 52, 50, 53, 50, 54, 50, 55, 50, 56, 50, 57, 51, 48, 51, 49, 51, 50, 51, 51, 51, 52, 51, 53, 51, 54, 51, 55, 51, 56, 51, 57, 52, 48, 52, 49, 52, 50, 52, 51, 52, 52, 52, 53, 52, 54, 52, 55, 52, 56, 52, 57, 53, 48, 53, 49, 53, 50, 53, 51, 53, 52, 53, 53, 53, 54, 53, 55, 53, 56, 53, 57, 54, 48, 54, 49, 54, 50, 54, 51, 54, 52, 54, 53, 54, 54, 54, 55, 54, 56, 54, 57, 55, 48, 55, 49, 55, 50, 55, 51, 55, 52, 55, 53, 55, 54, 55, 55, 55, 56, 55, 57, 56, 48, 56, 49, 56, 50, 56, 51, 56, 52, 56, 53, 56, 54, 56, 55, 56, 56, 56, 57, 57, 48, 57, 49, 57, 50, 57, 51, 57, 52, 57, 53, 57, 54, 57, 55, 57, 56, 57, 57])) (.t 75)⟩,
    ⟨some 77, none, .mov (.t 11)⟩,
    ⟨some 78, none, .idxstr (.c (.str [48, 48, 48, 49, 48, 50, 48, 51, 48, 52, 48, 53, 48, 54, 48, 55, 48, 56, 48, 57, 49, 48, 49, 49, 49, 50, 49, 51, 49, 52, 49, 53, 49, 54, 49, 55, 49, 56, 49, 57, 50, 48, 50, 49, 50, 50, 50, 51, 50, 52, 50, 53, 50, 54, 50, 55, 50, 56, 50, 57, 51, 48, 51, 49, 51, 50, 51, 51, 51, 52, 51, 53, 51, 54, 51, 55, 51, 56, 51, 57, 52, 48, 52, 49, 52, 50, 52, 51, 52, 52, 52, 53, 52, 54, 52, 55, 52, 56, 52, 57, 53, 48, 53, 49, 53, 50, 53, 51, 53, 52, 53, 53, 53, 54, 53, 55, 53, 56, 53, 57, 54, 48, 54, 49, 54, 50, 54, 51, 54, 52, 54, 53, 54, 54, 54, 55, 54, 56, 54, 57, 55, 48, 55, 49, 55, 50, 55, 51, 55, 52, 55, 53, 55, 54, 55, 55, 55, 56, 55, 57, 56, 48, 56, 49, 56, 50, 56, 51, 56, 52, 56, 53, 56, 54, 56, 55, 56, 56, 56, 57, 57, 48, 57, 49, 57, 50, 57, 51, 57, 52, 57, 53, 57, 54, 57, 55, 57, 56, 57, 57])) (.t 77)⟩,
    ⟨some 79, none, .idxas 1 (.t 68) (.t 70)⟩,
    ⟨none, none, .store 1 (.t 79) (.t 76)⟩,
    ⟨some 80, none, .idxas 1 (.t 71) (.t 73)⟩,
    ⟨none, none, .store 1 (.t 80) (.t 78)⟩] [[], [], [1], [], [], [4], [], [6], [6, 7], [], [9], [0, 1, 2, 6, 7], [0, 1, 2, 6, 7, 8, 11], [0, 1, 2, 3, 4, 5, 6, 7, 8, 9, 11, 12], [0, 1, 2, 3, 4, 5, 6, 7, 8, 9, 10, 11, 12, 13]] [0, 1, 4, 10])
  (.seq (.draw [⟨some 81, none, .mov (.t 0)⟩,
    ⟨some 82, none, .mov (.t 4)⟩,
    ⟨some 83, none, .bin .sub (.t 82) (.c (.int .i64 7))⟩,
    ⟨some 84, none, .mov (.t 0)⟩,
    ⟨some 85, none, .mov (.t 4)⟩,
    ⟨some 86, none, .bin .sub (.t 85) (.c (.int .i64 8))⟩,
    ⟨some 87, none, .mov (.t 10)⟩,
    ⟨some 88, none, .bin .add (.t 87) (.c (.int .u32 1))⟩,
    ⟨some 89, none, .idxstr (.c (.str [48, 48, 48, 49, 48, 50, 48, 51, 48, 52, 48, 53, 48, 54, 48, 55, 48, 56, 48, 57, 49, 48, 49, 49, 49, 50, 49, 51, 49, 52, 49, 53, 49, 54, 49, 55, 49, 56, 49, 57, 50, 48, 50, 49, 50, 50, 50, 51, 50, 52, 50, 53, 50, 54, 50, 55, 50, 56, 50, 57, 51, 48, 51, 49, 51, 50, 51, 51, 51, 52, 51, 53, 51, 54, 51, 55, 51, 56, 51, 57, 52, 48, 52, 49, 52, 50, 52, 51, 52, 52, 52, 53, 52, 54, 52, 55, 52, 56, 52, 57, 53, 48, 53, 49, 53, 50, 53, 51, 53, 52, 53, 53, 53, 54, 53, 55, 53, 56, 53, 57, 54, 48, 54, 49, 54, 50, 54, 51, 54, 52, 54, 53, 54, 54, 54, 55, 54, 56, 54, 57, 55, 48, 55, 49, 55, 50, 55, 51, 55, 52, 55, 53, 55, 54, 55, 55, 55, 56, 55, 57, 56, 48, 56, 49, 56, 50, 56, 51, 56, 52, 56, 53, 56, 54, 56, 55, 56, 56, 56, 57, 57, 48, 57, 49, 57, 50, 57, 51, 57, 52, 57, 53, 57, 54, 57, 55, 57, 56, 57, 57])) (.t 88)⟩,
    ⟨some 90, none, .mov (.t 10)⟩,
    ⟨some 91, none, .idxstr (.c (.str [48, 48, 48, 49, 48, 50, 48, 51, 48, 52, 48, 53, 48, 54, 48, 55, 48, 56, 48, 57, 49, 48, 49, 49, 49, 50, 49, 51, 49, 52, 49, 53, 49, 54, 49, 55, 49, 56, 49, 57, 50, 48, 50, 49, 50, 50, 50, 51, 50, 52, 50, 53, 50, 54, 50, 55, 50, 56, 50, 57, 51, 48, 51, 49, 51, 50, 51, 51, 51, 52, 51, 53, 51, 54, 51, 55, 51, 56, 51, 57, 52, 48, 52, 49, 52, 50, 52, 51, 52, 52, 52, 53, 52, 54, 52, 55, 52, 56, 52, 57, 53, 48, 53, 49, 53, 50, 53, 51, 53, 52, 53, 53, 53, 54, 53, 55, 53, 56, 53, 57, 54, 48, 54, 49, 54, 50, 54, 51, 54, 52, 54, 53, 54, 54, 54, 55, 54, 56, 54, 57, 55, 48, 55, 49, 55, 50, 55, 51, 55, 52, 55, 53, 55, 54, 55, 55, 55, 56, 55, 57, 56, 48, 56, 49, 56, 50, 56, 51, 56, 52, 56, 53, 56, 54, 56, 55, 56, 56, 56, 57, 57, 48, 57, 49, 57, 50, 57, 51, 57, 52, 57, 53, 57, 54, 57, 55, 57, 56, 57, 57])) (.t 90)⟩,
    ⟨some 92, none, .idxas 1 (.t 81) (.t 83)⟩,
    ⟨none, none, .store 1 (.t 92) (.t 89)⟩,
    ⟨some 93, none, .idxas 1 (.t 84) (.t 86)⟩,
    ⟨none, none, .store 1 (.t 93) (.t 91)⟩] [[], [], [1], [], [], [4], [], [6], [6, 7], [], [9], [0, 1, 2, 6, 7], [0, 1, 2, 6, 7, 8, 11], [0, 1, 2, 3, 4, 5, 6, 7, 8, 9, 11, 12], [0, 1, 2, 3, 4, 5, 6, 7, 8, 9, 10, 11, 12, 13]] [0, 1, 4])
  (.region [⟨some 94, none, .mov (.t 4)⟩,
    ⟨some 95, none, .bin .sub (.t 94) (.c (.int .i64 8))⟩,
    ⟨some 4, none, .mov (.t 95)⟩] [0, 1, 4]))))))))))))

/-- internal/strconv.formatBase10 -/
def i128 : AFunc := ⟨2, 167, [],
  (.seq (.region [⟨some 17, none, .mov (.t 0)⟩,
    ⟨some 18, none, .lensl (.t 17)⟩,
    ⟨some 4, none, .mov (.t 18)⟩] [0, 1, 4])
  (.seq (.block 0 (.loop [0, 1, 4] i128_L0))
  (.seq (.region [⟨some 96, none, .mov (.t 1)⟩,
    ⟨some 97, none, .cvi .u32 (.t 96)⟩,
    ⟨some 12, none, .mov (.t 97)⟩] [0, 4, 12])
  (.seq (.seq (.region [⟨some 98, none, .mov (.t 4)⟩,
    ⟨some 99, none, .bin .geq (.t 98) (.c (.int .i64 4))⟩] [0, 4, 12, 99])
  (.cond (.t 99) (.seq (.region [⟨some 100, none, .mov (.t 12)⟩,
    ⟨some 101, none, .bin .rem (.t 100) (.c (.int .u32 10000))⟩,
    ⟨some 13, none, .mov (.t 101)⟩] [0, 4, 12, 13])
  (.seq (.region [⟨some 102, none, .mov (.t 12)⟩,
    ⟨some 103, none, .bin .quo (.t 102) (.c (.int .u32 10000))⟩,
    ⟨some 12, none, .mov (.t 103)⟩] [0, 4, 12, 13])
  (.seq (.region [⟨some 104, none, .mov (.t 13)⟩,
    ⟨some 105, none, .bin .quo (.t 104) (.c (.int .u32 100))⟩,
    ⟨some 106, none, .bin .mul (.t 105) (.c (.int .u32 2))⟩,
    ⟨some 107, none, .mov (.t 13)⟩,
    ⟨some 108, none, .bin .rem (.t 107) (.c (.int .u32 100))⟩,
    ⟨some 109, none, .bin .mul (.t 108) (.c (.int .u32 2))⟩,
    ⟨some 14, none, .mov (.t 106)⟩,
    ⟨some 15, none, .mov (.t 109)⟩] [0, 4, 12, 14, 15])
  (.seq (.draw [⟨some 110, none, .mov (.t 0)⟩,
    ⟨some 111, none, .mov (.t 4)⟩,
    ⟨some 112, none, .bin .sub (.t 111) (.c (.int .i64 1))⟩,
    ⟨some 113, none, .mov (.t 0)⟩,
    ⟨some 114, none, .mov (.t 4)⟩,
    ⟨some 115, none, .bin .sub (.t 114) (.c (.int .i64 2))⟩,
    ⟨some 116, none, .mov (.t 15)⟩,
    ⟨some 117, none, .bin .add (.t 116) (.c (.int .u32 1))⟩,
    ⟨some 118, none, .idxstr (.c (.str [48, 48, 48, 49, 48, 50, 48, 51, 48, 52, 48, 53, 48, 54, 48, 55, 48, 56, 48, 57, 49, 48, 49, 49, 49, 50, 49, 51, 49, 52, 49, 53, 49, 54, 49, 55, 49, 56, 49, 57, 50, 48, 50, 49, 50, 50, 50, 51, 50, 52, 50, 53, 50, 54, 50, 55, 50, 56, 50, 57, 51, 48, 51, 49, 51, 50, 51, 51, 51, 52, 51, 53, 51, 54, 51, 55, 51, 56, 51, 57, 52, 48, 52, 49, 52, 50, 52, 51, 52, 52, 52, 53, 52, 54, 52, 55, 52, 56, 52, 57, 53, 48, 53, 49, 53, 50, 53, 51, 53, 52, 53, 53, 53, 54, 53, 55, 53, 56, 53, 57, 54, 48, 54, 49, 54, 50, 54, 51, 54, 52, 54, 53, 54, 54, 54, 55, 54, 56, 54, 57, 55, 48, 55, 49, 55, 50, 55, 51, 55, 52, 55, 53, 55, 54, 55, 55, 55, 56, 55, 57, 56, 48, 56, 49, 56, 50, 56, 51, 56, 52, 56, 53, 56, 54, 56, 55, 56, 56, 56, 57, 57, 48, 57, 49, 57, 50, 57, 51, 57, 52, 57, 53, 57, 54, 57, 55, 57, 56, 57, 57])) (.t 117)⟩,
    ⟨some 119, none, .mov (.t 15)⟩,
    ⟨some 120, none, .idxstr (.c (.str [48, 48, 48, 49, 48, 50, 48, 51, 48, 52, 48, 53, 48, 54, 48, 55, 48, 56, 48, 57, 49, 48, 49, 49, 49, 50, 49, 51, 49, 52, 49, 53, 49, 54, 49, 55, 49, 56, 49, 57, 50, 48, 50, 49, 50, 50, 50, 51, 50, 52, 50, 53, 50, 54, 50, 55, 50, 56, 50, 57, 51, 48, 51, 49, 51, 50, 51, 51, 51, 52, 51, 53, 51, 54, 51, 55, 51, 56, 51, 57, 52, 48, 52, 49, 52, 50, 52, 51, 52, 52, 52, 53, 52, 54, 52, 55, 52, 56, 52, 57, 53, 48, 53, 49, 53, 50, 53, 51, 53, 52, 53, 53, 53, 54, 53, 55, 53, 56, 53, 57, 54, 48, 54, 49, 54, 50, 54, 51, 54, 52, 54, 53, 54, 54, 54, 55, 54, 56, 54, 57, 55, 48, 55, 49, 55, 50, 55, 51, 55, 52, 55, 53, 55, 54, 55, 55, 55, 56, 55, 57, 56, 48, 56, 49, 56, 50, 56, 51, 56, 52, 56, 53, 56, 54, 56, 55, 56, 56, 56, 57, 57, 48, 57, 49, 57, 50, 57, 51, 57, 52, 57, 53, 57, 54, 57, 55, 57, 56, 57, 57])) (.t 119)⟩,
    ⟨some 121, none, .idxas 1 (.t 110) (.t 112)⟩,
    ⟨none, none, .store 1 (.t 121) (.t 118)⟩,
    ⟨some 122, none, .idxas 1 (.t 113) (.t 115)⟩,
    ⟨none, none, .store 1 (.t 122) (.t 120)⟩] [[], [], [1], [], [], [4], [], [6], [6, 7], [], [9], [0, 1, 2, 6, 7], [0, 1, 2, 6, 7, 8, 11], [0, 1, 2, 3, 4, 5, 6, 7, 8, 9, 11, 12], [0, 1, 2, 3, 4, 5, 6, 7, 8, 9, 10, 11, 12, 13]] [0, 4, 12, 14])
  (.seq (.draw [⟨some 123, none, .mov (.t 0)⟩,
    ⟨some 124, none, .mov (.t 4)⟩,
    ⟨some 125, none, .bin .sub (.t 124) (.c (.int .i64 3))⟩,
    ⟨some 126, none, .mov (.t 0)⟩,
    ⟨some 127, none, .mov (.t 4)⟩,
    ⟨some 128, none, .bin .sub (.t 127) (.c (.int .i64 4))⟩,
    ⟨some 129, none, .mov (.t 14)⟩,
    ⟨some 130, none, .bin .add (.t 129) (.c (.int .u32 1))⟩,
    ⟨some 131, none, .idxstr (.c (.str [48, 48, 48, 49, 48, 50, 48, 51, 48, 52, 48, 53, 48, 54, 48, 55, 48, 56, 48, 57, 49, 48, 49, 49, 49, 50, 49, 51, 49, 52, 49, 53, 49, 54, 49, 55, 49, 56, 49, 57, 50, 48, 50, 49, 50, 50, 50, 51, 50, 52, 50, 53, 50, 54, 50, 55, 50, 56, 50, 57, 51, 48, 51, 49, 51, 50, 51, 51, 51, 52, 51, 53, 51, 54, 51, 55, 51, 56, 51, 57, 52, 48, 52, 49, 52, 50, 52, 51, 52, 52, 52, 53, 52, 54, 52, 55, 52, 56, 52, 57, 53, 48, 53, 49, 53, 50, 53, 51, 53, 52, 53, 53, 53, 54, 53, 55, 53, 56, 53, 57, 54, 48, 54, 49, 54, 50, 54, 51, 54, 52, 54, 53, 54, 54, 54, 55, 54, 56, 54, 57, 55, 48, 55, 49, 55, 50, 55, 51, 55, 52, 55, 53, 55, 54, 55, 55, 55, 56, 55, 57, 56, 48, 56, 49, 56, 50, 56, 51, 56, 52, 56, 53, 56, 54, 56, 55, 56, 56, 56, 57, 57, 48, 57, 49, 57, 50, 57, 51, 57, 52, 57, 53, 57, 54, 57, 55, 57, 56, 57, 57])) (.t 130)⟩,
    ⟨some 132, none, .mov (.t 14)⟩,
    ⟨some 133, none, .idxstr (.c (.str [48, 48, 48, 49, 48, 50, 48, 51, 48, 52, 48, 53, 48, 54, 48, 55, 48, 56, 48, 57, 49, 48, 49, 49, 49, 50, 49, 51, 49, 52, 49, 53, 49, 54, 49, 55, 49, 56, 49, 57, 50, 48, 50, 49, 50, 50, 50, 51, 50, 52, 50, 53, 50, 54, 50, 55, 50, 56, 50, 57, 51, 48, 51, 49, 51, 50, 51, 51, 51, 52, 51, 53, 51, 54, 51, 55, 51, 56, 51, 57, 52, 48, 52, 49, 52, 50, 52, 51, 52, 52, 52, 53, 52, 54, 52, 55, 52, 56, 52, 57, 53, 48, 53, 49, 53, 50, 53, 51, 53, 52, 53, 53, 53, 54, 53, 55, 53, 56, 53, 57, 54, 48, 54, 49, 54, 50, 54, 51, 54, 52, 54, 53, 54, 54, 54, 55, 54, 56, 54, 57, 55, 48, 55, 49, 55, 50, 55, 51, 55, 52, 55, 53, 55, 54, 55, 55, 55, 56, 55, 57, 56, 48, 56, 49, 56, 50, 56, 51, 56, 52, 56, 53, 56, 54, 56, 55, 56, 56, 56, 57, 57, 48, 57, 49, 57, 50, 57, 51, 57, 52, 57, 53, 57, 54, 57, 55, 57, 56, 57, 57])) (.t 132)⟩,
    ⟨some 134, none, .idxas 1 (.t 123) (.t 125)⟩,
    ⟨none, none, .store 1 (.t 134) (.t 131)⟩,
    ⟨some 135, none, .idxas 1 (.t 126) (.t 128)⟩,
    ⟨none, none, .store 1 (.t 135) (.t 133)⟩] [[], [], [1], [], [], [4], [], [6], [6, 7], [], [9], [0, 1, 2, 6, 7], [0, 1, 2, 6, 7, 8, 11], [0, 1, 2, 3, 4, 5, 6, 7, 8, 9, 11, 12], [0, 1, 2, 3, 4, 5, 6, 7, 8, 9, 10, 11, 12, 13]] [0, 4, 12])
  (.region [⟨some 136, none, .mov (.t 4)⟩,
    ⟨some 137, none, .bin .sub (.t 136) (.c (.int .i64 4))⟩,
    ⟨some 4, none, .mov (.t 137)⟩] [0, 4, 12]))))))
  .skip))
  (.seq (.seq (.region [⟨some 138, none, .mov (.t 4)⟩,
    ⟨some 139, none, .bin .geq (.t 138) (.c (.int .i64 2))⟩] [0, 4, 12, 139])
  (.cond (.t 139) (.seq (.region [⟨some 140, none, .mov (.t 12)⟩,
    ⟨some 141, none, .bin .rem (.t 140) (.c (.int .u32 100))⟩,
    ⟨some 142, none, .bin .mul (.t 141) (.c (.int .u32 2))⟩,
    ⟨some 16, none, .mov (.t 142)⟩] [0, 4, 12, 16])
  (.seq (.region [⟨some 143, none, .mov (.t 12)⟩,
    ⟨some 144, none, .bin .quo (.t 143) (.c (.int .u32 100))⟩,
    ⟨some 12, none, .mov (.t 144)⟩] [0, 4, 12, 16])
  (.seq (.draw [⟨some 145, none, .mov (.t 0)⟩,
    ⟨some 146, none, .mov (.t 4)⟩,
    ⟨some 147, none, .bin .sub (.t 146) (.c (.int .i64 1))⟩,
    ⟨some 148, none, .mov (.t 0)⟩,
    ⟨some 149, none, .mov (.t 4)⟩,
    ⟨some 150, none, .bin .sub (.t 149) (.c (.int .i64 2))⟩,
    ⟨some 151, none, .mov (.t 16)⟩,
    ⟨some 152, none, .bin .add (.t 151) (.c (.int .u32 1))⟩,
    ⟨some 153, none, .idxstr (.c (.str [48, 48, 48, 49, 48, 50, 48, 51, 48, 52, 48, 53, 48, 54, 48, 55, 48, 56, 48, 57, 49, 48, 49, 49, 49, 50, 49, 51, 49, 52, 49, 53, 49, 54, 49, 55, 49, 56, 49, 57, 50, 48, 50, 49, 50, 50, 50, 51, 50, 52, 50, 53, 50, 54, 50, 55, 50, 56, 50, 57, 51, 48, 51, 49, 51, 50, 51, 51, 51, 52, 51, 53, 51, 54, 51, 55, 51, 56, 51, 57, 52, 48, 52, 49, 52, 50, 52, 51, 52, 52, 52, 53, 52, 54, 52, 55, 52, 56, 52, 57, 53, 48, 53, 49, 53, 50, 53, 51, 53, 52, 53, 53, 53, 54, 53, 55, 53, 56, 53, 57, 54, 48, 54, 49, 54, 50, 54, 51, 54, 52, 54, 53, 54, 54, 54, 55, 54, 56, 54, 57, 55, 48, 55, 49, 55, 50, 55, 51, 55, 52, 55, 53, 55, 54, 55, 55, 55, 56, 55, 57, 56, 48, 56, 49, 56, 50, 56, 51, 56, 52, 56, 53, 56, 54, 56, 55, 56, 56, 56, 57, 57, 48, 57, 49, 57, 50, 57, 51, 57, 52, 57, 53, 57, 54, 57, 55, 57, 56, 57, 57])) (.t 152)⟩,
    ⟨some 154, none, .mov (.t 16)⟩,
    ⟨some 155, none, .idxstr (.c (.str [48, 48, 48, 49, 48, 50, 48, 51, 48, 52, 48, 53, 48, 54, 48, 55, 48, 56, 48, 57, 49, 48, 49, 49, 49, 50, 49, 51, 49, 52, 49, 53, 49, 54, 49, 55, 49, 56, 49, 57, 50, 48, 50, 49, 50, 50, 50, 51, 50, 52, 50, 53, 50, 54, 50, 55, 50, 56, 50, 57, 51, 48, 51, 49, 51, 50, 51, 51, 51, 52, 51, 53, 51, 54, 51, 55, 51, 56, 51, 57, 52, 48, 52, 49, 52, 50, 52, 51, 52, 52, 52, 53, 52, 54, 52, 55, 52, 56, 52, 57, 53, 48, 53, 49, 53, 50, 53, 51, 53, 52, 53, 53, 53, 54, 53, 55, 53, 56, 53, 57, 54, 48, 54, 49, 54, 50, 54, 51, 54, 52, 54, 53, 54, 54, 54, 55, 54, 56, 54, 57, 55, 48, 55, 49, 55, 50, 55, 51, 55, 52, 55, 53, 55, 54, 55, 55, 55, 56, 55, 57, 56, 48, 56, 49, 56, 50, 56, 51, 56, 52, 56, 53, 56, 54, 56, 55, 56, 56, 56, 57, 57, 48, 57, 49, 57, 50, 57, 51, 57, 52, 57, 53, 57, 54, 57, 55, 57, 56, 57, 57])) (.t 154)⟩,
    ⟨some 156, none, .idxas 1 (.t 145) (.t 147)⟩,
    ⟨none, none, .store 1 (.t 156) (.t 153)⟩,
    ⟨some 157, none, .idxas 1 (.t 148) (.t 150)⟩,
    ⟨none, none, .store 1 (.t 157) (.t 155)⟩] [[], [], [1], [], [], [4], [], [6], [6, 7], [], [9], [0, 1, 2, 6, 7], [0, 1, 2, 6, 7, 8, 11], [0, 1, 2, 3, 4, 5, 6, 7, 8, 9, 11, 12], [0, 1, 2, 3, 4, 5, 6, 7, 8, 9, 10, 11, 12, 13]] [0, 4, 12])
  (.region [⟨some 158, none, .mov (.t 4)⟩,
    ⟨some 159, none, .bin .sub (.t 158) (.c (.int .i64 2))⟩,
    ⟨some 4, none, .mov (.t 159)⟩] [0, 4, 12]))))
  .skip))
  (.seq (.region [⟨some 160, none, .mov (.t 4)⟩,
    ⟨some 161, none, .bin .gtr (.t 160) (.c (.int .i64 0))⟩] [0, 12, 161])
  (.cond (.t 161) (.region [⟨some 162, none, .mov (.t 0)⟩,
    ⟨some 163, none, .mov (.t 12)⟩,
    ⟨some 164, none, .bin .add (.c (.int .u32 48)) (.t 163)⟩,
    ⟨some 165, none, .cvi .u8 (.t 164)⟩,
    ⟨some 166, none, .idxas 1 (.t 162) (.c (.int .i64 0))⟩,
    ⟨none, none, .store 1 (.t 166) (.t 165)⟩] [])
  .skip)))))))⟩

def i129_L0 : ACode :=
  (.seq (.seq (.region [⟨some 44, none, .mov (.t 1)⟩,
    ⟨some 45, none, .mov (.t 15)⟩,
    ⟨some 46, none, .bin .geq (.t 44) (.t 45)⟩] [0, 1, 3, 4, 10, 11, 12, 13, 14, 15, 16, 46])
  (.cond (.t 46) .skip
  (.exit 0)))
  (.block 1 (.seq (.region [⟨some 47, none, .mov (.t 13)⟩,
    ⟨some 48, none, .bin .sub (.t 47) (.c (.int .i64 1))⟩,
    ⟨some 13, none, .mov (.t 48)⟩] [0, 1, 3, 4, 10, 11, 12, 13, 14, 15, 16])
  (.seq (.region [⟨some 49, none, .mov (.t 13)⟩,
    ⟨some 50, none, .mov (.t 1)⟩,
    ⟨some 51, none, .mov (.t 16)⟩,
    ⟨some 52, none, .bin .and (.t 50) (.t 51)⟩,
    ⟨some 53, none, .idxstr (.c (.str [48, 49, 50, 51, 52, 53, 54, 55, 56, 57, 97, 98, 99, 100, 101, 102, 103, 104, 105, 106, 107, 108, 109, 110, 111, 112, 113, 114, 115, 116, 117, 118, 119, 120, 121, 122])) (.t 52)⟩,
    ⟨some 54, none, .idxaa 65 1 (.t 12) (.t 49)⟩,
    ⟨none, none, .store 1 (.t 54) (.t 53)⟩] [0, 1, 3, 4, 10, 11, 12, 13, 14, 15, 16])
  (.region [⟨some 55, none, .mov (.t 1)⟩,
    ⟨some 56, none, .mov (.t 14)⟩,
    ⟨some 57, none, .bin .shr (.t 55) (.t 56)⟩,
    ⟨some 1, none, .mov (.t 57)⟩] [0, 1, 3, 4, 10, 11, 12, 13, 14, 15, 16])))))

def i129_L1 : ACode :=
  (.seq (.seq (.region [⟨some 66, none, .mov (.t 1)⟩,
    ⟨some 67, none, .mov (.t 17)⟩,
    ⟨some 68, none, .bin .geq (.t 66) (.t 67)⟩] [0, 1, 3, 4, 10, 11, 12, 13, 17, 68])
  (.cond (.t 68) .skip
  (.exit 2)))
  (.block 3 (.seq (.region [⟨some 69, none, .mov (.t 13)⟩,
    ⟨some 70, none, .bin .sub (.t 69) (.c (.int .i64 1))⟩,
    ⟨some 13, none, .mov (.t 70)⟩] [0, 1, 3, 4, 10, 11, 12, 13, 17])
  (.seq (.region [⟨some 71, none, .mov (.t 1)⟩,
    ⟨some 72, none, .mov (.t 17)⟩,
    ⟨some 73, none, .bin .quo (.t 71) (.t 72)⟩,
    ⟨some 18, none, .mov (.t 73)⟩] [0, 1, 3, 4, 10, 11, 12, 13, 17, 18])
  (.seq (.region [⟨some 74, none, .mov (.t 13)⟩,
    ⟨some 75, none, .mov (.t 1)⟩,
    ⟨some 76, none, .mov (.t 18)⟩,
    ⟨some 77, none, .mov (.t 17)⟩,
    ⟨some 78, none, .bin .mul (.t 76) (.t 77)⟩,
    ⟨some 79, none, .bin .sub (.t 75) (.t 78)⟩,
    ⟨some 80, none, .idxstr (.c (.str [48, 49, 50, 51, 52, 53, 54, 55, 56, 57, 97, 98, 99, 100, 101, 102, 103, 104, 105, 106, 107, 108, 109, 110, 111, 112, 113, 114, 115, 116, 117, 118, 119, 120, 121, 122])) (.t 79)⟩,
    ⟨some 81, none, .idxaa 65 1 (.t 12) (.t 74)⟩,
    ⟨none, none, .store 1 (.t 81) (.t 80)⟩] [0, 3, 4, 10, 11, 12, 13, 17, 18])
  (.region [⟨some 82, none, .mov (.t 18)⟩,
    ⟨some 1, none, .mov (.t 82)⟩] [0, 1, 3, 4, 10, 11, 12, 13, 17]))))))

/-- internal/strconv.formatBits -/
def i129 : AFunc := ⟨5, 102, [.tmp 10, .tmp 11],
  (.seq (.region [⟨some 10, none, .mov (.c (.sl 1 [] .exact))⟩,
    ⟨some 11, none, .mov (.c (.str []))⟩] [0, 1, 2, 3, 4, 10, 11])
  (.seq (.seq (.region [⟨some 19, none, .mov (.t 2)⟩,
    ⟨some 20, none, .bin .lss (.t 19) (.c (.int .i64 2))⟩,
    ⟨some 21, none, .mov (.t 20)⟩,
    ⟨some 22, (some (21, false)), .mov (.t 2)⟩,
    ⟨some 23, (some (21, false)), .bin .eql (.t 22) (.c (.int .i64 10))⟩,
    ⟨some 24, none, .pick (.t 21) (.c (.bool true)) (.t 23)⟩,
    ⟨some 25, none, .mov (.t 24)⟩,
    ⟨some 26, (some (25, false)), .mov (.t 2)⟩,
    ⟨some 27, (some (25, false)), .bin .gtr (.t 26) (.c (.int .i64 36))⟩,
    ⟨some 28, none, .pick (.t 25) (.c (.bool true)) (.t 27)⟩] [0, 1, 2, 3, 4, 10, 11, 28])
  (.cond (.t 28) (.region [⟨some 29, none, .mkif 9 (.c (.str [115, 116, 114, 99, 111, 110, 118, 58, 32, 105, 108, 108, 101, 103, 97, 108, 32, 65, 112, 112, 101, 110, 100, 73, 110, 116, 47, 70, 111, 114, 109, 97, 116, 73, 110, 116, 32, 98, 97, 115, 101]))⟩,
    ⟨none, none, .panic (.t 29)⟩] [0, 1, 2, 3, 4, 10, 11])
  .skip))
  (.seq (.region [⟨some 12, none, .alloc [(.int .u8 0), (.int .u8 0), (.int .u8 0), (.int .u8 0), (.int .u8 0), (.int .u8 0), (.int .u8 0), (.int .u8 0), (.int .u8 0), (.int .u8 0), (.int .u8 0), (.int .u8 0), (.int .u8 0), (.int .u8 0), (.int .u8 0), (.int .u8 0), (.int .u8 0), (.int .u8 0), (.int .u8 0), (.int .u8 0), (.int .u8 0), (.int .u8 0), (.int .u8 0), (.int .u8 0), (.int .u8 0), (.int .u8 0), (.int .u8 0), (.int .u8 0), (.int .u8 0), (.int .u8 0), (.int .u8 0), (.int .u8 0), (.int .u8 0), (.int .u8 0), (.int .u8 0), (.int .u8 0), (.int .u8 0), (.int .u8 0), (.int .u8 0), (.int .u8 0), (.int .u8 0), (.int .u8 0), (.int .u8 0), (.int .u8 0), (.int .u8 0), (.int .u8 0), (.int .u8 0), (.int .u8 0), (.int .u8 0), (.int .u8 0), (.int .u8 0), (.int .u8 0), (.int .u8 0), (.int .u8 0), (.int .u8 0), (.int .u8 0), (.int .u8 0), (.int .u8 0), (.int .u8 0), (.int .u8 0), (.int .u8 0), (.int .u8 0), (.int .u8 0), (.int .u8 0), (.int .u8 0)] 178⟩] [0, 1, 2, 3, 4, 10, 11, 12])
  (.seq (.region [⟨some 13, none, .mov (.c (.int .i64 65))⟩] [0, 1, 2, 3, 4, 10, 11, 12, 13])
  (.seq (.seq (.region [⟨some 30, none, .mov (.t 3)⟩] [0, 1, 2, 3, 4, 10, 11, 12, 13, 30])
  (.cond (.t 30) (.region [⟨some 31, none, .mov (.t 1)⟩,
    ⟨some 32, none, .un .neg (.t 31)⟩,
    ⟨some 1, none, .mov (.t 32)⟩] [0, 1, 2, 3, 4, 10, 11, 12, 13])
  .skip))
  (.seq (.seq (.region [⟨some 33, none, .mov (.t 2)⟩,
    ⟨some 34, none, .call false 139 [(.t 33)]⟩] [0, 1, 2, 3, 4, 10, 11, 12, 13, 34])
  (.cond (.t 34) (.seq (.region [⟨some 35, none, .mov (.t 2)⟩,
    ⟨some 36, none, .cvi .u64 (.t 35)⟩,
    ⟨some 37, none, .call false 140 [(.t 36)]⟩,
    ⟨some 38, none, .cvi .u64 (.t 37)⟩,
    ⟨some 14, none, .mov (.t 38)⟩] [0, 1, 2, 3, 4, 10, 11, 12, 13, 14])
  (.seq (.region [⟨some 39, none, .mov (.t 2)⟩,
    ⟨some 40, none, .cvi .u64 (.t 39)⟩,
    ⟨some 15, none, .mov (.t 40)⟩] [0, 1, 2, 3, 4, 10, 11, 12, 13, 14, 15])
  (.seq (.region [⟨some 41, none, .mov (.t 2)⟩,
    ⟨some 42, none, .cvi .u64 (.t 41)⟩,
    ⟨some 43, none, .bin .sub (.t 42) (.c (.int .u64 1))⟩,
    ⟨some 16, none, .mov (.t 43)⟩] [0, 1, 3, 4, 10, 11, 12, 13, 14, 15, 16])
  (.seq (.block 0 (.loop [0, 1, 3, 4, 10, 11, 12, 13, 14, 15, 16] i129_L0))
  (.seq (.region [⟨some 58, none, .mov (.t 13)⟩,
    ⟨some 59, none, .bin .sub (.t 58) (.c (.int .i64 1))⟩,
    ⟨some 13, none, .mov (.t 59)⟩] [0, 1, 3, 4, 10, 11, 12, 13])
  (.region [⟨some 60, none, .mov (.t 13)⟩,
    ⟨some 61, none, .mov (.t 1)⟩,
    ⟨some 62, none, .idxstr (.c (.str [48, 49, 50, 51, 52, 53, 54, 55, 56, 57, 97, 98, 99, 100, 101, 102, 103, 104, 105, 106, 107, 108, 109, 110, 111, 112, 113, 114, 115, 116, 117, 118, 119, 120, 121, 122])) (.t 61)⟩,
    ⟨some 63, none, .idxaa 65 1 (.t 12) (.t 60)⟩,
    ⟨none, none, .store 1 (.t 63) (.t 62)⟩] [0, 3, 4, 10, 11, 12, 13]))))))
  (.seq (.region [⟨some 64, none, .mov (.t 2)⟩,
    ⟨some 65, none, .cvi .u64 (.t 64)⟩,
    ⟨some 17, none, .mov (.t 65)⟩] [0, 1, 3, 4, 10, 11, 12, 13, 17])
  (.seq (.block 2 (.loop [0, 1, 3, 4, 10, 11, 12, 13, 17] i129_L1))
  (.seq (.region [⟨some 83, none, .mov (.t 13)⟩,
    ⟨some 84, none, .bin .sub (.t 83) (.c (.int .i64 1))⟩,
    ⟨some 13, none, .mov (.t 84)⟩] [0, 1, 3, 4, 10, 11, 12, 13])
  (.region [⟨some 85, none, .mov (.t 13)⟩,
    ⟨some 86, none, .mov (.t 1)⟩,
    ⟨some 87, none, .idxstr (.c (.str [48, 49, 50, 51, 52, 53, 54, 55, 56, 57, 97, 98, 99, 100, 101, 102, 103, 104, 105, 106, 107, 108, 109, 110, 111, 112, 113, 114, 115, 116, 117, 118, 119, 120, 121, 122])) (.t 86)⟩,
    ⟨some 88, none, .idxaa 65 1 (.t 12) (.t 85)⟩,
    ⟨none, none, .store 1 (.t 88) (.t 87)⟩] [0, 3, 4, 10, 11, 12, 13]))))))
  (.seq (.seq (.region [⟨some 89, none, .mov (.t 3)⟩] [0, 4, 10, 11, 12, 13, 89])
  (.cond (.t 89) (.seq (.region [⟨some 90, none, .mov (.t 13)⟩,
    ⟨some 91, none, .bin .sub (.t 90) (.c (.int .i64 1))⟩,
    ⟨some 13, none, .mov (.t 91)⟩] [0, 4, 10, 11, 12, 13])
  (.region [⟨some 92, none, .mov (.t 13)⟩,
    ⟨some 93, none, .idxaa 65 1 (.t 12) (.t 92)⟩,
    ⟨none, none, .store 1 (.t 93) (.c (.int .u8 45))⟩] [0, 4, 10, 11, 12, 13]))
  .skip))
  (.seq (.seq (.region [⟨some 94, none, .mov (.t 4)⟩] [0, 10, 11, 12, 13, 94])
  (.cond (.t 94) (.seq (.region [⟨some 95, none, .mov (.t 0)⟩,
    ⟨some 96, none, .mov (.t 13)⟩,
    ⟨some 97, none, .slarr 65 1 (.t 12) (some (.t 96)) none none⟩,
    ⟨some 98, none, .app 5 1 1 (.t 95) (.t 97)⟩,
    ⟨some 10, none, .mov (.t 98)⟩] [10, 11])
  .ret)
  .skip))
  (.seq (.region [⟨some 99, none, .mov (.t 13)⟩,
    ⟨some 100, none, .slarr 65 1 (.t 12) (some (.t 99)) none none⟩,
    ⟨some 101, none, .cvb2s (.t 100)⟩,
    ⟨some 11, none, .mov (.t 101)⟩] [10, 11])
  .ret)))))))))⟩

/-- troth/prog.call -/
def i130 : AFunc := ⟨2, 11, [.tmp 4],
  (.seq (.region [⟨some 4, none, .mov (.c (.str []))⟩] [0, 1])
  (.seq (.region [⟨some 5, none, .mov (.t 0)⟩,
    ⟨some 6, none, .bin .add (.t 5) (.c (.str [40]))⟩,
    ⟨some 7, none, .mov (.t 1)⟩,
    ⟨some 8, none, .call false 141 [(.t 7), (.c (.str [44, 32]))]⟩,
    ⟨some 9, none, .bin .add (.t 6) (.t 8)⟩,
    ⟨some 10, none, .bin .add (.t 9) (.c (.str [41]))⟩,
    ⟨some 4, none, .mov (.t 10)⟩] [4])
  .ret))⟩

/-- internal/strconv.FormatInt -/
def i131 : AFunc := ⟨2, 54, [.tmp 4],
  (.seq (.region [⟨some 4, none, .mov (.c (.str []))⟩] [0, 1])
  (.seq (.seq (.region [⟨some 10, none, .mov (.t 1)⟩,
    ⟨some 11, none, .bin .eql (.t 10) (.c (.int .i64 10))⟩] [0, 1, 11])
  (.cond (.t 11) (.seq (.seq (.region [⟨some 12, none, .mov (.t 0)⟩,
    ⟨some 13, none, .bin .leq (.c (.int .i64 0)) (.t 12)⟩,
    ⟨some 14, none, .mov (.t 13)⟩,
    ⟨some 15, (some (14, true)), .mov (.t 0)⟩,
    ⟨some 16, (some (14, true)), .bin .lss (.t 15) (.c (.int .i64 100))⟩,
    ⟨some 17, none, .pick (.t 14) (.t 16) (.c (.bool false))⟩] [0, 17])
  (.cond (.t 17) (.seq (.region [⟨some 18, none, .mov (.t 0)⟩,
    ⟨some 19, none, .call false 126 [(.t 18)]⟩,
    ⟨some 4, none, .mov (.t 19)⟩] [4])
  .ret)
  .skip))
  (.seq (.region [⟨some 5, none, .alloc [(.int .u8 0), (.int .u8 0), (.int .u8 0), (.int .u8 0), (.int .u8 0), (.int .u8 0), (.int .u8 0), (.int .u8 0), (.int .u8 0), (.int .u8 0), (.int .u8 0), (.int .u8 0), (.int .u8 0), (.int .u8 0), (.int .u8 0), (.int .u8 0), (.int .u8 0), (.int .u8 0), (.int .u8 0), (.int .u8 0), (.int .u8 0), (.int .u8 0), (.int .u8 0), (.int .u8 0)] 164⟩] [0, 5])
  (.seq (.region [⟨some 20, none, .mov (.t 0)⟩,
    ⟨some 21, none, .cvi .u64 (.t 20)⟩,
    ⟨some 6, none, .mov (.t 21)⟩] [0, 5, 6])
  (.seq (.seq (.region [⟨some 22, none, .mov (.t 0)⟩,
    ⟨some 23, none, .bin .lss (.t 22) (.c (.int .i64 0))⟩] [0, 5, 6, 23])
  (.cond (.t 23) (.region [⟨some 24, none, .mov (.t 6)⟩,
    ⟨some 25, none, .un .neg (.t 24)⟩,
    ⟨some 6, none, .mov (.t 25)⟩] [0, 5, 6])
  .skip))
  (.seq (.region [⟨some 26, none, .mov (.t 6)⟩,
    ⟨some 27, none, .call false 127 [(.t 26)]⟩,
    ⟨some 7, none, .mov (.t 27)⟩] [0, 5, 6, 7])
  (.seq (.region [⟨some 28, none, .mov (.t 7)⟩,
    ⟨some 29, none, .bin .add (.c (.int .i64 1)) (.t 28)⟩,
    ⟨some 30, none, .slarr 24 1 (.t 5) (some (.c (.int .i64 1))) (some (.t 29)) none⟩,
    ⟨some 31, none, .mov (.t 6)⟩,
    ⟨some 32, none, .call false 128 [(.t 30), (.t 31)]⟩] [0, 5, 7])
  (.seq (.seq (.region [⟨some 33, none, .mov (.t 0)⟩,
    ⟨some 34, none, .bin .lss (.t 33) (.c (.int .i64 0))⟩] [5, 7, 34])
  (.cond (.t 34) (.seq (.region [⟨some 35, none, .idxaa 24 1 (.t 5) (.c (.int .i64 0))⟩,
    ⟨none, none, .store 1 (.t 35) (.c (.int .u8 45))⟩] [5, 7])
  (.seq (.region [⟨some 36, none, .mov (.t 7)⟩,
    ⟨some 37, none, .bin .add (.c (.int .i64 1)) (.t 36)⟩,
    ⟨some 38, none, .slarr 24 1 (.t 5) none (some (.t 37)) none⟩,
    ⟨some 39, none, .cvb2s (.t 38)⟩,
    ⟨some 4, none, .mov (.t 39)⟩] [4])
  .ret))
  .skip))
  (.seq (.region [⟨some 40, none, .mov (.t 7)⟩,
    ⟨some 41, none, .bin .add (.c (.int .i64 1)) (.t 40)⟩,
    ⟨some 42, none, .slarr 24 1 (.t 5) (some (.c (.int .i64 1))) (some (.t 41)) none⟩,
    ⟨some 43, none, .cvb2s (.t 42)⟩,
    ⟨some 4, none, .mov (.t 43)⟩] [4])
  .ret))))))))
  .skip))
  (.seq (.region [⟨some 45, none, .mov (.t 0)⟩,
    ⟨some 46, none, .cvi .u64 (.t 45)⟩,
    ⟨some 47, none, .mov (.t 1)⟩,
    ⟨some 48, none, .mov (.t 0)⟩,
    ⟨some 49, none, .bin .lss (.t 48) (.c (.int .i64 0))⟩,
    ⟨some 50, none, .call false 129 [(.c (.sl 1 [] .exact)), (.t 46), (.t 47), (.t 49), (.c (.bool false))]⟩,
    ⟨some 44, none, .mov (.t 50)⟩,
    ⟨some 51, none, .ext (.t 44) 0⟩,
    ⟨some 52, none, .ext (.t 44) 1⟩,
    ⟨some 8, none, .mov (.t 51)⟩,
    ⟨some 9, none, .mov (.t 52)⟩] [9])
  (.seq (.region [⟨some 53, none, .mov (.t 9)⟩,
    ⟨some 4, none, .mov (.t 53)⟩] [4])
  .ret))))⟩

/-- errors.New -/
def i133 : AFunc := ⟨1, 7, [.tmp 2],
  (.seq (.region [⟨some 2, none, .mov (.c .nili)⟩] [0])
  (.seq (.region [⟨some 3, none, .mov (.t 0)⟩,
    ⟨some 4, none, .build [(.str [])] [(0, 1, (.t 3))]⟩,
    ⟨some 5, none, .ibox (.t 4)⟩,
    ⟨some 6, none, .mkif 182 (.t 5)⟩,
    ⟨some 2, none, .mov (.t 6)⟩] [2])
  .ret))⟩

/-- internal/strconv.log10Pow2 -/
def i136 : AFunc := ⟨1, 6, [.tmp 2],
  (.seq (.region [⟨some 2, none, .mov (.c (.int .i64 0))⟩] [0])
  (.seq (.region [⟨some 3, none, .mov (.t 0)⟩,
    ⟨some 4, none, .bin .mul (.t 3) (.c (.int .i64 78913))⟩,
    ⟨some 5, none, .bin .shr (.t 4) (.c (.int .u64 18))⟩,
    ⟨some 2, none, .mov (.t 5)⟩] [2])
  .ret))⟩

/-- math/bits.Len64 -/
def i137 : AFunc := ⟨1, 25, [.tmp 2],
  (.seq (.region [⟨some 2, none, .mov (.c (.int .i64 0))⟩] [0, 2])
  (.seq (.seq (.region [⟨some 3, none, .mov (.t 0)⟩,
    ⟨some 4, none, .bin .geq (.t 3) (.c (.int .u64 4294967296))⟩] [0, 2, 4])
  (.cond (.t 4) (.seq (.region [⟨some 5, none, .mov (.t 0)⟩,
    ⟨some 6, none, .bin .shr (.t 5) (.c (.int .u64 32))⟩,
    ⟨some 0, none, .mov (.t 6)⟩] [0])
  (.region [⟨some 2, none, .mov (.c (.int .i64 32))⟩] [0, 2]))
  .skip))
  (.seq (.seq (.region [⟨some 7, none, .mov (.t 0)⟩,
    ⟨some 8, none, .bin .geq (.t 7) (.c (.int .u64 65536))⟩] [0, 2, 8])
  (.cond (.t 8) (.seq (.region [⟨some 9, none, .mov (.t 0)⟩,
    ⟨some 10, none, .bin .shr (.t 9) (.c (.int .u64 16))⟩,
    ⟨some 0, none, .mov (.t 10)⟩] [0, 2])
  (.region [⟨some 11, none, .mov (.t 2)⟩,
    ⟨some 12, none, .bin .add (.t 11) (.c (.int .i64 16))⟩,
    ⟨some 2, none, .mov (.t 12)⟩] [0, 2]))
  .skip))
  (.seq (.seq (.region [⟨some 13, none, .mov (.t 0)⟩,
    ⟨some 14, none, .bin .geq (.t 13) (.c (.int .u64 256))⟩] [0, 2, 14])
  (.cond (.t 14) (.seq (.region [⟨some 15, none, .mov (.t 0)⟩,
    ⟨some 16, none, .bin .shr (.t 15) (.c (.int .u64 8))⟩,
    ⟨some 0, none, .mov (.t 16)⟩] [0, 2])
  (.region [⟨some 17, none, .mov (.t 2)⟩,
    ⟨some 18, none, .bin .add (.t 17) (.c (.int .i64 8))⟩,
    ⟨some 2, none, .mov (.t 18)⟩] [0, 2]))
  .skip))
  (.seq (.region [⟨some 19, none, .mov (.t 2)⟩,
    ⟨some 20, none, .mov (.t 0)⟩,
    ⟨some 21, none, .cvi .u8 (.t 20)⟩,
    ⟨some 22, none, .idxstr (.c (.str [0, 1, 2, 2, 3, 3, 3, 3, 4, 4, 4, 4, 4, 4, 4, 4, 5, 5, 5, 5, 5, 5, 5, 5, 5, 5, 5, 5, 5, 5, 5, 5, 6, 6, 6, 6, 6, 6, 6, 6, 6, 6, 6, 6, 6, 6, 6, 6, 6, 6, 6, 6, 6, 6, 6, 6, 6, 6, 6, 6, 6, 6, 6, 6, 7, 7, 7, 7, 7, 7, 7, 7, 7, 7, 7, 7, 7, 7, 7, 7, 7, 7, 7, 7, 7, 7, 7, 7, 7, 7, 7, 7, 7, 7, 7, 7, 7, 7, 7, 7, 7, 7, 7, 7, 7, 7, 7, 7, 7, 7, 7, 7, 7, 7, 7, 7, 7, 7, 7, 7, 7, 7, 7, 7, 7, 7, 7, 7, 8, 8, 8, 8, 8, 8, 8, 8, 8, 8, 8, 8, 8, 8, 8, 8, 8, 8, 8, 8, 8, 8, 8, 8, 8, 8, 8, 8, 8, 8, 8, 8, 8, 8, 8, 8, 8, 8, 8, 8, 8, 8, 8, 8, 8, 8, 8, 8, 8, 8, 8, 8, 8, 8, 8, 8, 8, 8, 8, 8, 8, 8, 8, 8, 8, 8, 8, 8, 8, 8, 8, 8, 8, 8, 8, 8, 8, 8, 8, 8, 8, 8, 8, 8, 8, 8, 8, 8, 8, 8, 8, 8, 8, 8, 8, 8, 8, 8, 8, 8, 8, 8, 8, 8, 8, 8, 8, 8, 8, 8, 8, 8, 8, 8, 8, 8, 8, 8, 8, 8, 8, 8, 8, 8, 8, 8, 8, 8])) (.t 21)⟩,
    ⟨some 23, none, .cvi .i64 (.t 22)⟩,
    ⟨some 24, none, .bin .add (.t 19) (.t 23)⟩,
    ⟨some 2, none, .mov (.t 24)⟩] [2])
  .ret)))))⟩

/-- internal/strconv.bool2[int] -/
def i138 : AFunc := ⟨1, 4, [.tmp 2],
  (.seq (.region [⟨some 2, none, .mov (.c (.int .i64 0))⟩] [0])
  (.seq (.seq (.region [⟨some 3, none, .mov (.t 0)⟩] [3])
  (.cond (.t 3) (.seq (.region [⟨some 2, none, .mov (.c (.int .i64 1))⟩] [2])
  .ret)
  .skip))
  (.seq (.region [⟨some 2, none, .mov (.c (.int .i64 0))⟩] [2])
  .ret)))⟩

/-- internal/strconv.isPowerOfTwo -/
def i139 : AFunc := ⟨1, 8, [.tmp 2],
  (.seq (.region [⟨some 2, none, .mov (.c (.bool false))⟩] [0])
  (.seq (.region [⟨some 3, none, .mov (.t 0)⟩,
    ⟨some 4, none, .mov (.t 0)⟩,
    ⟨some 5, none, .bin .sub (.t 4) (.c (.int .i64 1))⟩,
    ⟨some 6, none, .bin .and (.t 3) (.t 5)⟩,
    ⟨some 7, none, .bin .eql (.t 6) (.c (.int .i64 0))⟩,
    ⟨some 2, none, .mov (.t 7)⟩] [2])
  .ret))⟩

/-- math/bits.TrailingZeros -/
def i140 : AFunc := ⟨1, 8, [.tmp 2],
  (.seq (.region [⟨some 2, none, .mov (.c (.int .i64 0))⟩] [0])
  (.seq (.cond (.c (.bool false)) (.seq (.region [⟨some 3, none, .mov (.t 0)⟩,
    ⟨some 4, none, .cvi .u32 (.t 3)⟩,
    ⟨some 5, none, .call false 146 [(.t 4)]⟩,
    ⟨some 2, none, .mov (.t 5)⟩] [2])
  .ret)
  .skip)
  (.seq (.region [⟨some 6, none, .mov (.t 0)⟩,
    ⟨some 7, none, .call false 147 [(.t 6)]⟩,
    ⟨some 2, none, .mov (.t 7)⟩] [2])
  .ret)))⟩

def i141_L0 : ACode :=
  (.seq (.region [⟨some 42, none, .bin .lss (.t 41) (.t 40)⟩] [0, 1, 5, 39, 40, 41, 42])
  (.seq (.cond (.t 42) .skip
  (.exit 1))
  (.seq (.block 2 (.seq (.region [⟨some 43, none, .idxas 1 (.t 39) (.t 41)⟩,
    ⟨some 44, none, .load none (.t 43)⟩,
    ⟨some 7, none, .mov (.t 44)⟩] [0, 1, 5, 7, 39, 40, 41])
  (.seq (.seq (.region [⟨some 45, none, .mov (.t 7)⟩,
    ⟨some 46, none, .lenstr (.t 45)⟩,
    ⟨some 47, none, .mov (.t 5)⟩,
    ⟨some 48, none, .bin .sub (.c (.int .i64 9223372036854775807)) (.t 47)⟩,
    ⟨some 49, none, .bin .gtr (.t 46) (.t 48)⟩] [0, 1, 5, 7, 39, 40, 41, 49])
  (.cond (.t 49) (.region [⟨some 50, none, .mkif 9 (.c (.str [115, 116, 114, 105, 110, 103, 115, 58, 32, 74, 111, 105, 110, 32, 111, 117, 116, 112, 117, 116, 32, 108, 101, 110, 103, 116, 104, 32, 111, 118, 101, 114, 102, 108, 111, 119]))⟩,
    ⟨none, none, .panic (.t 50)⟩] [0, 1, 5, 7, 39, 40, 41])
  .skip))
  (.region [⟨some 51, none, .mov (.t 5)⟩,
    ⟨some 52, none, .mov (.t 7)⟩,
    ⟨some 53, none, .lenstr (.t 52)⟩,
    ⟨some 54, none, .bin .add (.t 51) (.t 53)⟩,
    ⟨some 5, none, .mov (.t 54)⟩] [0, 1, 5, 39, 40, 41]))))
  (.region [⟨some 55, none, .bin .add (.t 41) (.c (.int .i64 1))⟩,
    ⟨some 41, none, .mov (.t 55)⟩] [0, 1, 5, 39, 40, 41]))))

def i141_L1 : ACode :=
  (.seq (.region [⟨some 66, none, .bin .lss (.t 65) (.t 64)⟩] [1, 8, 63, 64, 65, 66])
  (.seq (.cond (.t 66) .skip
  (.exit 3))
  (.seq (.block 4 (.seq (.region [⟨some 67, none, .idxas 1 (.t 63) (.t 65)⟩,
    ⟨some 68, none, .load none (.t 67)⟩,
    ⟨some 10, none, .mov (.t 68)⟩] [1, 8, 10, 63, 64, 65])
  (.seq (.region [⟨some 69, none, .mov (.t 1)⟩,
    ⟨some 70, none, .call true 82 [(.t 8), (.t 69)]⟩] [1, 8, 10, 63, 64, 65])
  (.region [⟨some 71, none, .mov (.t 10)⟩,
    ⟨some 72, none, .call true 82 [(.t 8), (.t 71)]⟩] [1, 8, 63, 64, 65]))))
  (.region [⟨some 73, none, .bin .add (.t 65) (.c (.int .i64 1))⟩,
    ⟨some 65, none, .mov (.t 73)⟩] [1, 8, 63, 64, 65]))))

/-- strings.Join -/
def i141 : AFunc := ⟨2, 75, [.tmp 4],
  (.seq (.region [⟨some 4, none, .mov (.c (.str []))⟩] [0, 1])
  (.seq (.seq (.region [⟨some 11, none, .mov (.t 0)⟩,
    ⟨some 12, none, .lensl (.t 11)⟩] [0, 1, 12])
  (.block 0 (.seq (.region [⟨some 14, none, .bin .eql (.t 12) (.c (.int .i64 0))⟩,
    ⟨some 13, none, .mov (.t 14)⟩] [0, 1, 12, 13])
  (.cond (.t 13) (.seq (.region [⟨some 4, none, .mov (.c (.str []))⟩] [4])
  .ret)
  (.seq (.region [⟨some 16, none, .bin .eql (.t 12) (.c (.int .i64 1))⟩,
    ⟨some 15, none, .mov (.t 16)⟩] [0, 1, 15])
  (.cond (.t 15) (.seq (.region [⟨some 17, none, .mov (.t 0)⟩,
    ⟨some 18, none, .idxas 1 (.t 17) (.c (.int .i64 0))⟩,
    ⟨some 19, none, .load none (.t 18)⟩,
    ⟨some 4, none, .mov (.t 19)⟩] [4])
  .ret)
  .skip))))))
  (.seq (.region [⟨some 5, none, .mov (.c (.int .i64 0))⟩] [0, 1, 5])
  (.seq (.seq (.region [⟨some 20, none, .mov (.t 1)⟩,
    ⟨some 21, none, .lenstr (.t 20)⟩,
    ⟨some 22, none, .bin .gtr (.t 21) (.c (.int .i64 0))⟩] [0, 1, 5, 22])
  (.cond (.t 22) (.seq (.seq (.region [⟨some 23, none, .mov (.t 1)⟩,
    ⟨some 24, none, .lenstr (.t 23)⟩,
    ⟨some 25, none, .mov (.t 0)⟩,
    ⟨some 26, none, .lensl (.t 25)⟩,
    ⟨some 27, none, .bin .sub (.t 26) (.c (.int .i64 1))⟩,
    ⟨some 28, none, .bin .quo (.c (.int .i64 9223372036854775807)) (.t 27)⟩,
    ⟨some 29, none, .bin .geq (.t 24) (.t 28)⟩] [0, 1, 5, 29])
  (.cond (.t 29) (.region [⟨some 30, none, .mkif 9 (.c (.str [115, 116, 114, 105, 110, 103, 115, 58, 32, 74, 111, 105, 110, 32, 111, 117, 116, 112, 117, 116, 32, 108, 101, 110, 103, 116, 104, 32, 111, 118, 101, 114, 102, 108, 111, 119]))⟩,
    ⟨none, none, .panic (.t 30)⟩] [0, 1, 5])
  .skip))
  (.region [⟨some 31, none, .mov (.t 5)⟩,
    ⟨some 32, none, .mov (.t 1)⟩,
    ⟨some 33, none, .lenstr (.t 32)⟩,
    ⟨some 34, none, .mov (.t 0)⟩,
    ⟨some 35, none, .lensl (.t 34)⟩,
    ⟨some 36, none, .bin .sub (.t 35) (.c (.int .i64 1))⟩,
    ⟨some 37, none, .bin .mul (.t 33) (.t 36)⟩,
    ⟨some 38, none, .bin .add (.t 31) (.t 37)⟩,
    ⟨some 5, none, .mov (.t 38)⟩] [0, 1, 5]))
  .skip))
  (.seq (.seq (.region [⟨some 39, none, .mov (.t 0)⟩,
    ⟨some 40, none, .lensl (.t 39)⟩,
    ⟨some 41, none, .mov (.c (.int .i64 0))⟩] [0, 1, 5, 39, 40, 41])
  (.block 1 (.loop [0, 1, 5, 39, 40, 41] i141_L0)))
  (.seq (.region [⟨some 8, none, .alloc [.nilp, (.sl 1 [] .exact)] 128⟩] [0, 1, 5, 8])
  (.seq (.region [⟨some 56, none, .mov (.t 5)⟩,
    ⟨some 57, none, .call true 107 [(.t 8), (.t 56)]⟩] [0, 1, 8])
  (.seq (.region [⟨some 58, none, .mov (.t 0)⟩,
    ⟨some 59, none, .idxas 1 (.t 58) (.c (.int .i64 0))⟩,
    ⟨some 60, none, .load none (.t 59)⟩,
    ⟨some 61, none, .call true 82 [(.t 8), (.t 60)]⟩] [0, 1, 8])
  (.seq (.seq (.region [⟨some 62, none, .mov (.t 0)⟩,
    ⟨some 63, none, .slsl 1 (.t 62) (some (.c (.int .i64 1))) none none⟩,
    ⟨some 64, none, .lensl (.t 63)⟩,
    ⟨some 65, none, .mov (.c (.int .i64 0))⟩] [1, 8, 63, 64, 65])
  (.block 3 (.loop [1, 8, 63, 64, 65] i141_L1)))
  (.seq (.region [⟨some 74, none, .call true 86 [(.t 8)]⟩,
    ⟨some 4, none, .mov (.t 74)⟩] [4])
  .ret))))))))))⟩

/-- internal/bytealg.Cutover -/
def i144 : AFunc := ⟨1, 6, [.tmp 2],
  (.seq (.region [⟨some 2, none, .mov (.c (.int .i64 0))⟩] [0])
  (.seq (.region [⟨some 3, none, .mov (.t 0)⟩,
    ⟨some 4, none, .bin .add (.t 3) (.c (.int .i64 16))⟩,
    ⟨some 5, none, .bin .quo (.t 4) (.c (.int .i64 8))⟩,
    ⟨some 2, none, .mov (.t 5)⟩] [2])
  .ret))⟩

def i145_L0 : ACode :=
  (.seq (.seq (.region [⟨some 18, none, .mov (.t 9)⟩,
    ⟨some 19, none, .mov (.t 7)⟩,
    ⟨some 20, none, .bin .lss (.t 18) (.t 19)⟩] [0, 1, 5, 6, 7, 8, 9, 20])
  (.cond (.t 20) .skip
  (.exit 0)))
  (.seq (.block 1 (.region [⟨some 23, none, .mov (.t 8)⟩,
    ⟨some 24, none, .bin .mul (.t 23) (.c (.int .u32 16777619))⟩,
    ⟨some 25, none, .mov (.t 0)⟩,
    ⟨some 26, none, .mov (.t 9)⟩,
    ⟨some 27, none, .idxstr (.t 25) (.t 26)⟩,
    ⟨some 28, none, .cvi .u32 (.t 27)⟩,
    ⟨some 29, none, .bin .add (.t 24) (.t 28)⟩,
    ⟨some 8, none, .mov (.t 29)⟩] [0, 1, 5, 6, 7, 8, 9]))
  (.region [⟨some 21, none, .mov (.t 9)⟩,
    ⟨some 22, none, .bin .add (.t 21) (.c (.int .i64 1))⟩,
    ⟨some 9, none, .mov (.t 22)⟩] [0, 1, 5, 6, 7, 8, 9])))

def i145_L1 : ACode :=
  (.seq (.seq (.region [⟨some 41, none, .mov (.t 10)⟩,
    ⟨some 42, none, .mov (.t 0)⟩,
    ⟨some 43, none, .lenstr (.t 42)⟩,
    ⟨some 44, none, .bin .lss (.t 41) (.t 43)⟩] [0, 1, 5, 6, 7, 8, 10, 44])
  (.cond (.t 44) .skip
  (.exit 2)))
  (.block 3 (.seq (.region [⟨some 45, none, .mov (.t 8)⟩,
    ⟨some 46, none, .bin .mul (.t 45) (.c (.int .u32 16777619))⟩,
    ⟨some 8, none, .mov (.t 46)⟩] [0, 1, 5, 6, 7, 8, 10])
  (.seq (.region [⟨some 47, none, .mov (.t 8)⟩,
    ⟨some 48, none, .mov (.t 0)⟩,
    ⟨some 49, none, .mov (.t 10)⟩,
    ⟨some 50, none, .idxstr (.t 48) (.t 49)⟩,
    ⟨some 51, none, .cvi .u32 (.t 50)⟩,
    ⟨some 52, none, .bin .add (.t 47) (.t 51)⟩,
    ⟨some 8, none, .mov (.t 52)⟩] [0, 1, 5, 6, 7, 8, 10])
  (.seq (.region [⟨some 53, none, .mov (.t 8)⟩,
    ⟨some 54, none, .mov (.t 6)⟩,
    ⟨some 55, none, .mov (.t 0)⟩,
    ⟨some 56, none, .mov (.t 10)⟩,
    ⟨some 57, none, .mov (.t 7)⟩,
    ⟨some 58, none, .bin .sub (.t 56) (.t 57)⟩,
    ⟨some 59, none, .idxstr (.t 55) (.t 58)⟩,
    ⟨some 60, none, .cvi .u32 (.t 59)⟩,
    ⟨some 61, none, .bin .mul (.t 54) (.t 60)⟩,
    ⟨some 62, none, .bin .sub (.t 53) (.t 61)⟩,
    ⟨some 8, none, .mov (.t 62)⟩] [0, 1, 5, 6, 7, 8, 10])
  (.seq (.region [⟨some 63, none, .mov (.t 10)⟩,
    ⟨some 64, none, .bin .add (.t 63) (.c (.int .i64 1))⟩,
    ⟨some 10, none, .mov (.t 64)⟩] [0, 1, 5, 6, 7, 8, 10])
  (.seq (.region [⟨some 65, none, .mov (.t 8)⟩,
    ⟨some 66, none, .mov (.t 5)⟩,
    ⟨some 67, none, .bin .eql (.t 65) (.t 66)⟩,
    ⟨some 68, none, .mov (.t 67)⟩,
    ⟨some 69, (some (68, true)), .mov (.t 0)⟩,
    ⟨some 70, (some (68, true)), .mov (.t 10)⟩,
    ⟨some 71, (some (68, true)), .mov (.t 7)⟩,
    ⟨some 72, (some (68, true)), .bin .sub (.t 70) (.t 71)⟩,
    ⟨some 73, (some (68, true)), .mov (.t 10)⟩,
    ⟨some 74, (some (68, true)), .slstr (.t 69) (some (.t 72)) (some (.t 73))⟩,
    ⟨some 75, (some (68, true)), .mov (.t 1)⟩,
    ⟨some 76, (some (68, true)), .bin .eql (.t 74) (.t 75)⟩,
    ⟨some 77, none, .pick (.t 68) (.t 76) (.c (.bool false))⟩] [0, 1, 5, 6, 7, 8, 10, 77])
  (.cond (.t 77) (.seq (.region [⟨some 78, none, .mov (.t 10)⟩,
    ⟨some 79, none, .mov (.t 7)⟩,
    ⟨some 80, none, .bin .sub (.t 78) (.t 79)⟩,
    ⟨some 4, none, .mov (.t 80)⟩] [4])
  .ret)
  .skip))))))))

/-- internal/bytealg.IndexRabinKarp[string] -/
def i145 : AFunc := ⟨2, 81, [.tmp 4],
  (.seq (.region [⟨some 4, none, .mov (.c (.int .i64 0))⟩] [0, 1])
  (.seq (.region [⟨some 12, none, .mov (.t 1)⟩,
    ⟨some 13, none, .call false 149 [(.t 12)]⟩,
    ⟨some 11, none, .mov (.t 13)⟩,
    ⟨some 14, none, .ext (.t 11) 0⟩,
    ⟨some 15, none, .ext (.t 11) 1⟩,
    ⟨some 5, none, .mov (.t 14)⟩,
    ⟨some 6, none, .mov (.t 15)⟩] [0, 1, 5, 6])
  (.seq (.region [⟨some 16, none, .mov (.t 1)⟩,
    ⟨some 17, none, .lenstr (.t 16)⟩,
    ⟨some 7, none, .mov (.t 17)⟩] [0, 1, 5, 6, 7])
  (.seq (.region [⟨some 8, none, .mov (.c (.int .u32 0))⟩] [0, 1, 5, 6, 7, 8])
  (.seq (.seq (.region [⟨some 9, none, .mov (.c (.int .i64 0))⟩] [0, 1, 5, 6, 7, 8, 9])
  (.block 0 (.loop [0, 1, 5, 6, 7, 8, 9] i145_L0)))
  (.seq (.seq (.region [⟨some 30, none, .mov (.t 8)⟩,
    ⟨some 31, none, .mov (.t 5)⟩,
    ⟨some 32, none, .bin .eql (.t 30) (.t 31)⟩,
    ⟨some 33, none, .mov (.t 32)⟩,
    ⟨some 34, (some (33, true)), .mov (.t 0)⟩,
    ⟨some 35, (some (33, true)), .mov (.t 7)⟩,
    ⟨some 36, (some (33, true)), .slstr (.t 34) none (some (.t 35))⟩,
    ⟨some 37, (some (33, true)), .mov (.t 1)⟩,
    ⟨some 38, (some (33, true)), .bin .eql (.t 36) (.t 37)⟩,
    ⟨some 39, none, .pick (.t 33) (.t 38) (.c (.bool false))⟩] [0, 1, 5, 6, 7, 8, 39])
  (.cond (.t 39) (.seq (.region [⟨some 4, none, .mov (.c (.int .i64 0))⟩] [4])
  .ret)
  .skip))
  (.seq (.seq (.region [⟨some 40, none, .mov (.t 7)⟩,
    ⟨some 10, none, .mov (.t 40)⟩] [0, 1, 5, 6, 7, 8, 10])
  (.block 2 (.loop [0, 1, 5, 6, 7, 8, 10] i145_L1)))
  (.seq (.region [⟨some 4, none, .mov (.c (.int .i64 (-1)))⟩] [4])
  .ret))))))))⟩

/-- math/bits.TrailingZeros32 -/
def i146 : AFunc := ⟨1, 14, [.tmp 2],
  (.seq (.region [⟨some 2, none, .mov (.c (.int .i64 0))⟩] [0])
  (.seq (.seq (.region [⟨some 3, none, .mov (.t 0)⟩,
    ⟨some 4, none, .bin .eql (.t 3) (.c (.int .u32 0))⟩] [0, 4])
  (.cond (.t 4) (.seq (.region [⟨some 2, none, .mov (.c (.int .i64 32))⟩] [2])
  .ret)
  .skip))
  (.seq (.region [⟨some 5, none, .mov (.t 0)⟩,
    ⟨some 6, none, .mov (.t 0)⟩,
    ⟨some 7, none, .un .neg (.t 6)⟩,
    ⟨some 8, none, .bin .and (.t 5) (.t 7)⟩,
    ⟨some 9, none, .bin .mul (.t 8) (.c (.int .u32 125613361))⟩,
    ⟨some 10, none, .bin .shr (.t 9) (.c (.int .u64 27))⟩,
    ⟨some 11, none, .idxaa 32 1 (.g 6) (.t 10)⟩,
    ⟨some 12, none, .load none (.t 11)⟩,
    ⟨some 13, none, .cvi .i64 (.t 12)⟩,
    ⟨some 2, none, .mov (.t 13)⟩] [2])
  .ret)))⟩

/-- math/bits.TrailingZeros64 -/
def i147 : AFunc := ⟨1, 14, [.tmp 2],
  (.seq (.region [⟨some 2, none, .mov (.c (.int .i64 0))⟩] [0])
  (.seq (.seq (.region [⟨some 3, none, .mov (.t 0)⟩,
    ⟨some 4, none, .bin .eql (.t 3) (.c (.int .u64 0))⟩] [0, 4])
  (.cond (.t 4) (.seq (.region [⟨some 2, none, .mov (.c (.int .i64 64))⟩] [2])
  .ret)
  .skip))
  (.seq (.region [⟨some 5, none, .mov (.t 0)⟩,
    ⟨some 6, none, .mov (.t 0)⟩,
    ⟨some 7, none, .un .neg (.t 6)⟩,
    ⟨some 8, none, .bin .and (.t 5) (.t 7)⟩,
    ⟨some 9, none, .bin .mul (.t 8) (.c (.int .u64 285870213051353865))⟩,
    ⟨some 10, none, .bin .shr (.t 9) (.c (.int .u64 58))⟩,
    ⟨some 11, none, .idxaa 64 1 (.g 7) (.t 10)⟩,
    ⟨some 12, none, .load none (.t 11)⟩,
    ⟨some 13, none, .cvi .i64 (.t 12)⟩,
    ⟨some 2, none, .mov (.t 13)⟩] [2])
  .ret)))⟩

def i149_L0 : ACode :=
  (.seq (.seq (.region [⟨some 9, none, .mov (.t 5)⟩,
    ⟨some 10, none, .mov (.t 0)⟩,
    ⟨some 11, none, .lenstr (.t 10)⟩,
    ⟨some 12, none, .bin .lss (.t 9) (.t 11)⟩] [0, 4, 5, 12])
  (.cond (.t 12) .skip
  (.exit 0)))
  (.seq (.block 1 (.region [⟨some 15, none, .mov (.t 4)⟩,
    ⟨some 16, none, .bin .mul (.t 15) (.c (.int .u32 16777619))⟩,
    ⟨some 17, none, .mov (.t 0)⟩,
    ⟨some 18, none, .mov (.t 5)⟩,
    ⟨some 19, none, .idxstr (.t 17) (.t 18)⟩,
    ⟨some 20, none, .cvi .u32 (.t 19)⟩,
    ⟨some 21, none, .bin .add (.t 16) (.t 20)⟩,
    ⟨some 4, none, .mov (.t 21)⟩] [0, 4, 5]))
  (.region [⟨some 13, none, .mov (.t 5)⟩,
    ⟨some 14, none, .bin .add (.t 13) (.c (.int .i64 1))⟩,
    ⟨some 5, none, .mov (.t 14)⟩] [0, 4, 5])))

def i149_L1 : ACode :=
  (.seq (.seq (.region [⟨some 24, none, .mov (.t 8)⟩,
    ⟨some 25, none, .bin .gtr (.t 24) (.c (.int .i64 0))⟩] [4, 6, 7, 8, 25])
  (.cond (.t 25) .skip
  (.exit 2)))
  (.seq (.block 3 (.seq (.seq (.region [⟨some 28, none, .mov (.t 8)⟩,
    ⟨some 29, none, .bin .and (.t 28) (.c (.int .i64 1))⟩,
    ⟨some 30, none, .bin .neq (.t 29) (.c (.int .i64 0))⟩] [4, 6, 7, 8, 30])
  (.cond (.t 30) (.region [⟨some 31, none, .mov (.t 6)⟩,
    ⟨some 32, none, .mov (.t 7)⟩,
    ⟨some 33, none, .bin .mul (.t 31) (.t 32)⟩,
    ⟨some 6, none, .mov (.t 33)⟩] [4, 6, 7, 8])
  .skip))
  (.region [⟨some 34, none, .mov (.t 7)⟩,
    ⟨some 35, none, .mov (.t 7)⟩,
    ⟨some 36, none, .bin .mul (.t 34) (.t 35)⟩,
    ⟨some 7, none, .mov (.t 36)⟩] [4, 6, 7, 8])))
  (.region [⟨some 26, none, .mov (.t 8)⟩,
    ⟨some 27, none, .bin .shr (.t 26) (.c (.int .u64 1))⟩,
    ⟨some 8, none, .mov (.t 27)⟩] [4, 6, 7, 8])))

/-- internal/bytealg.hashStr[string] -/
def i149 : AFunc := ⟨1, 39, [.tmp 2, .tmp 3],
  (.seq (.region [⟨some 2, none, .mov (.c (.int .u32 0))⟩,
    ⟨some 3, none, .mov (.c (.int .u32 0))⟩] [0])
  (.seq (.region [⟨some 4, none, .mov (.c (.int .u32 0))⟩] [0, 4])
  (.seq (.seq (.region [⟨some 5, none, .mov (.c (.int .i64 0))⟩] [0, 4, 5])
  (.block 0 (.loop [0, 4, 5] i149_L0)))
  (.seq (.region [⟨some 6, none, .mov (.c (.int .u32 1))⟩,
    ⟨some 7, none, .mov (.c (.int .u32 16777619))⟩] [0, 4, 6, 7])
  (.seq (.seq (.region [⟨some 22, none, .mov (.t 0)⟩,
    ⟨some 23, none, .lenstr (.t 22)⟩,
    ⟨some 8, none, .mov (.t 23)⟩] [4, 6, 7, 8])
  (.block 2 (.loop [4, 6, 7, 8] i149_L1)))
  (.seq (.region [⟨some 37, none, .mov (.t 4)⟩,
    ⟨some 38, none, .mov (.t 6)⟩,
    ⟨some 2, none, .mov (.t 37)⟩,
    ⟨some 3, none, .mov (.t 38)⟩] [2, 3])
  .ret))))))⟩

/-- gosem.cut.vars -/
def i180 : AFunc := ⟨0, 7, [],
  (.seq (.region [⟨some 0, none, .build [(.int .u8 0), (.int .u8 0), (.int .u8 0), (.int .u8 0), (.int .u8 0), (.int .u8 0), (.int .u8 0), (.int .u8 0), (.int .u8 0), (.int .u8 0), (.int .u8 0), (.int .u8 0), (.int .u8 0), (.int .u8 0), (.int .u8 0), (.int .u8 0), (.int .u8 0), (.int .u8 0), (.int .u8 0), (.int .u8 0), (.int .u8 0), (.int .u8 0), (.int .u8 0), (.int .u8 0), (.int .u8 0), (.int .u8 0), (.int .u8 0), (.int .u8 0), (.int .u8 0), (.int .u8 0), (.int .u8 0), (.int .u8 0)] [(0, 1, (.c (.int .u8 0))), (1, 1, (.c (.int .u8 1))), (2, 1, (.c (.int .u8 28))), (3, 1, (.c (.int .u8 2))), (4, 1, (.c (.int .u8 29))), (5, 1, (.c (.int .u8 14))), (6, 1, (.c (.int .u8 24))), (7, 1, (.c (.int .u8 3))), (8, 1, (.c (.int .u8 30))), (9, 1, (.c (.int .u8 22))), (10, 1, (.c (.int .u8 20))), (11, 1, (.c (.int .u8 15))), (12, 1, (.c (.int .u8 25))), (13, 1, (.c (.int .u8 17))), (14, 1, (.c (.int .u8 4))), (15, 1, (.c (.int .u8 8))), (16, 1, (.c (.int .u8 31))), (17, 1, (.c (.int .u8 27))), (18, 1, (.c (.int .u8 13))), (19, 1, (.c (.int .u8 23))), (20, 1, (.c (.int .u8 21))), (21, 1, (.c (.int .u8 19))), (22, 1, (.c (.int .u8 16))), (23, 1, (.c (.int .u8 7))), (24, 1, (.c (.int .u8 26))), (25, 1, (.c (.int .u8 12))), (26, 1, (.c (.int .u8 18))), (27, 1, (.c (.int .u8 6))), (28, 1, (.c (.int .u8 11))), (29, 1, (.c (.int .u8 5))), (30, 1, (.c (.int .u8 10))), (31, 1, (.c (.int .u8 9)))]⟩,
    ⟨none, none, .store 32 (.g 6) (.t 0)⟩] [])
  (.seq (.region [⟨some 1, none, .build [(.int .u8 0), (.int .u8 0), (.int .u8 0), (.int .u8 0), (.int .u8 0), (.int .u8 0), (.int .u8 0), (.int .u8 0), (.int .u8 0), (.int .u8 0), (.int .u8 0), (.int .u8 0), (.int .u8 0), (.int .u8 0), (.int .u8 0), (.int .u8 0), (.int .u8 0), (.int .u8 0), (.int .u8 0), (.int .u8 0), (.int .u8 0), (.int .u8 0), (.int .u8 0), (.int .u8 0), (.int .u8 0), (.int .u8 0), (.int .u8 0), (.int .u8 0), (.int .u8 0), (.int .u8 0), (.int .u8 0), (.int .u8 0), (.int .u8 0), (.int .u8 0), (.int .u8 0), (.int .u8 0), (.int .u8 0), (.int .u8 0), (.int .u8 0), (.int .u8 0), (.int .u8 0), (.int .u8 0), (.int .u8 0), (.int .u8 0), (.int .u8 0), (.int .u8 0), (.int .u8 0), (.int .u8 0), (.int .u8 0), (.int .u8 0), (.int .u8 0), (.int .u8 0), (.int .u8 0), (.int .u8 0), (.int .u8 0), (.int .u8 0), (.int .u8 0), (.int .u8 0), (.int .u8 0), (.int .u8 0), (.int .u8 0), (.int .u8 0), (.int .u8 0), (.int .u8 0)] [(0, 1, (.c (.int .u8 0))), (1, 1, (.c (.int .u8 1))), (2, 1, (.c (.int .u8 56))), (3, 1, (.c (.int .u8 2))), (4, 1, (.c (.int .u8 57))), (5, 1, (.c (.int .u8 49))), (6, 1, (.c (.int .u8 28))), (7, 1, (.c (.int .u8 3))), (8, 1, (.c (.int .u8 61))), (9, 1, (.c (.int .u8 58))), (10, 1, (.c (.int .u8 42))), (11, 1, (.c (.int .u8 50))), (12, 1, (.c (.int .u8 38))), (13, 1, (.c (.int .u8 29))), (14, 1, (.c (.int .u8 17))), (15, 1, (.c (.int .u8 4))), (16, 1, (.c (.int .u8 62))), (17, 1, (.c (.int .u8 47))), (18, 1, (.c (.int .u8 59))), (19, 1, (.c (.int .u8 36))), (20, 1, (.c (.int .u8 45))), (21, 1, (.c (.int .u8 43))), (22, 1, (.c (.int .u8 51))), (23, 1, (.c (.int .u8 22))), (24, 1, (.c (.int .u8 53))), (25, 1, (.c (.int .u8 39))), (26, 1, (.c (.int .u8 33))), (27, 1, (.c (.int .u8 30))), (28, 1, (.c (.int .u8 24))), (29, 1, (.c (.int .u8 18))), (30, 1, (.c (.int .u8 12))), (31, 1, (.c (.int .u8 5))), (32, 1, (.c (.int .u8 63))), (33, 1, (.c (.int .u8 55))), (34, 1, (.c (.int .u8 48))), (35, 1, (.c (.int .u8 27))), (36, 1, (.c (.int .u8 60))), (37, 1, (.c (.int .u8 41))), (38, 1, (.c (.int .u8 37))), (39, 1, (.c (.int .u8 16))), (40, 1, (.c (.int .u8 46))), (41, 1, (.c (.int .u8 35))), (42, 1, (.c (.int .u8 44))), (43, 1, (.c (.int .u8 21))), (44, 1, (.c (.int .u8 52))), (45, 1, (.c (.int .u8 32))), (46, 1, (.c (.int .u8 23))), (47, 1, (.c (.int .u8 11))), (48, 1, (.c (.int .u8 54))), (49, 1, (.c (.int .u8 26))), (50, 1, (.c (.int .u8 40))), (51, 1, (.c (.int .u8 15))), (52, 1, (.c (.int .u8 34))), (53, 1, (.c (.int .u8 20))), (54, 1, (.c (.int .u8 31))), (55, 1, (.c (.int .u8 10))), (56, 1, (.c (.int .u8 25))), (57, 1, (.c (.int .u8 14))), (58, 1, (.c (.int .u8 19))), (59, 1, (.c (.int .u8 9))), (60, 1, (.c (.int .u8 13))), (61, 1, (.c (.int .u8 8))), (62, 1, (.c (.int .u8 7))), (63, 1, (.c (.int .u8 6)))]⟩,
    ⟨none, none, .store 64 (.g 7) (.t 1)⟩] [])
  (.seq (.region [⟨some 2, none, .build [(.int .u64 0), (.int .u64 0), (.int .u64 0), (.int .u64 0), (.int .u64 0), (.int .u64 0), (.int .u64 0), (.int .u64 0), (.int .u64 0), (.int .u64 0), (.int .u64 0), (.int .u64 0), (.int .u64 0), (.int .u64 0), (.int .u64 0), (.int .u64 0), (.int .u64 0), (.int .u64 0), (.int .u64 0), (.int .u64 0)] [(0, 1, (.c (.int .u64 1))), (1, 1, (.c (.int .u64 10))), (2, 1, (.c (.int .u64 100))), (3, 1, (.c (.int .u64 1000))), (4, 1, (.c (.int .u64 10000))), (5, 1, (.c (.int .u64 100000))), (6, 1, (.c (.int .u64 1000000))), (7, 1, (.c (.int .u64 10000000))), (8, 1, (.c (.int .u64 100000000))), (9, 1, (.c (.int .u64 1000000000))), (10, 1, (.c (.int .u64 10000000000))), (11, 1, (.c (.int .u64 100000000000))), (12, 1, (.c (.int .u64 1000000000000))), (13, 1, (.c (.int .u64 10000000000000))), (14, 1, (.c (.int .u64 100000000000000))), (15, 1, (.c (.int .u64 1000000000000000))), (16, 1, (.c (.int .u64 10000000000000000))), (17, 1, (.c (.int .u64 100000000000000000))), (18, 1, (.c (.int .u64 1000000000000000000))), (19, 1, (.c (.int .u64 10000000000000000000)))]⟩,
    ⟨none, none, .store 20 (.g 4) (.t 2)⟩] [])
  (.seq (.region [⟨some 3, none, .call false 133 [(.c (.str [118, 97, 108, 117, 101, 32, 111, 117, 116, 32, 111, 102, 32, 114, 97, 110, 103, 101]))]⟩,
    ⟨none, none, .store 1 (.g 3) (.t 3)⟩] [])
  (.seq (.region [⟨some 4, none, .call false 133 [(.c (.str [105, 110, 118, 97, 108, 105, 100, 32, 115, 121, 110, 116, 97, 120]))]⟩,
    ⟨none, none, .store 1 (.g 2) (.t 4)⟩] [])
  (.seq (.region [⟨some 5, none, .build [(.str []), (.str []), (.str []), (.str []), (.str []), (.str []), (.str []), (.str []), (.str []), (.str []), (.str []), (.str []), (.str []), (.str []), (.str [])] [(0, 1, (.c (.str []))), (1, 1, (.c (.str [61, 61]))), (2, 1, (.c (.str [33, 61]))), (3, 1, (.c (.str [60]))), (4, 1, (.c (.str [60, 61]))), (5, 1, (.c (.str [43]))), (6, 1, (.c (.str [45]))), (7, 1, (.c (.str [124]))), (8, 1, (.c (.str [94]))), (9, 1, (.c (.str [42]))), (10, 1, (.c (.str [47]))), (11, 1, (.c (.str [37]))), (12, 1, (.c (.str [38]))), (13, 1, (.c (.str [33]))), (14, 1, (.c (.str [45])))]⟩,
    ⟨none, none, .store 15 (.g 1) (.t 5)⟩] [])
  (.region [⟨some 6, none, .build [(.str []), (.str []), (.str []), (.str []), (.str []), (.str []), (.str [])] [(0, 1, (.c (.str []))), (1, 1, (.c (.str [112, 108, 110]))), (2, 1, (.c (.str [114, 108, 120]))), (3, 1, (.c (.str [97, 99, 113]))), (4, 1, (.c (.str [114, 101, 108]))), (5, 1, (.c (.str [97, 114]))), (6, 1, (.c (.str [115, 99])))]⟩,
    ⟨none, none, .store 7 (.g 0) (.t 6)⟩] [])))))))⟩


end Go.Pm
end

section
set_option linter.unusedSimpArgs false
set_option linter.unusedVariables false
set_option linter.unusedSectionVars false
/- The code, all of it, and the package-level variables that are known. -/
set_option maxRecDepth 100000
namespace Go.Pm
def lookI (f : Nat) : List (Nat × AFunc) → Option AFunc
  | [] => none
  | (n, a) :: r => if n = f then some a else lookI f r
def glb (m : Int) : List (Option (List AV)) := [some [(.str []), (.str [112, 108, 110]), (.str [114, 108, 120]), (.str [97, 99, 113]), (.str [114, 101, 108]), (.str [97, 114]), (.str [115, 99])],
  some [(.str []), (.str [61, 61]), (.str [33, 61]), (.str [60]), (.str [60, 61]), (.str [43]), (.str [45]), (.str [124]), (.str [94]), (.str [42]), (.str [47]), (.str [37]), (.str [38]), (.str [33]), (.str [45])],
  some [(.iface 182 (.ip 1 [.agg [(.str [105, 110, 118, 97, 108, 105, 100, 32, 115, 121, 110, 116, 97, 120])]] 0 0))],
  some [(.iface 182 (.ip 1 [.agg [(.str [118, 97, 108, 117, 101, 32, 111, 117, 116, 32, 111, 102, 32, 114, 97, 110, 103, 101])]] 0 0))],
  some [(.int .u64 1), (.int .u64 10), (.int .u64 100), (.int .u64 1000), (.int .u64 10000), (.int .u64 100000), (.int .u64 1000000), (.int .u64 10000000), (.int .u64 100000000), (.int .u64 1000000000), (.int .u64 10000000000), (.int .u64 100000000000), (.int .u64 1000000000000), (.int .u64 10000000000000), (.int .u64 100000000000000), (.int .u64 1000000000000000), (.int .u64 10000000000000000), (.int .u64 100000000000000000), (.int .u64 1000000000000000000), (.int .u64 10000000000000000000)],
  some [(.int .i64 m)],
  some [(.int .u8 0), (.int .u8 1), (.int .u8 28), (.int .u8 2), (.int .u8 29), (.int .u8 14), (.int .u8 24), (.int .u8 3), (.int .u8 30), (.int .u8 22), (.int .u8 20), (.int .u8 15), (.int .u8 25), (.int .u8 17), (.int .u8 4), (.int .u8 8), (.int .u8 31), (.int .u8 27), (.int .u8 13), (.int .u8 23), (.int .u8 21), (.int .u8 19), (.int .u8 16), (.int .u8 7), (.int .u8 26), (.int .u8 12), (.int .u8 18), (.int .u8 6), (.int .u8 11), (.int .u8 5), (.int .u8 10), (.int .u8 9)],
  some [(.int .u8 0), (.int .u8 1), (.int .u8 56), (.int .u8 2), (.int .u8 57), (.int .u8 49), (.int .u8 28), (.int .u8 3), (.int .u8 61), (.int .u8 58), (.int .u8 42), (.int .u8 50), (.int .u8 38), (.int .u8 29), (.int .u8 17), (.int .u8 4), (.int .u8 62), (.int .u8 47), (.int .u8 59), (.int .u8 36), (.int .u8 45), (.int .u8 43), (.int .u8 51), (.int .u8 22), (.int .u8 53), (.int .u8 39), (.int .u8 33), (.int .u8 30), (.int .u8 24), (.int .u8 18), (.int .u8 12), (.int .u8 5), (.int .u8 63), (.int .u8 55), (.int .u8 48), (.int .u8 27), (.int .u8 60), (.int .u8 41), (.int .u8 37), (.int .u8 16), (.int .u8 46), (.int .u8 35), (.int .u8 44), (.int .u8 21), (.int .u8 52), (.int .u8 32), (.int .u8 23), (.int .u8 11), (.int .u8 54), (.int .u8 26), (.int .u8 40), (.int .u8 15), (.int .u8 34), (.int .u8 20), (.int .u8 31), (.int .u8 10), (.int .u8 25), (.int .u8 14), (.int .u8 19), (.int .u8 9), (.int .u8 13), (.int .u8 8), (.int .u8 7), (.int .u8 6)]]
def irL : List (Nat × AFunc) := [(3, i3), (4, i4), (5, i5), (6, i6), (7, i7), (8, i8), (9, i9), (10, i10), (11, i11), (12, i12), (13, i13), (14, i14), (15, i15), (16, i16), (17, i17), (18, i18), (19, i19), (20, i20), (21, i21), (22, i22), (23, i23), (24, i24), (25, i25), (26, i26), (27, i27), (28, i28), (29, i29), (30, i30), (31, i31), (32, i32), (33, i33), (34, i34), (35, i35), (36, i36), (37, i37), (38, i38), (39, i39), (40, i40), (41, i41), (42, i42), (43, i43), (44, i44), (45, i45), (46, i46), (47, i47), (48, i48), (49, i49), (50, i50), (51, i51), (52, i52), (53, i53), (54, i54), (55, i55), (56, i56), (57, i57), (58, i58), (59, i59), (60, i60), (61, i61), (62, i62), (63, i63), (64, i64), (65, i65), (66, i66), (67, i67), (68, i68), (69, i69), (70, i70), (71, i71), (72, i72), (73, i73), (74, i74), (75, i75), (76, i76), (77, i77), (78, i78), (79, i79), (80, i80), (81, i81), (82, i82), (83, i83), (84, i84), (85, i85), (87, i87), (88, i88), (89, i89), (90, i90), (91, i91), (92, i92), (93, i93), (94, i94), (95, i95), (96, i96), (97, i97), (98, i98), (99, i99), (101, i101), (102, i102), (103, i103), (105, i105), (106, i106), (108, i108), (109, i109), (110, i110), (111, i111), (112, i112), (113, i113), (114, i114), (115, i115), (116, i116), (117, i117), (118, i118), (119, i119), (120, i120), (122, i122), (123, i123), (124, i124), (126, i126), (127, i127), (128, i128), (129, i129), (130, i130), (131, i131), (133, i133), (136, i136), (137, i137), (138, i138), (139, i139), (140, i140), (141, i141), (144, i144), (145, i145), (146, i146), (147, i147), (149, i149), (180, i180)]
def irOf : FuncId → Option AFunc := fun f => lookI f irL
def glOf (m : Int) : Globals := fun g => match (glb m)[g]? with | some (some c) => some c | _ => none
end Go.Pm
end

section
set_option linter.unusedSimpArgs false
set_option linter.unusedVariables false
set_option linter.unusedSectionVars false
/- The pure machine: laws for stepping through code by rewriting. -/
namespace Go.Pm

theorem keepE_nil (env : Env) : keepE [] env = [] := rfl
theorem keepE_cons (k : Nat) (ks : List Nat) (env : Env) : keepE (k :: ks) env = match look env k with | some v => (k, v) :: keepE ks env | none => keepE ks env := by
  simp only [keepE, List.filterMap_cons]; cases look env k <;> rfl

theorem iterA_succ (f : Env → Store → Res) (keep : List Nat) (n : Nat) (env : Env) (σ : Store) :
    iterA f keep (n + 1) env σ = match f (keepE keep env) σ with | some (.normal, env, σ) => iterA f keep n env σ | x => x := rfl

theorem iterA_normal {f : Env → Store → Res} {keep : List Nat} {n : Nat} {env env' : Env} {σ σ' : Store} (h : f (keepE keep env) σ = some (.normal, env', σ')) :
    iterA f keep (n + 1) env σ = iterA f keep n env' σ' := by rw [iterA_succ, h]

theorem iterA_out {f : Env → Store → Res} {keep : List Nat} {n : Nat} {env env' : Env} {σ σ' : Store} {e : AExit} (h : f (keepE keep env) σ = some (e, env', σ')) (he : e ≠ .normal) :
    iterA f keep (n + 1) env σ = some (e, env', σ') := by rw [iterA_succ, h]; cases e <;> first | rfl | exact absurd rfl he

theorem jumpsA_succ (f : Option Nat → Env → Store → Res) (n : Nat) (start : Option Nat) (env : Env) (σ : Store) :
    jumpsA f (n + 1) start env σ = match f start env σ with | some (.goto l, env, σ) => jumpsA f n (some l) env σ | x => x := rfl

theorem seq_eq {call : CallA} {draw : DrawA} {G : Globals} {fuel : Nat} {a b : ACode} {env env' : Env} {σ σ' : Store} {r : Res} (h : evalCode call draw G fuel a none env σ = some (.normal, env', σ'))
    (h2 : evalCode call draw G fuel b none env' σ' = r) : evalCode call draw G fuel (.seq a b) none env σ = r := by
  simp only [evalCode, h, h2]

/-- A piece of code ends so. -/
def Ends (call : CallA) (draw : DrawA) (G : Globals) (fuel : Nat) (c : ACode) (env : Env) (σ : Store) (Q : AExit → Env → Store → Prop) : Prop :=
  ∃ e env' σ', evalCode call draw G fuel c none env σ = some (e, env', σ') ∧ Q e env' σ'

theorem Ends.seq {call : CallA} {draw : DrawA} {G : Globals} {fuel : Nat} {a b : ACode} {env env' : Env} {σ σ' : Store} {Q : AExit → Env → Store → Prop} (h : evalCode call draw G fuel a none env σ = some (.normal, env', σ'))
    (h2 : Ends call draw G fuel b env' σ' Q) : Ends call draw G fuel (.seq a b) env σ Q := by
  obtain ⟨e, env2, σ2, k1, k2⟩ := h2
  exact ⟨e, env2, σ2, seq_eq h k1, k2⟩

theorem Ends.done {call : CallA} {draw : DrawA} {G : Globals} {fuel : Nat} {c : ACode} {env env' : Env} {σ σ' : Store} {e : AExit} {Q : AExit → Env → Store → Prop} (h : evalCode call draw G fuel c none env σ = some (e, env', σ')) (q : Q e env' σ') : Ends call draw G fuel c env σ Q :=
  ⟨e, env', σ', h, q⟩

theorem bft : (false == true) = false := rfl
theorem btf : (true == false) = false := rfl
theorem btt : (true == true) = true := rfl
theorem bff : (false == false) = true := rfl

theorem wrap_i64 {n : Int} (h1 : -9223372036854775808 ≤ n) (h2 : n ≤ 9223372036854775807) : IntKind.i64.wrap n = n := by
  rw [IntKind.wrap_i64]; omega
theorem wrap_u8 {n : Int} (h1 : 0 ≤ n) (h2 : n < 256) : IntKind.u8.wrap n = n := by
  rw [IntKind.wrap_u8]; omega
theorem wrap_u64 {n : Int} (h1 : 0 ≤ n) (h2 : n < 18446744073709551616) : IntKind.u64.wrap n = n := by
  rw [IntKind.wrap_u64]; omega
end Go.Pm
end

section
set_option linter.unusedSimpArgs false
set_option linter.unusedVariables false
set_option linter.unusedSectionVars false
/- The lexer's small functions. -/
set_option maxRecDepth 100000
set_option linter.unusedSimpArgs false
namespace Go.Pm
section
variable {call : CallA} {draw : DrawA} {G : Globals} {fuel : Nat}

def digitB (c : UInt8) : Bool := 48 ≤ c.toNat && c.toNat ≤ 57
def letterB (c : UInt8) : Bool := 97 ≤ c.toNat && c.toNat ≤ 122
def wordB (c : UInt8) : Bool := letterB c || digitB c
def noLf (c : UInt8) : Bool := !(c.toNat == 10)

theorem digit_spec (c : UInt8) (σ : Store) : evalFn call draw G fuel i59 [.int .u8 c.toNat] σ = some (.ret (.bool (digitB c)), σ) := by
  have e1 : ((c.toNat : Int) ≥ 48) = (48 ≤ c.toNat) := by simp; omega
  have e2 : ((c.toNat : Int) ≤ 57) = (c.toNat ≤ 57) := by simp; omega
  by_cases h : 48 ≤ c.toNat <;> by_cases h' : c.toNat ≤ 57 <;> simp only [evalFn, params, List.length_cons, List.length_nil, Nat.reduceAdd, evalCode, evalOps, guardOk, evalOp, AX.ev, look, putE, val, evs, optEv, binA, intBin, wrapI, unA, callM, keepE_cons, keepE_nil, callC, strips, stripWs, stripW, AV.flatv, flatvs, Nat.reduceEqDiff, if_true, if_false, reduceIte, Int.toNat_natCast, List.append_nil, List.nil_append, List.cons_append, decide_true, decide_false, bft, btf, btt, bff, Bool.false_eq_true, resultsA, oneOrTup, Option.map_some, Option.map_none, Bool.not_true, Bool.not_false, loadAt, storeAt, storeOf, partOf, List.getElem?_cons_zero, List.getElem?_cons_succ, List.set_cons_zero, List.set_cons_succ, AV.cells, AV.isCell, List.all_cons, List.all_nil, Bool.and_true, Bool.and_false, Bool.false_and, Bool.true_and, Bool.and_self, and_true, true_and, and_self, putAt, hasLabel, Bool.or_false, Bool.false_or, Bool.or_true, Bool.true_or, fillA, pickParts, pickSl, strBin, eqA, eqCell, ne_eq, not_true_eq_false, not_false_eq_true, Nat.reduceLeDiff, Nat.reduceLT, Nat.reduceMul, Nat.reduceSub, Nat.zero_add, Nat.add_zero, Option.bind_some, asNat, bounds2, reduceCtorEq, List.take_succ_cons, List.take_zero, List.drop_succ_cons, List.drop_zero, Nat.reduceBEq, List.take_nil, List.drop_nil, Int.reduceLE, Int.reduceLT, Int.reduceToNat, Int.toNat_zero, Int.reduceBEq, Int.le_refl, Nat.le_refl, i59, digitB, e1, e2, h, h']

theorem letter_spec (c : UInt8) (σ : Store) : evalFn call draw G fuel i61 [.int .u8 c.toNat] σ = some (.ret (.bool (letterB c)), σ) := by
  have e1 : ((c.toNat : Int) ≥ 97) = (97 ≤ c.toNat) := by simp; omega
  have e2 : ((c.toNat : Int) ≤ 122) = (c.toNat ≤ 122) := by simp; omega
  by_cases h : 97 ≤ c.toNat <;> by_cases h' : c.toNat ≤ 122 <;> simp only [evalFn, params, List.length_cons, List.length_nil, Nat.reduceAdd, evalCode, evalOps, guardOk, evalOp, AX.ev, look, putE, val, evs, optEv, binA, intBin, wrapI, unA, callM, keepE_cons, keepE_nil, callC, strips, stripWs, stripW, AV.flatv, flatvs, Nat.reduceEqDiff, if_true, if_false, reduceIte, Int.toNat_natCast, List.append_nil, List.nil_append, List.cons_append, decide_true, decide_false, bft, btf, btt, bff, Bool.false_eq_true, resultsA, oneOrTup, Option.map_some, Option.map_none, Bool.not_true, Bool.not_false, loadAt, storeAt, storeOf, partOf, List.getElem?_cons_zero, List.getElem?_cons_succ, List.set_cons_zero, List.set_cons_succ, AV.cells, AV.isCell, List.all_cons, List.all_nil, Bool.and_true, Bool.and_false, Bool.false_and, Bool.true_and, Bool.and_self, and_true, true_and, and_self, putAt, hasLabel, Bool.or_false, Bool.false_or, Bool.or_true, Bool.true_or, fillA, pickParts, pickSl, strBin, eqA, eqCell, ne_eq, not_true_eq_false, not_false_eq_true, Nat.reduceLeDiff, Nat.reduceLT, Nat.reduceMul, Nat.reduceSub, Nat.zero_add, Nat.add_zero, Option.bind_some, asNat, bounds2, reduceCtorEq, List.take_succ_cons, List.take_zero, List.drop_succ_cons, List.drop_zero, Nat.reduceBEq, List.take_nil, List.drop_nil, Int.reduceLE, Int.reduceLT, Int.reduceToNat, Int.toNat_zero, Int.reduceBEq, Int.le_refl, Nat.le_refl, i61, letterB, e1, e2, h, h']

theorem noLf_spec (c : UInt8) (σ : Store) : evalFn call draw G fuel i58 [.int .u8 c.toNat] σ = some (.ret (.bool (noLf c)), σ) := by
  have e1 : (((c.toNat : Int)) != 10) = !(c.toNat == 10) := by
    by_cases h : c.toNat = 10
    · rw [h]; rfl
    · have : ¬ (c.toNat : Int) = 10 := by omega
      simp only [bne, beq_eq_false_iff_ne.2 h, beq_eq_false_iff_ne.2 this]
  simp only [evalFn, params, List.length_cons, List.length_nil, Nat.reduceAdd, evalCode, evalOps, guardOk, evalOp, AX.ev, look, putE, val, evs, optEv, binA, intBin, wrapI, unA, callM, keepE_cons, keepE_nil, callC, strips, stripWs, stripW, AV.flatv, flatvs, Nat.reduceEqDiff, if_true, if_false, reduceIte, Int.toNat_natCast, List.append_nil, List.nil_append, List.cons_append, decide_true, decide_false, bft, btf, btt, bff, Bool.false_eq_true, resultsA, oneOrTup, Option.map_some, Option.map_none, Bool.not_true, Bool.not_false, loadAt, storeAt, storeOf, partOf, List.getElem?_cons_zero, List.getElem?_cons_succ, List.set_cons_zero, List.set_cons_succ, AV.cells, AV.isCell, List.all_cons, List.all_nil, Bool.and_true, Bool.and_false, Bool.false_and, Bool.true_and, Bool.and_self, and_true, true_and, and_self, putAt, hasLabel, Bool.or_false, Bool.false_or, Bool.or_true, Bool.true_or, fillA, pickParts, pickSl, strBin, eqA, eqCell, ne_eq, not_true_eq_false, not_false_eq_true, Nat.reduceLeDiff, Nat.reduceLT, Nat.reduceMul, Nat.reduceSub, Nat.zero_add, Nat.add_zero, Option.bind_some, asNat, bounds2, reduceCtorEq, List.take_succ_cons, List.take_zero, List.drop_succ_cons, List.drop_zero, Nat.reduceBEq, List.take_nil, List.drop_nil, Int.reduceLE, Int.reduceLT, Int.reduceToNat, Int.toNat_zero, Int.reduceBEq, Int.le_refl, Nat.le_refl, i58, noLf, e1]
end
end Go.Pm
end

section
set_option linter.unusedSimpArgs false
set_option linter.unusedVariables false
set_option linter.unusedSectionVars false
/- The pure machine: functions of the library that it does not run: what they answer. Definitions alone. -/
namespace Go.Pm

/-- The numbers of functions and types in a translation. -/
structure LibNums where
  contains : Nat
  join : Nat
  repeat_ : Nat
  parseUint : Nat
  copyCheck : Nat
  bString : Nat
  numErr : TypeId
  builder : TypeId
  byte : TypeId

def prefixB : List UInt8 → List UInt8 → Bool
  | [], _ => true
  | _ :: _, [] => false
  | a :: asl, b :: bs => a == b && prefixB asl bs

def containsB (t : List UInt8) : List UInt8 → Bool
  | [] => prefixB t []
  | b :: s => prefixB t (b :: s) || containsB t s

def joinB (sep : List UInt8) : List (List UInt8) → List UInt8
  | [] => []
  | [x] => x
  | x :: r => x ++ sep ++ joinB sep r

def strsOf : List AV → Option (List (List UInt8))
  | [] => some []
  | .str s :: r => match strsOf r with
    | some l => some (s :: l)
    | none => none
  | _ => none

def repB (s : List UInt8) : Nat → List UInt8
  | 0 => []
  | n + 1 => s ++ repB s n

def libO (L : LibNums) : CallA := fun f args σ =>
  if f = L.contains then
    match args with
    | [.str s, .str t] => if s.length < 4294967281 ∧ t.length < 4294967281 then some (.ret (.bool (containsB t s)), σ) else none
    | _ => none
  else if f = L.join then
    match args with
    | [.sl 1 row _, .str sep] => match strsOf row with
      | some l => if row.length ≤ 140737488355328 ∧ (joinB sep l).length ≤ 140737488355328 then some (.ret (.str (joinB sep l)), σ) else none
      | none => none
    | _ => none
  else if f = L.repeat_ then
    match args with
    | [.str s, .int .i64 n] => if 0 ≤ n ∧ n ≤ 9223372036854775807 ∧ s.length * n.toNat ≤ 140737488355328 then some (.ret (.str (repB s n.toNat)), σ) else none
    | _ => none
  else if f = L.parseUint then
    match args with
    | [.str s, .int .i64 10, .int .i64 64] =>
      if s.length ≤ 281474976710656 then
        match Lib.parseUintB 64 s with
        | .ok u => some (.ret (.tup [.int .u64 u, .nili]), σ)
        | .range => some (.ret (.tup [.int .u64 18446744073709551615, .iface L.numErr (.ip 1 [] 0 0)]), σ)
        | _ => some (.ret (.tup [.int .u64 0, .iface L.numErr (.ip 1 [] 0 0)]), σ)
      else none
    | _ => none
  else if f = L.copyCheck then
    match args with
    | [.bp id 0] => match storeOf σ id with
      | some ([c0, c1], some T) =>
        if T = L.builder then
          match c0 with
          | .nilp => some (.ret (.tup []), σ.set id (.cells [.bp id 0, c1] (some T)))
          | .bp id' 0 => if id' = id then some (.ret (.tup []), σ) else none
          | _ => none
        else none
      | _ => none
    | _ => none
  else if f = L.bString then
    match args with
    | [.bp id 0] => match storeOf σ id with
      | some ([_, .sl 1 row (.tok k)], some T) =>
        if T = L.builder ∧ row.length ≤ 140737488355328 ∧ row ≠ [] then
          match σ[k]?, bytesOf row with
          | some (.tok B), some l => if B = L.byte then some (.ret (.str l), σ) else none
          | _, _ => none
        else none
      | _ => none
    | _ => none
  else none

end Go.Pm
end

section
set_option linter.unusedSimpArgs false
set_option linter.unusedVariables false
set_option linter.unusedSectionVars false
/- The lexer: a word's bytes, a sign. -/
set_option maxRecDepth 100000
set_option linter.unusedSimpArgs false
namespace Go.Pm
section
variable {call : CallA} {draw : DrawA} {G : Globals} {fuel : Nat}

theorem word_spec (h59 : ∀ (c : UInt8) σ, call 59 [.int .u8 c.toNat] σ = some (.ret (.bool (digitB c)), σ)) (h61 : ∀ (c : UInt8) σ, call 61 [.int .u8 c.toNat] σ = some (.ret (.bool (letterB c)), σ))
    (c : UInt8) (σ : Store) : evalFn call draw G fuel i62 [.int .u8 c.toNat] σ = some (.ret (.bool (wordB c)), σ) := by
  cases h : letterB c <;> simp only [evalFn, params, List.length_cons, List.length_nil, Nat.reduceAdd, evalCode, evalOps, guardOk, evalOp, AX.ev, look, putE, val, evs, optEv, binA, intBin, wrapI, unA, callM, keepE_cons, keepE_nil, callC, strips, stripWs, stripW, AV.flatv, flatvs, Nat.reduceEqDiff, if_true, if_false, reduceIte, Int.toNat_natCast, List.append_nil, List.nil_append, List.cons_append, decide_true, decide_false, bft, btf, btt, bff, Bool.false_eq_true, resultsA, oneOrTup, Option.map_some, Option.map_none, Bool.not_true, Bool.not_false, loadAt, storeAt, storeOf, partOf, List.getElem?_cons_zero, List.getElem?_cons_succ, List.set_cons_zero, List.set_cons_succ, AV.cells, AV.isCell, List.all_cons, List.all_nil, Bool.and_true, Bool.and_false, Bool.false_and, Bool.true_and, Bool.and_self, and_true, true_and, and_self, putAt, hasLabel, Bool.or_false, Bool.false_or, Bool.or_true, Bool.true_or, fillA, pickParts, pickSl, strBin, eqA, eqCell, ne_eq, not_true_eq_false, not_false_eq_true, Nat.reduceLeDiff, Nat.reduceLT, Nat.reduceMul, Nat.reduceSub, Nat.zero_add, Nat.add_zero, Option.bind_some, asNat, bounds2, reduceCtorEq, List.take_succ_cons, List.take_zero, List.drop_succ_cons, List.drop_zero, Nat.reduceBEq, List.take_nil, List.drop_nil, Int.reduceLE, Int.reduceLT, Int.reduceToNat, Int.toNat_zero, Int.reduceBEq, Int.le_refl, Nat.le_refl, i62, wordB, h59, h61, h]

def longS : List UInt8 := [61, 61, 32, 33, 61, 32, 60, 61]
def shortS : List UInt8 := [60, 61, 33, 43, 45, 124, 94, 42, 47, 37, 38, 40, 41, 123, 125, 44, 59, 58]

def signN : List UInt8 → Nat
  | [] => 0
  | [a] => if containsB [a] shortS then 1 else 0
  | a :: b :: _ => if b.toNat == 61 && containsB [a, b] longS then 2 else if containsB [a] shortS then 1 else 0

theorem sign_spec (h101 : ∀ (s t : List UInt8) σ, s.length < 100 → t.length < 100 → call 101 [.str s, .str t] σ = some (.ret (.bool (containsB t s)), σ))
    (a : UInt8) (s : List UInt8) (σ : Store) (hs : s.length < 9223372036854775807) : evalFn call draw G fuel i63 [.str (a :: s)] σ = some (.ret (.int .i64 (signN (a :: s))), σ) := by
  have q1 : ∀ t : List UInt8, t.length < 100 → ∀ σ, call 101 [.str [60, 61, 33, 43, 45, 124, 94, 42, 47, 37, 38, 40, 41, 123, 125, 44, 59, 58], .str t] σ = some (.ret (.bool (containsB t shortS)), σ) := fun t ht σ => h101 _ _ σ (by decide) ht
  have q2 : ∀ t : List UInt8, t.length < 100 → ∀ σ, call 101 [.str [61, 61, 32, 33, 61, 32, 60, 61], .str t] σ = some (.ret (.bool (containsB t longS)), σ) := fun t ht σ => h101 _ _ σ (by decide) ht
  cases s with
  | nil =>
    have e1 : (((1 : Nat) : Int) > 1) = False := by simp
    have e2 : ((0 : Int) ≤ 1 ∧ (1 : Int) ≤ ((1 : Nat) : Int)) = True := by simp
    have e8 : ((1 : Int) ≤ ((1 : Nat) : Int)) = True := by simp
    have e3 := q1 [a] (by simp)
    cases hc : containsB [a] shortS <;> simp only [evalFn, params, List.length_cons, List.length_nil, Nat.reduceAdd, evalCode, evalOps, guardOk, evalOp, AX.ev, look, putE, val, evs, optEv, binA, intBin, wrapI, unA, callM, keepE_cons, keepE_nil, callC, strips, stripWs, stripW, AV.flatv, flatvs, Nat.reduceEqDiff, if_true, if_false, reduceIte, Int.toNat_natCast, List.append_nil, List.nil_append, List.cons_append, decide_true, decide_false, bft, btf, btt, bff, Bool.false_eq_true, resultsA, oneOrTup, Option.map_some, Option.map_none, Bool.not_true, Bool.not_false, loadAt, storeAt, storeOf, partOf, List.getElem?_cons_zero, List.getElem?_cons_succ, List.set_cons_zero, List.set_cons_succ, AV.cells, AV.isCell, List.all_cons, List.all_nil, Bool.and_true, Bool.and_false, Bool.false_and, Bool.true_and, Bool.and_self, and_true, true_and, and_self, putAt, hasLabel, Bool.or_false, Bool.false_or, Bool.or_true, Bool.true_or, fillA, pickParts, pickSl, strBin, eqA, eqCell, ne_eq, not_true_eq_false, not_false_eq_true, Nat.reduceLeDiff, Nat.reduceLT, Nat.reduceMul, Nat.reduceSub, Nat.zero_add, Nat.add_zero, Option.bind_some, asNat, bounds2, reduceCtorEq, List.take_succ_cons, List.take_zero, List.drop_succ_cons, List.drop_zero, Nat.reduceBEq, List.take_nil, List.drop_nil, Int.reduceLE, Int.reduceLT, Int.reduceToNat, Int.toNat_zero, Int.reduceBEq, Int.le_refl, Nat.le_refl, i63, signN, e1, e2, e3, e8, hc, List.take_succ_cons, List.take_zero, List.drop_zero, Int.toNat_one, Int.reduceToNat]
    all_goals rfl
  | cons b s =>
    have e1 : (((s.length + 1 + 1 : Nat) : Int) > 1) = True := by simp; omega
    have e2 : ((0 : Int) ≤ 1 ∧ (1 : Int) ≤ ((s.length + 1 + 1 : Nat) : Int)) = True := by simp; omega
    have e4 : ((0 : Int) ≤ 2 ∧ (2 : Int) ≤ ((s.length + 1 + 1 : Nat) : Int)) = True := by simp; omega
    have e3 := q1 [a] (by simp)
    have e5 := q2 [a, b] (by simp)
    have e6 : ((b.toNat : Int) == 61) = (b.toNat == 61) := by
      by_cases h : b.toNat = 61
      · rw [h]; rfl
      · have : ¬ (b.toNat : Int) = 61 := by omega
        rw [beq_eq_false_iff_ne.2 h, beq_eq_false_iff_ne.2 this]
    have e7 : (0 ≤ (1 : Int)) = True := by simp
    have e8 : ((1 : Int) ≤ ((s.length + 1 + 1 : Nat) : Int)) = True := by simp; omega
    have e9 : ((2 : Int) ≤ ((s.length + 1 + 1 : Nat) : Int)) = True := by simp; omega
    have e10 : ((0 : Int) ≤ 2) = True := by simp
    cases hb : (b.toNat == 61) <;> cases hl : containsB [a, b] longS <;> cases hc : containsB [a] shortS <;>
      simp only [evalFn, params, List.length_cons, List.length_nil, Nat.reduceAdd, evalCode, evalOps, guardOk, evalOp, AX.ev, look, putE, val, evs, optEv, binA, intBin, wrapI, unA, callM, keepE_cons, keepE_nil, callC, strips, stripWs, stripW, AV.flatv, flatvs, Nat.reduceEqDiff, if_true, if_false, reduceIte, Int.toNat_natCast, List.append_nil, List.nil_append, List.cons_append, decide_true, decide_false, bft, btf, btt, bff, Bool.false_eq_true, resultsA, oneOrTup, Option.map_some, Option.map_none, Bool.not_true, Bool.not_false, loadAt, storeAt, storeOf, partOf, List.getElem?_cons_zero, List.getElem?_cons_succ, List.set_cons_zero, List.set_cons_succ, AV.cells, AV.isCell, List.all_cons, List.all_nil, Bool.and_true, Bool.and_false, Bool.false_and, Bool.true_and, Bool.and_self, and_true, true_and, and_self, putAt, hasLabel, Bool.or_false, Bool.false_or, Bool.or_true, Bool.true_or, fillA, pickParts, pickSl, strBin, eqA, eqCell, ne_eq, not_true_eq_false, not_false_eq_true, Nat.reduceLeDiff, Nat.reduceLT, Nat.reduceMul, Nat.reduceSub, Nat.zero_add, Nat.add_zero, Option.bind_some, asNat, bounds2, reduceCtorEq, List.take_succ_cons, List.take_zero, List.drop_succ_cons, List.drop_zero, Nat.reduceBEq, List.take_nil, List.drop_nil, Int.reduceLE, Int.reduceLT, Int.reduceToNat, Int.toNat_zero, Int.reduceBEq, Int.le_refl, Nat.le_refl, i63, signN, e1, e2, e3, e4, e5, e6, e7, e8, e9, e10, hb, hl, hc, List.take_succ_cons, List.take_zero, List.drop_zero, Int.toNat_one, Int.reduceToNat]
    all_goals first | rfl | skip
end
end Go.Pm
end

section
set_option linter.unusedSimpArgs false
set_option linter.unusedVariables false
set_option linter.unusedSectionVars false
set_option maxRecDepth 100000
set_option linter.unusedSimpArgs false
namespace Go.Pm
section
variable {call : CallA} {draw : DrawA} {G : Globals} {fuel : Nat}

/-- lex.run, a round: on. -/
theorem run_on (s : List UInt8) (f : FuncId) (p : UInt8 → Bool) (n : Nat) (σ : Store) (hs : s.length ≤ 9223372036854775807)
    (hp : ∀ c : UInt8, call f [.int .u8 c.toNat] σ = some (.ret (.bool (p c)), σ)) (hn : n < s.length) (ht : p s[n] = true) :
    evalCode call draw G fuel i57_L0 none [(0, .str s), (1, .fn (.func f) [] []), (5, .int .i64 n)] σ = some (.normal, [(0, .str s), (1, .fn (.func f) [] []), (5, .int .i64 (n + 1 : Nat))], σ) := by
  have h1 : s[n]? = some s[n] := List.getElem?_eq_getElem hn
  have h2 : ((n : Int) < s.length) = True := by simp; omega
  have h3 : (0 ≤ (n : Int)) = True := by simp
  have h4 : IntKind.i64.wrap ((n : Int) + 1) = ((n + 1 : Nat) : Int) := by rw [wrap_i64] <;> omega
  simp only [i57_L0, evalCode, evalOps, guardOk, evalOp, AX.ev, look, putE, val, evs, binA, intBin, wrapI, callM, keepE_cons, keepE_nil, Nat.reduceEqDiff, if_true, if_false, h1, h2, h3, h4, ht, Int.toNat_natCast, hp, List.append_nil, List.nil_append, decide_true, beq_self_eq_true, reduceIte]

theorem run_off (s : List UInt8) (f : FuncId) (p : UInt8 → Bool) (n : Nat) (σ : Store)
    (hp : ∀ c : UInt8, call f [.int .u8 c.toNat] σ = some (.ret (.bool (p c)), σ)) (hn : n < s.length) (ht : p s[n] = false) :
    ∃ env, evalCode call draw G fuel i57_L0 none [(0, .str s), (1, .fn (.func f) [] []), (5, .int .i64 n)] σ = some (.exit 0, env, σ) ∧ look env 5 = some (.int .i64 n) := by
  have h1 : s[n]? = some s[n] := List.getElem?_eq_getElem hn
  have h2 : ((n : Int) < s.length) = True := by simp; omega
  have h3 : (0 ≤ (n : Int)) = True := by simp
  simp only [i57_L0, evalCode, evalOps, guardOk, evalOp, AX.ev, look, putE, val, evs, binA, intBin, wrapI, callM, keepE_cons, keepE_nil, Nat.reduceEqDiff, if_true, if_false, h1, h2, h3, ht, Int.toNat_natCast, hp, List.append_nil, List.nil_append, decide_true, beq_self_eq_true, reduceIte]
  exact ⟨_, rfl, rfl⟩

theorem run_end (s : List UInt8) (f : FuncId) (σ : Store) :
    ∃ env, evalCode call draw G fuel i57_L0 none [(0, .str s), (1, .fn (.func f) [] []), (5, .int .i64 s.length)] σ = some (.exit 0, env, σ) ∧ look env 5 = some (.int .i64 s.length) := by
  have h2 : ((s.length : Int) < s.length) = False := by simp
  simp only [i57_L0, evalCode, evalOps, guardOk, evalOp, AX.ev, look, putE, val, evs, binA, intBin, wrapI, callM, keepE_cons, keepE_nil, Nat.reduceEqDiff, if_true, if_false, h2, decide_false, bft, btf, btt, bff, reduceIte, Bool.false_eq_true]
  exact ⟨_, rfl, rfl⟩

def spanLen (p : UInt8 → Bool) (s : List UInt8) : Nat := (s.takeWhile p).length

theorem run_loop (s : List UInt8) (f : FuncId) (p : UInt8 → Bool) (σ : Store) (hs : s.length ≤ 9223372036854775807)
    (hp : ∀ c : UInt8, call f [.int .u8 c.toNat] σ = some (.ret (.bool (p c)), σ)) : ∀ (k n m : Nat), s.length - n = k → n ≤ s.length → k < m →
    ∃ env, iterA (evalCode call draw G fuel i57_L0 none) [0, 1, 5] m [(0, .str s), (1, .fn (.func f) [] []), (5, .int .i64 n)] σ = some (.exit 0, env, σ) ∧ look env 5 = some (.int .i64 ((n + spanLen p (s.drop n) : Nat) : Int)) := by
  intro k
  induction k with
  | zero =>
    intro n m hk hn hm
    obtain rfl : n = s.length := by omega
    obtain ⟨env, h1, h2⟩ := run_end (call := call) (draw := draw) (G := G) (fuel := fuel) s f σ
    obtain ⟨m, rfl⟩ : ∃ m', m = m' + 1 := ⟨m - 1, by omega⟩
    refine ⟨env, iterA_out (by simpa only [keepE_cons, keepE_nil, look, Nat.reduceEqDiff, if_true, if_false, reduceIte] using h1) (by simp), ?_⟩
    rw [h2]; simp [spanLen]
  | succ k ih =>
    intro n m hk hn hm
    have hlt : n < s.length := by omega
    obtain ⟨m, rfl⟩ : ∃ m', m = m' + 1 := ⟨m - 1, by omega⟩
    have hdrop : s.drop n = s[n] :: s.drop (n + 1) := List.drop_eq_getElem_cons hlt
    cases ht : p s[n] with
    | true =>
      have h1 := run_on (call := call) (draw := draw) (G := G) (fuel := fuel) s f p n σ hs hp hlt ht
      obtain ⟨env, h2, h3⟩ := ih (n + 1) m (by omega) (by omega) (by omega)
      refine ⟨env, ?_, ?_⟩
      · rw [iterA_normal (by simpa only [keepE_cons, keepE_nil, look, Nat.reduceEqDiff, if_true, if_false, reduceIte] using h1)]
        exact h2
      · have e : spanLen p (s.drop n) = spanLen p (s.drop (n + 1)) + 1 := by
          unfold spanLen; rw [hdrop, List.takeWhile_cons, if_pos ht, List.length_cons]
        rw [h3, e]
        congr 2; omega
    | false =>
      obtain ⟨env, h1, h2⟩ := run_off (call := call) (draw := draw) (G := G) (fuel := fuel) s f p n σ hp hlt ht
      refine ⟨env, iterA_out (by simpa only [keepE_cons, keepE_nil, look, Nat.reduceEqDiff, if_true, if_false, reduceIte] using h1) (by simp), ?_⟩
      have e : spanLen p (s.drop n) = 0 := by
        unfold spanLen; rw [hdrop, List.takeWhile_cons, if_neg (by simp [ht])]; rfl
      rw [h2, e]; rfl

theorem run_spec (s : List UInt8) (f : FuncId) (p : UInt8 → Bool) (σ : Store) (hs : s.length ≤ 9223372036854775807) (hf : s.length < fuel)
    (hp : ∀ c : UInt8, call f [.int .u8 c.toNat] σ = some (.ret (.bool (p c)), σ)) :
    evalFn call draw G fuel i57 [.str s, .fn (.func f) [] []] σ = some (.ret (.int .i64 (spanLen p s)), σ) := by
  obtain ⟨env, h1, h2⟩ := run_loop (call := call) (draw := draw) (G := G) (fuel := fuel) s f p σ hs hp s.length 0 fuel (by omega) (by omega) hf
  simp only [Nat.zero_add, List.drop_zero, Int.ofNat_zero] at h1 h2
  simp only [evalFn, i57, params, List.length_cons, List.length_nil, Nat.reduceAdd, if_true, evalCode, evalOps, guardOk, evalOp, AX.ev, look, putE, val, keepE_cons, keepE_nil, Nat.reduceEqDiff, if_false, reduceIte, h1, h2, resultsA, oneOrTup, Option.map_some]
end
end Go.Pm
end

section
set_option linter.unusedSimpArgs false
set_option linter.unusedVariables false
set_option linter.unusedSectionVars false
/- The lexer: a step of it. -/
set_option maxRecDepth 100000
set_option linter.unusedSimpArgs false
namespace Go.Pm
section
variable {call : CallA} {draw : DrawA} {G : Globals} {fuel : Nat}

/-- The text, the result's place, the place, the piece. -/
def lexS (text : List UInt8) (r : AObj) (line col : Int) (rest : Store) : Store :=
  .cells [.str text] (some 9) :: r :: .cells [.int .i64 line, .int .i64 col] (some 53) :: rest

theorem take_spec (text : List UInt8) (r : AObj) (line col : Int) (rest : Store) (n : Nat) (hn : n ≤ text.length) (ht : text.length ≤ 5000) (hc : 0 ≤ col) (hc2 : col ≤ 100000) :
    evalFn call draw G fuel i56 [.int .i64 n, .bp 0 0, .bp 2 0] (lexS text r line col rest) = some (.ret (.str (text.take n)), lexS (text.drop n) r line (col + n) rest) := by
  have e1 : (0 ≤ (n : Int)) = True := by simp
  have e2 : ((n : Int) ≤ (text.length : Int)) = True := by simp; omega
  have e3 : IntKind.i64.wrap (col + (n : Int)) = col + n := wrap_i64 (by omega) (by omega)
  simp only [evalFn, params, List.length_cons, List.length_nil, Nat.reduceAdd, evalCode, evalOps, guardOk, evalOp, AX.ev, look, putE, val, evs, optEv, binA, intBin, wrapI, unA, callM, keepE_cons, keepE_nil, callC, strips, stripWs, stripW, AV.flatv, flatvs, Nat.reduceEqDiff, if_true, if_false, reduceIte, Int.toNat_natCast, List.append_nil, List.nil_append, List.cons_append, decide_true, decide_false, bft, btf, btt, bff, Bool.false_eq_true, resultsA, oneOrTup, Option.map_some, Option.map_none, Bool.not_true, Bool.not_false, loadAt, storeAt, storeOf, partOf, List.getElem?_cons_zero, List.getElem?_cons_succ, List.set_cons_zero, List.set_cons_succ, AV.cells, AV.isCell, List.all_cons, List.all_nil, Bool.and_true, Bool.and_false, Bool.false_and, Bool.true_and, Bool.and_self, and_true, true_and, and_self, putAt, hasLabel, Bool.or_false, Bool.false_or, Bool.or_true, Bool.true_or, fillA, pickParts, pickSl, strBin, eqA, eqCell, ne_eq, not_true_eq_false, not_false_eq_true, Nat.reduceLeDiff, Nat.reduceLT, Nat.reduceMul, Nat.reduceSub, Nat.zero_add, Nat.add_zero, Option.bind_some, asNat, bounds2, reduceCtorEq, List.take_succ_cons, List.take_zero, List.drop_succ_cons, List.drop_zero, Nat.reduceBEq, List.take_nil, List.drop_nil, Int.reduceLE, Int.reduceLT, Int.reduceToNat, Int.toNat_zero, Int.reduceBEq, Int.le_refl, Nat.le_refl, i56, lexS, e1, e2, e3, List.take_length, List.drop_zero]

def lexE (out : AV) : Env := [(1, .bp 0 0), (3, .bp 1 0), (5, .bp 2 0), (6, out), (7, .bp 3 0), (9, .fn (.func 56) [] [.bp 0 0, .bp 2 0])]

def Take (call : CallA) : Prop := ∀ (text : List UInt8) (r : AObj) (line col : Int) (rest : Store) (n : Nat), n ≤ text.length → text.length ≤ 5000 → 0 ≤ col → col ≤ 100000 →
    call 56 [.int .i64 n, .bp 0 0, .bp 2 0] (lexS text r line col rest) = some (.ret (.str (text.take n)), lexS (text.drop n) r line (col + n) rest)

def pieceO (k : Int) (t : List UInt8) (n line col : Int) : AObj := .cells [.int .u8 k, .str t, .int .u64 n, .int .i64 line, .int .i64 col] (some 61)

theorem lex_lf (h56 : Take call) (t : List UInt8) (r : AObj) (line col : Int) (p0 p1 p2 p3 p4 : AV) (toks : Store) (out : AV) (ht : t.length < 5000) (hl : 0 ≤ line) (hl2 : line ≤ 100000) (hc : 0 ≤ col) (hc2 : col ≤ 100000) :
    ∃ q0 q1 q2 q3 q4, evalCode call draw G fuel i26_L2 (some 0) (lexE out) (lexS (10 :: t) r line col (.cells [p0, p1, p2, p3, p4] (some 61) :: toks)) = some (.goto 0, lexE out, lexS t r (line + 1) 1 (.cells [q0, q1, q2, q3, q4] (some 61) :: toks)) := by
  have k := fun r rest => h56 (10 :: t) r line col rest 1 (by simp) (by simp; omega) hc hc2
  simp only [Int.natCast_one, lexS, List.take_succ_cons, List.take_zero, List.drop_succ_cons, List.drop_zero] at k
  have e1 : IntKind.i64.wrap (line + 1) = line + 1 := wrap_i64 (by omega) (by omega)
  have e2 : (10 :: t == ([] : List UInt8)) = false := rfl
  have e3 : ((((10 : UInt8).toNat : Nat) : Int) == 10) = true := rfl
  simp only [evalFn, params, List.length_cons, List.length_nil, Nat.reduceAdd, evalCode, evalOps, guardOk, evalOp, AX.ev, look, putE, val, evs, optEv, binA, intBin, wrapI, unA, callM, keepE_cons, keepE_nil, callC, strips, stripWs, stripW, AV.flatv, flatvs, Nat.reduceEqDiff, if_true, if_false, reduceIte, Int.toNat_natCast, List.append_nil, List.nil_append, List.cons_append, decide_true, decide_false, bft, btf, btt, bff, Bool.false_eq_true, resultsA, oneOrTup, Option.map_some, Option.map_none, Bool.not_true, Bool.not_false, loadAt, storeAt, storeOf, partOf, List.getElem?_cons_zero, List.getElem?_cons_succ, List.set_cons_zero, List.set_cons_succ, AV.cells, AV.isCell, List.all_cons, List.all_nil, Bool.and_true, Bool.and_false, Bool.false_and, Bool.true_and, Bool.and_self, and_true, true_and, and_self, putAt, hasLabel, Bool.or_false, Bool.false_or, Bool.or_true, Bool.true_or, fillA, pickParts, pickSl, strBin, eqA, eqCell, ne_eq, not_true_eq_false, not_false_eq_true, Nat.reduceLeDiff, Nat.reduceLT, Nat.reduceMul, Nat.reduceSub, Nat.zero_add, Nat.add_zero, Option.bind_some, asNat, bounds2, reduceCtorEq, List.take_succ_cons, List.take_zero, List.drop_succ_cons, List.drop_zero, Nat.reduceBEq, List.take_nil, List.drop_nil, Int.reduceLE, Int.reduceLT, Int.reduceToNat, Int.toNat_zero, Int.reduceBEq, Int.le_refl, Nat.le_refl, i26_L0, i26_L1, i26_L2, lexE, lexS, e1, e2, e3, k]
  exact ⟨_, _, _, _, _, rfl⟩

def Run (call : CallA) (f : FuncId) (p : UInt8 → Bool) : Prop := ∀ (s : List UInt8) (σ : Store), s.length ≤ 5000 → call 57 [.str s, .fn (.func f) [] []] σ = some (.ret (.int .i64 (spanLen p s)), σ)

theorem spanLen_le (p : UInt8 → Bool) (s : List UInt8) : spanLen p s ≤ s.length := by
  unfold spanLen
  exact (List.takeWhile_sublist p).length_le

theorem u8eq (c : UInt8) (k : Nat) : (((c.toNat : Nat) : Int) == (k : Int)) = (c.toNat == k) := by
  by_cases h : c.toNat = k
  · rw [h]; simp
  · have : ¬ (c.toNat : Int) = (k : Int) := by omega
    rw [beq_eq_false_iff_ne.2 h, beq_eq_false_iff_ne.2 this]

theorem lex_blank (h56 : Take call) (c : UInt8) (hcc : (c.toNat == 32 || c.toNat == 9) = true) (t : List UInt8) (r : AObj) (line col : Int) (p0 p1 p2 p3 p4 : AV) (toks : Store) (out : AV) (ht : t.length < 5000) (hc : 0 ≤ col) (hc2 : col ≤ 100000) :
    ∃ q0 q1 q2 q3 q4, evalCode call draw G fuel i26_L2 (some 0) (lexE out) (lexS (c :: t) r line col (.cells [p0, p1, p2, p3, p4] (some 61) :: toks)) = some (.goto 0, lexE out, lexS t r line (col + 1) (.cells [q0, q1, q2, q3, q4] (some 61) :: toks)) := by
  have k := fun r rest => h56 (c :: t) r line col rest 1 (by simp) (by simp; omega) hc hc2
  simp only [Int.natCast_one, lexS, List.take_succ_cons, List.take_zero, List.drop_succ_cons, List.drop_zero] at k
  have e2 : (c :: t == ([] : List UInt8)) = false := rfl
  have e10 := u8eq c 10
  have e32 := u8eq c 32
  have e9 := u8eq c 9
  simp only [Int.cast_ofNat_Int] at e10 e32 e9
  cases h32 : (c.toNat == 32) with
  | true =>
    have h10 : (c.toNat == 10) = false := by rw [beq_eq_false_iff_ne]; rw [beq_iff_eq] at h32; omega
    simp only [evalFn, params, List.length_cons, List.length_nil, Nat.reduceAdd, evalCode, evalOps, guardOk, evalOp, AX.ev, look, putE, val, evs, optEv, binA, intBin, wrapI, unA, callM, keepE_cons, keepE_nil, callC, strips, stripWs, stripW, AV.flatv, flatvs, Nat.reduceEqDiff, if_true, if_false, reduceIte, Int.toNat_natCast, List.append_nil, List.nil_append, List.cons_append, decide_true, decide_false, bft, btf, btt, bff, Bool.false_eq_true, resultsA, oneOrTup, Option.map_some, Option.map_none, Bool.not_true, Bool.not_false, loadAt, storeAt, storeOf, partOf, List.getElem?_cons_zero, List.getElem?_cons_succ, List.set_cons_zero, List.set_cons_succ, AV.cells, AV.isCell, List.all_cons, List.all_nil, Bool.and_true, Bool.and_false, Bool.false_and, Bool.true_and, Bool.and_self, and_true, true_and, and_self, putAt, hasLabel, Bool.or_false, Bool.false_or, Bool.or_true, Bool.true_or, fillA, pickParts, pickSl, strBin, eqA, eqCell, ne_eq, not_true_eq_false, not_false_eq_true, Nat.reduceLeDiff, Nat.reduceLT, Nat.reduceMul, Nat.reduceSub, Nat.zero_add, Nat.add_zero, Option.bind_some, asNat, bounds2, reduceCtorEq, List.take_succ_cons, List.take_zero, List.drop_succ_cons, List.drop_zero, Nat.reduceBEq, List.take_nil, List.drop_nil, Int.reduceLE, Int.reduceLT, Int.reduceToNat, Int.toNat_zero, Int.reduceBEq, Int.le_refl, Nat.le_refl, i26_L0, i26_L1, i26_L2, lexE, lexS, e2, e10, e32, e9, h32, h10, k]
    exact ⟨_, _, _, _, _, rfl⟩
  | false =>
    have h9 : (c.toNat == 9) = true := by simpa [h32] using hcc
    have h10 : (c.toNat == 10) = false := by rw [beq_eq_false_iff_ne]; rw [beq_iff_eq] at h9; omega
    simp only [evalFn, params, List.length_cons, List.length_nil, Nat.reduceAdd, evalCode, evalOps, guardOk, evalOp, AX.ev, look, putE, val, evs, optEv, binA, intBin, wrapI, unA, callM, keepE_cons, keepE_nil, callC, strips, stripWs, stripW, AV.flatv, flatvs, Nat.reduceEqDiff, if_true, if_false, reduceIte, Int.toNat_natCast, List.append_nil, List.nil_append, List.cons_append, decide_true, decide_false, bft, btf, btt, bff, Bool.false_eq_true, resultsA, oneOrTup, Option.map_some, Option.map_none, Bool.not_true, Bool.not_false, loadAt, storeAt, storeOf, partOf, List.getElem?_cons_zero, List.getElem?_cons_succ, List.set_cons_zero, List.set_cons_succ, AV.cells, AV.isCell, List.all_cons, List.all_nil, Bool.and_true, Bool.and_false, Bool.false_and, Bool.true_and, Bool.and_self, and_true, true_and, and_self, putAt, hasLabel, Bool.or_false, Bool.false_or, Bool.or_true, Bool.true_or, fillA, pickParts, pickSl, strBin, eqA, eqCell, ne_eq, not_true_eq_false, not_false_eq_true, Nat.reduceLeDiff, Nat.reduceLT, Nat.reduceMul, Nat.reduceSub, Nat.zero_add, Nat.add_zero, Option.bind_some, asNat, bounds2, reduceCtorEq, List.take_succ_cons, List.take_zero, List.drop_succ_cons, List.drop_zero, Nat.reduceBEq, List.take_nil, List.drop_nil, Int.reduceLE, Int.reduceLT, Int.reduceToNat, Int.toNat_zero, Int.reduceBEq, Int.le_refl, Nat.le_refl, i26_L0, i26_L1, i26_L2, lexE, lexS, e2, e10, e32, e9, h32, h9, h10, k]
    exact ⟨_, _, _, _, _, rfl⟩

theorem lex_hash (h56 : Take call) (h57 : Run call 58 noLf) (t : List UInt8) (r : AObj) (line col : Int) (p0 p1 p2 p3 p4 : AV) (toks : Store) (out : AV) (ht : t.length < 5000) (hc : 0 ≤ col) (hc2 : col ≤ 100000) :
    ∃ q0 q1 q2 q3 q4, evalCode call draw G fuel i26_L2 (some 0) (lexE out) (lexS (35 :: t) r line col (.cells [p0, p1, p2, p3, p4] (some 61) :: toks)) =
      some (.goto 0, lexE out, lexS ((35 :: t).drop (spanLen noLf (35 :: t))) r line (col + spanLen noLf (35 :: t)) (.cells [q0, q1, q2, q3, q4] (some 61) :: toks)) := by
  have k := fun r rest => h56 (35 :: t) r line col rest (spanLen noLf (35 :: t)) (spanLen_le _ _) (by simp; omega) hc hc2
  simp only [lexS] at k
  have e2 : (35 :: t == ([] : List UInt8)) = false := rfl
  have e10 : ((((35 : UInt8).toNat : Nat) : Int) == 10) = false := rfl
  have e32 : ((((35 : UInt8).toNat : Nat) : Int) == 32) = false := rfl
  have e9 : ((((35 : UInt8).toNat : Nat) : Int) == 9) = false := rfl
  have e35 : ((((35 : UInt8).toNat : Nat) : Int) == 35) = true := rfl
  have h := fun σ => h57 (35 :: t) σ (by simp; omega)
  simp only [evalFn, params, List.length_cons, List.length_nil, Nat.reduceAdd, evalCode, evalOps, guardOk, evalOp, AX.ev, look, putE, val, evs, optEv, binA, intBin, wrapI, unA, callM, keepE_cons, keepE_nil, callC, strips, stripWs, stripW, AV.flatv, flatvs, Nat.reduceEqDiff, if_true, if_false, reduceIte, Int.toNat_natCast, List.append_nil, List.nil_append, List.cons_append, decide_true, decide_false, bft, btf, btt, bff, Bool.false_eq_true, resultsA, oneOrTup, Option.map_some, Option.map_none, Bool.not_true, Bool.not_false, loadAt, storeAt, storeOf, partOf, List.getElem?_cons_zero, List.getElem?_cons_succ, List.set_cons_zero, List.set_cons_succ, AV.cells, AV.isCell, List.all_cons, List.all_nil, Bool.and_true, Bool.and_false, Bool.false_and, Bool.true_and, Bool.and_self, and_true, true_and, and_self, putAt, hasLabel, Bool.or_false, Bool.false_or, Bool.or_true, Bool.true_or, fillA, pickParts, pickSl, strBin, eqA, eqCell, ne_eq, not_true_eq_false, not_false_eq_true, Nat.reduceLeDiff, Nat.reduceLT, Nat.reduceMul, Nat.reduceSub, Nat.zero_add, Nat.add_zero, Option.bind_some, asNat, bounds2, reduceCtorEq, List.take_succ_cons, List.take_zero, List.drop_succ_cons, List.drop_zero, Nat.reduceBEq, List.take_nil, List.drop_nil, Int.reduceLE, Int.reduceLT, Int.reduceToNat, Int.toNat_zero, Int.reduceBEq, Int.le_refl, Nat.le_refl, i26_L0, i26_L1, i26_L2, lexE, lexS, e2, e10, e32, e9, e35, k, h]
  exact ⟨_, _, _, _, _, rfl⟩
end
end Go.Pm
end

section
set_option linter.unusedSimpArgs false
set_option linter.unusedVariables false
set_option linter.unusedSectionVars false
/- The lexer: numbers, words, signs, the end. -/
set_option maxRecDepth 100000
set_option linter.unusedSimpArgs false
namespace Go.Pm
section
variable {call : CallA} {draw : DrawA} {G : Globals} {fuel : Nat}

/-- What strconv.ParseUint answers here. -/
def Parse (call : CallA) : Prop := ∀ (s : List UInt8) (σ : Store), s.length ≤ 5000 →
    (∀ u, Lib.parseUintB 64 s = .ok u → ∃ σ', call 60 [.str s, .int .i64 10, .int .i64 64] σ = some (.ret (.tup [.int .u64 u, .nili]), σ')) ∧
    (Lib.parseUintB 64 s = .range → ∃ σ', call 60 [.str s, .int .i64 10, .int .i64 64] σ = some (.ret (.tup [.int .u64 18446744073709551615, .iface 153 (.ip 1 [] 0 0)]), σ'))
def Digit (call : CallA) : Prop := ∀ (c : UInt8) σ, call 59 [.int .u8 c.toNat] σ = some (.ret (.bool (digitB c)), σ)
def Letter (call : CallA) : Prop := ∀ (c : UInt8) σ, call 61 [.int .u8 c.toNat] σ = some (.ret (.bool (letterB c)), σ)

theorem digit_lt {c : UInt8} (h : digitB c = true) : 48 ≤ c.toNat ∧ c.toNat ≤ 57 := by simpa [digitB] using h
theorem letter_lt {c : UInt8} (h : letterB c = true) : 97 ≤ c.toNat ∧ c.toNat ≤ 122 := by simpa [letterB] using h

theorem lex_num (h56 : Take call) (h57 : Run call 59 digitB) (h59 : Digit call) (h60 : Parse call) (c : UInt8) (hd : digitB c = true) (t : List UInt8) (r : AObj) (line col : Int) (p0 p1 p2 p3 p4 : AV) (toks : Store) (out : AV) (ht : t.length < 5000) (hc : 0 ≤ col) (hc2 : col ≤ 100000)
    (u : Nat) (hu : Lib.parseUintB 64 ((c :: t).take (spanLen digitB (c :: t))) = .ok u) :
    evalCode call draw G fuel i26_L2 (some 0) (lexE out) (lexS (c :: t) r line col (.cells [p0, p1, p2, p3, p4] (some 61) :: toks)) =
      some (.goto 1, lexE out, lexS ((c :: t).drop (spanLen digitB (c :: t))) r line (col + spanLen digitB (c :: t)) (pieceO 1 ((c :: t).take (spanLen digitB (c :: t))) u line col :: toks)) := by
  have k := fun r rest => h56 (c :: t) r line col rest (spanLen digitB (c :: t)) (spanLen_le _ _) (by simp; omega) hc hc2
  simp only [lexS] at k
  have e2 : (c :: t == ([] : List UInt8)) = false := rfl
  have e10 := u8eq c 10
  have e32 := u8eq c 32
  have e9 := u8eq c 9
  have e35 := u8eq c 35
  simp only [Int.cast_ofNat_Int] at e10 e32 e9 e35
  have hr := digit_lt hd
  have n10 : (c.toNat == 10) = false := by rw [beq_eq_false_iff_ne]; omega
  have n32 : (c.toNat == 32) = false := by rw [beq_eq_false_iff_ne]; omega
  have n9 : (c.toNat == 9) = false := by rw [beq_eq_false_iff_ne]; omega
  have n35 : (c.toNat == 35) = false := by rw [beq_eq_false_iff_ne]; omega
  have h := fun σ => h57 (c :: t) σ (by simp; omega)
  have hlen : ((c :: t).take (spanLen digitB (c :: t))).length ≤ 5000 := by simp; omega
  obtain ⟨σp, hp⟩ := (h60 ((c :: t).take (spanLen digitB (c :: t))) [] hlen).1 u hu
  have hdig := h59 c
  simp only [evalFn, params, List.length_cons, List.length_nil, Nat.reduceAdd, evalCode, evalOps, guardOk, evalOp, AX.ev, look, putE, val, evs, optEv, binA, intBin, wrapI, unA, callM, keepE_cons, keepE_nil, callC, strips, stripWs, stripW, AV.flatv, flatvs, Nat.reduceEqDiff, if_true, if_false, reduceIte, Int.toNat_natCast, List.append_nil, List.nil_append, List.cons_append, decide_true, decide_false, bft, btf, btt, bff, Bool.false_eq_true, resultsA, oneOrTup, Option.map_some, Option.map_none, Bool.not_true, Bool.not_false, loadAt, storeAt, storeOf, partOf, List.getElem?_cons_zero, List.getElem?_cons_succ, List.set_cons_zero, List.set_cons_succ, AV.cells, AV.isCell, List.all_cons, List.all_nil, Bool.and_true, Bool.and_false, Bool.false_and, Bool.true_and, Bool.and_self, and_true, true_and, and_self, putAt, hasLabel, Bool.or_false, Bool.false_or, Bool.or_true, Bool.true_or, fillA, pickParts, pickSl, strBin, eqA, eqCell, ne_eq, not_true_eq_false, not_false_eq_true, Nat.reduceLeDiff, Nat.reduceLT, Nat.reduceMul, Nat.reduceSub, Nat.zero_add, Nat.add_zero, Option.bind_some, asNat, bounds2, reduceCtorEq, List.take_succ_cons, List.take_zero, List.drop_succ_cons, List.drop_zero, Nat.reduceBEq, List.take_nil, List.drop_nil, Int.reduceLE, Int.reduceLT, Int.reduceToNat, Int.toNat_zero, Int.reduceBEq, Int.le_refl, Nat.le_refl, i26_L0, i26_L1, i26_L2, lexE, lexS, pieceO, e2, e10, e32, e9, e35, n10, n32, n9, n35, k, h, hp, hd, hdig]

theorem lex_numErr (h56 : Take call) (h57 : Run call 59 digitB) (h59 : Digit call) (h60 : Parse call) (c : UInt8) (hd : digitB c = true) (t : List UInt8) (r0 r1 : AV) (line col : Int) (p0 p1 p2 p3 p4 : AV) (toks : Store) (out : AV) (ht : t.length < 5000) (hc : 0 ≤ col) (hc2 : col ≤ 100000)
    (hu : Lib.parseUintB 64 ((c :: t).take (spanLen digitB (c :: t))) = .range) :
    ∃ σ', evalCode call (drawA call G) G fuel i26_L2 (some 0) (lexE out) (lexS (c :: t) (.cells [r0, r1] (some 53)) line col (.cells [p0, p1, p2, p3, p4] (some 61) :: toks)) =
      some (.ret, [(2, .sl 5 [] .exact), (3, .bp 1 0), (4, .int .i64 4)], σ') ∧ σ'[1]? = some (.cells [.int .i64 line, .int .i64 col] (some 53)) := by
  have k := fun r rest => h56 (c :: t) r line col rest (spanLen digitB (c :: t)) (spanLen_le _ _) (by simp; omega) hc hc2
  simp only [lexS] at k
  have e2 : (c :: t == ([] : List UInt8)) = false := rfl
  have e10 := u8eq c 10
  have e32 := u8eq c 32
  have e9 := u8eq c 9
  have e35 := u8eq c 35
  simp only [Int.cast_ofNat_Int] at e10 e32 e9 e35
  have hr := digit_lt hd
  have n10 : (c.toNat == 10) = false := by rw [beq_eq_false_iff_ne]; omega
  have n32 : (c.toNat == 32) = false := by rw [beq_eq_false_iff_ne]; omega
  have n9 : (c.toNat == 9) = false := by rw [beq_eq_false_iff_ne]; omega
  have n35 : (c.toNat == 35) = false := by rw [beq_eq_false_iff_ne]; omega
  have h := fun σ => h57 (c :: t) σ (by simp; omega)
  have hlen : ((c :: t).take (spanLen digitB (c :: t))).length ≤ 5000 := by simp; omega
  obtain ⟨σp, hp⟩ := (h60 ((c :: t).take (spanLen digitB (c :: t))) [] hlen).2 hu
  have hdig := h59 c
  simp only [evalFn, params, List.length_cons, List.length_nil, Nat.reduceAdd, evalCode, evalOps, guardOk, evalOp, AX.ev, look, putE, val, evs, optEv, binA, intBin, wrapI, unA, callM, keepE_cons, keepE_nil, callC, strips, stripWs, stripW, AV.flatv, flatvs, Nat.reduceEqDiff, if_true, if_false, reduceIte, Int.toNat_natCast, List.append_nil, List.nil_append, List.cons_append, decide_true, decide_false, bft, btf, btt, bff, Bool.false_eq_true, resultsA, oneOrTup, Option.map_some, Option.map_none, Bool.not_true, Bool.not_false, loadAt, storeAt, storeOf, partOf, List.getElem?_cons_zero, List.getElem?_cons_succ, List.set_cons_zero, List.set_cons_succ, AV.cells, AV.isCell, List.all_cons, List.all_nil, Bool.and_true, Bool.and_false, Bool.false_and, Bool.true_and, Bool.and_self, and_true, true_and, and_self, putAt, hasLabel, Bool.or_false, Bool.false_or, Bool.or_true, Bool.true_or, fillA, pickParts, pickSl, strBin, eqA, eqCell, ne_eq, not_true_eq_false, not_false_eq_true, Nat.reduceLeDiff, Nat.reduceLT, Nat.reduceMul, Nat.reduceSub, Nat.zero_add, Nat.add_zero, Option.bind_some, asNat, bounds2, reduceCtorEq, List.take_succ_cons, List.take_zero, List.drop_succ_cons, List.drop_zero, Nat.reduceBEq, List.take_nil, List.drop_nil, Int.reduceLE, Int.reduceLT, Int.reduceToNat, Int.toNat_zero, Int.reduceBEq, Int.le_refl, Nat.le_refl, puress, AV.pure, strip, drawA, goD, stepG, stepD, bornD, readsD, births, AOp.births, Eff.app, pairsD, loudsD, loudD, conflict, apart, AOp.shares, List.replicate_zero, List.replicate_succ, List.getD_cons_succ, List.getD_cons_zero, List.contains_cons, List.contains_nil, Bool.not_or, Option.getD_some, Option.getD_none, Nat.reduceBNe, decide_eq_true_eq, Bool.if_false_left, i26_L0, i26_L1, i26_L2, lexE, lexS, pieceO, e2, e10, e32, e9, e35, n10, n32, n9, n35, k, h, hp, hd, hdig]
  exact ⟨_, rfl, rfl⟩

theorem lex_word (h56 : Take call) (h57 : Run call 62 wordB) (h59 : Digit call) (h61 : Letter call) (c : UInt8) (hd : letterB c = true) (t : List UInt8) (r : AObj) (line col : Int) (p0 p1 p2 p3 p4 : AV) (toks : Store) (out : AV) (ht : t.length < 5000) (hc : 0 ≤ col) (hc2 : col ≤ 100000) :
    evalCode call draw G fuel i26_L2 (some 0) (lexE out) (lexS (c :: t) r line col (.cells [p0, p1, p2, p3, p4] (some 61) :: toks)) =
      some (.goto 1, lexE out, lexS ((c :: t).drop (spanLen wordB (c :: t))) r line (col + spanLen wordB (c :: t)) (pieceO 2 ((c :: t).take (spanLen wordB (c :: t))) 0 line col :: toks)) := by
  have k := fun r rest => h56 (c :: t) r line col rest (spanLen wordB (c :: t)) (spanLen_le _ _) (by simp; omega) hc hc2
  simp only [lexS] at k
  have e2 : (c :: t == ([] : List UInt8)) = false := rfl
  have e10 := u8eq c 10
  have e32 := u8eq c 32
  have e9 := u8eq c 9
  have e35 := u8eq c 35
  simp only [Int.cast_ofNat_Int] at e10 e32 e9 e35
  have hr := letter_lt hd
  have n10 : (c.toNat == 10) = false := by rw [beq_eq_false_iff_ne]; omega
  have n32 : (c.toNat == 32) = false := by rw [beq_eq_false_iff_ne]; omega
  have n9 : (c.toNat == 9) = false := by rw [beq_eq_false_iff_ne]; omega
  have n35 : (c.toNat == 35) = false := by rw [beq_eq_false_iff_ne]; omega
  have nd : digitB c = false := by
    cases hx : digitB c with
    | false => rfl
    | true => have := digit_lt hx; omega
  have h := fun σ => h57 (c :: t) σ (by simp; omega)
  have hdig := h59 c
  have hlet := h61 c
  simp only [evalFn, params, List.length_cons, List.length_nil, Nat.reduceAdd, evalCode, evalOps, guardOk, evalOp, AX.ev, look, putE, val, evs, optEv, binA, intBin, wrapI, unA, callM, keepE_cons, keepE_nil, callC, strips, stripWs, stripW, AV.flatv, flatvs, Nat.reduceEqDiff, if_true, if_false, reduceIte, Int.toNat_natCast, List.append_nil, List.nil_append, List.cons_append, decide_true, decide_false, bft, btf, btt, bff, Bool.false_eq_true, resultsA, oneOrTup, Option.map_some, Option.map_none, Bool.not_true, Bool.not_false, loadAt, storeAt, storeOf, partOf, List.getElem?_cons_zero, List.getElem?_cons_succ, List.set_cons_zero, List.set_cons_succ, AV.cells, AV.isCell, List.all_cons, List.all_nil, Bool.and_true, Bool.and_false, Bool.false_and, Bool.true_and, Bool.and_self, and_true, true_and, and_self, putAt, hasLabel, Bool.or_false, Bool.false_or, Bool.or_true, Bool.true_or, fillA, pickParts, pickSl, strBin, eqA, eqCell, ne_eq, not_true_eq_false, not_false_eq_true, Nat.reduceLeDiff, Nat.reduceLT, Nat.reduceMul, Nat.reduceSub, Nat.zero_add, Nat.add_zero, Option.bind_some, asNat, bounds2, reduceCtorEq, List.take_succ_cons, List.take_zero, List.drop_succ_cons, List.drop_zero, Nat.reduceBEq, List.take_nil, List.drop_nil, Int.reduceLE, Int.reduceLT, Int.reduceToNat, Int.toNat_zero, Int.reduceBEq, Int.le_refl, Nat.le_refl, i26_L0, i26_L1, i26_L2, lexE, lexS, pieceO, e2, e10, e32, e9, e35, n10, n32, n9, n35, k, h, hd, nd, hdig, hlet]

/-- The rows that have been put, and the right to go on. -/
def OutOk (rows : List AV) (cap : Cap) (toks : Store) : Prop :=
  (cap = .exact ∧ rows = []) ∨ ∃ j, cap = .tok (4 + j) ∧ toks[j]? = some (.tok 61)

def pieceA (k : Int) (t : List UInt8) (n line col : Int) : AV := .agg [.int .u8 k, .str t, .int .u64 n, .int .i64 line, .int .i64 col]

theorem put_app (rows : List AV) (cap : Cap) (a b c d : AObj) (toks : Store) (ho : OutOk rows cap toks) (hn : rows.length ≤ 5000) (k : Int) (t : List UInt8) (n line col : Int) :
    ∃ cap' toks', appendA (a :: b :: c :: d :: toks) 61 5 48 (.sl 5 rows cap) (.sl 5 [pieceA k t n line col] .exact) = some (.sl 5 (rows ++ [pieceA k t n line col]) cap', a :: b :: c :: d :: toks') ∧
      OutOk (rows ++ [pieceA k t n line col]) cap' toks' := by
  have hb : 2 * (rows.length + 1) * 48 ≤ 281474976710656 := by omega
  rcases ho with ⟨rfl, rfl⟩ | ⟨j, rfl, hj⟩
  · refine ⟨.tok (4 + toks.length), toks ++ [.tok 61], ?_, .inr ⟨toks.length, rfl, by simp⟩⟩
    simp [appendA, srcRow, rowOk, pieceA, AV.cells, AV.isCell]
    omega
  · refine ⟨.tok (4 + toks.length), toks.set j .dead ++ [.tok 61], ?_, .inr ⟨toks.length, rfl, by simp⟩⟩
    have hg : (a :: b :: c :: d :: toks)[4 + j]? = some (.tok 61) := by
      rw [show 4 + j = j + 1 + 1 + 1 + 1 by omega]; simpa using hj
    have hs : (a :: b :: c :: d :: toks).set (4 + j) AObj.dead = a :: b :: c :: d :: toks.set j .dead := by
      rw [show 4 + j = j + 1 + 1 + 1 + 1 by omega]; simp
    simp only [appendA, srcRow, rowOk, pieceA, AV.cells, AV.isCell, List.all_cons, List.all_nil, hg, hs, List.length_cons, List.length_nil, if_true]
    simp
    omega

theorem lex_put (rows : List AV) (cap : Cap) (text : List UInt8) (r : AObj) (line col : Int) (k : Int) (t : List UInt8) (n pl pc : Int) (toks : Store) (ho : OutOk rows cap toks) (hn : rows.length ≤ 5000) :
    ∃ cap' toks', evalCode call draw G fuel i26_L2 (some 1) (lexE (.sl 5 rows cap)) (lexS text r line col (pieceO k t n pl pc :: toks)) =
      some (.goto 0, lexE (.sl 5 (rows ++ [pieceA k t n pl pc]) cap'), lexS text r line col (pieceO k t n pl pc :: toks')) ∧ OutOk (rows ++ [pieceA k t n pl pc]) cap' toks' := by
  obtain ⟨cap', toks', h1, h2⟩ := put_app rows cap (.cells [.str text] (some 9)) r (.cells [.int .i64 line, .int .i64 col] (some 53)) (pieceO k t n pl pc) toks ho hn k t n pl pc
  refine ⟨cap', toks', ?_, h2⟩
  simp only [pieceO, pieceA] at h1
  simp only [evalFn, params, List.length_cons, List.length_nil, Nat.reduceAdd, evalCode, evalOps, guardOk, evalOp, AX.ev, look, putE, val, evs, optEv, binA, intBin, wrapI, unA, callM, keepE_cons, keepE_nil, callC, strips, stripWs, stripW, AV.flatv, flatvs, Nat.reduceEqDiff, if_true, if_false, reduceIte, Int.toNat_natCast, List.append_nil, List.nil_append, List.cons_append, decide_true, decide_false, bft, btf, btt, bff, Bool.false_eq_true, resultsA, oneOrTup, Option.map_some, Option.map_none, Bool.not_true, Bool.not_false, loadAt, storeAt, storeOf, partOf, List.getElem?_cons_zero, List.getElem?_cons_succ, List.set_cons_zero, List.set_cons_succ, AV.cells, AV.isCell, List.all_cons, List.all_nil, Bool.and_true, Bool.and_false, Bool.false_and, Bool.true_and, Bool.and_self, and_true, true_and, and_self, putAt, hasLabel, Bool.or_false, Bool.false_or, Bool.or_true, Bool.true_or, fillA, pickParts, pickSl, strBin, eqA, eqCell, ne_eq, not_true_eq_false, not_false_eq_true, Nat.reduceLeDiff, Nat.reduceLT, Nat.reduceMul, Nat.reduceSub, Nat.zero_add, Nat.add_zero, Option.bind_some, asNat, bounds2, reduceCtorEq, List.take_succ_cons, List.take_zero, List.drop_succ_cons, List.drop_zero, Nat.reduceBEq, List.take_nil, List.drop_nil, Int.reduceLE, Int.reduceLT, Int.reduceToNat, Int.toNat_zero, Int.reduceBEq, Int.le_refl, Nat.le_refl, i26_L0, i26_L1, i26_L2, lexE, lexS, pieceO, pieceA, h1, List.replicate_succ, List.replicate_zero, List.flatten_cons, List.flatten_nil, rowOfCells, chunks, Nat.one_mul, Nat.mul_one, Nat.zero_mul]
end
end Go.Pm
end

section
set_option linter.unusedSimpArgs false
set_option linter.unusedVariables false
set_option linter.unusedSectionVars false
/- The lexer: signs, the end. -/
set_option maxRecDepth 100000
set_option linter.unusedSimpArgs false
namespace Go.Pm
section
variable {call : CallA} {draw : DrawA} {G : Globals} {fuel : Nat}

def Sign (call : CallA) : Prop := ∀ (a : UInt8) (s : List UInt8) σ, s.length ≤ 5000 → call 63 [.str (a :: s)] σ = some (.ret (.int .i64 (signN (a :: s))), σ)

theorem signN_le (a : UInt8) (s : List UInt8) : signN (a :: s) ≤ (a :: s).length := by
  cases s with
  | nil => simp only [signN]; split <;> simp
  | cons b s => simp only [signN]; split <;> (try split) <;> simp

theorem lex_end (rows : List AV) (cap : Cap) (r0 r1 : AV) (line col : Int) (p0 p1 p2 p3 p4 : AV) (toks : Store) (ho : OutOk rows cap toks) (hn : rows.length ≤ 5000) :
    ∃ cap' σ', evalCode call draw G fuel i26_L2 (some 0) (lexE (.sl 5 rows cap)) (lexS [] (.cells [r0, r1] (some 53)) line col (.cells [p0, p1, p2, p3, p4] (some 61) :: toks)) =
      some (.ret, [(2, .sl 5 (rows ++ [pieceA 0 [] 0 line col]) cap'), (3, .bp 1 0), (4, .int .i64 0)], σ') ∧ σ'[1]? = some (.cells [.int .i64 0, .int .i64 0] (some 53)) := by
  obtain ⟨cap', toks', h1, h2⟩ := put_app rows cap (.cells [.str []] (some 9)) (.cells [r0, r1] (some 53)) (.cells [.int .i64 line, .int .i64 col] (some 53)) (pieceO 0 [] 0 line col) toks ho hn 0 [] 0 line col
  simp only [pieceO, pieceA] at h1
  have e2 : (([] : List UInt8) == []) = true := rfl
  simp only [evalFn, params, List.length_cons, List.length_nil, Nat.reduceAdd, evalCode, evalOps, guardOk, evalOp, AX.ev, look, putE, val, evs, optEv, binA, intBin, wrapI, unA, callM, keepE_cons, keepE_nil, callC, strips, stripWs, stripW, AV.flatv, flatvs, Nat.reduceEqDiff, if_true, if_false, reduceIte, Int.toNat_natCast, List.append_nil, List.nil_append, List.cons_append, decide_true, decide_false, bft, btf, btt, bff, Bool.false_eq_true, resultsA, oneOrTup, Option.map_some, Option.map_none, Bool.not_true, Bool.not_false, loadAt, storeAt, storeOf, partOf, List.getElem?_cons_zero, List.getElem?_cons_succ, List.set_cons_zero, List.set_cons_succ, AV.cells, AV.isCell, List.all_cons, List.all_nil, Bool.and_true, Bool.and_false, Bool.false_and, Bool.true_and, Bool.and_self, and_true, true_and, and_self, putAt, hasLabel, Bool.or_false, Bool.false_or, Bool.or_true, Bool.true_or, fillA, pickParts, pickSl, strBin, eqA, eqCell, ne_eq, not_true_eq_false, not_false_eq_true, Nat.reduceLeDiff, Nat.reduceLT, Nat.reduceMul, Nat.reduceSub, Nat.zero_add, Nat.add_zero, Option.bind_some, asNat, bounds2, reduceCtorEq, List.take_succ_cons, List.take_zero, List.drop_succ_cons, List.drop_zero, Nat.reduceBEq, List.take_nil, List.drop_nil, Int.reduceLE, Int.reduceLT, Int.reduceToNat, Int.toNat_zero, Int.reduceBEq, Int.le_refl, Nat.le_refl, i26_L0, i26_L1, i26_L2, lexE, lexS, pieceO, pieceA, e2, h1, List.replicate_succ, List.replicate_zero, List.flatten_cons, List.flatten_nil, rowOfCells, chunks, Nat.one_mul, Nat.mul_one, Nat.zero_mul]
  exact ⟨_, _, rfl, rfl⟩

/-- A byte that begins nothing but, maybe, a sign. -/
def other (c : UInt8) : Bool := !(c.toNat == 10 || c.toNat == 32 || c.toNat == 9 || c.toNat == 35 || digitB c || letterB c)

theorem lex_sign (h56 : Take call) (h59 : Digit call) (h61 : Letter call) (h63 : Sign call) (c : UInt8) (hd : other c = true) (t : List UInt8) (r : AObj) (line col : Int) (p0 p1 p2 p3 p4 : AV) (toks : Store) (rows : List AV) (cap : Cap) (ht : t.length < 5000) (hc : 0 ≤ col) (hc2 : col ≤ 100000)
    (hs : signN (c :: t) ≠ 0) (ho : OutOk rows cap toks) (hn : rows.length ≤ 5000) :
    ∃ cap' toks' q0 q1 q2 q3 q4, evalCode call draw G fuel i26_L2 (some 0) (lexE (.sl 5 rows cap)) (lexS (c :: t) r line col (.cells [p0, p1, p2, p3, p4] (some 61) :: toks)) =
      some (.goto 0, lexE (.sl 5 (rows ++ [pieceA 3 ((c :: t).take (signN (c :: t))) 0 line col]) cap'), lexS ((c :: t).drop (signN (c :: t))) r line (col + signN (c :: t)) (.cells [q0, q1, q2, q3, q4] (some 61) :: toks')) ∧
      OutOk (rows ++ [pieceA 3 ((c :: t).take (signN (c :: t))) 0 line col]) cap' toks' := by
  obtain ⟨cap', toks', h1, h2⟩ := put_app rows cap (.cells [.str ((c :: t).drop (signN (c :: t)))] (some 9)) r (.cells [.int .i64 line, .int .i64 (col + signN (c :: t))] (some 53)) (pieceO 3 ((c :: t).take (signN (c :: t))) 0 line col) toks ho hn 3 ((c :: t).take (signN (c :: t))) 0 line col
  simp only [pieceO, pieceA] at h1
  have k := fun r rest => h56 (c :: t) r line col rest (signN (c :: t)) (signN_le _ _) (by simp; omega) hc hc2
  simp only [lexS] at k
  have e2 : (c :: t == ([] : List UInt8)) = false := rfl
  have e10 := u8eq c 10
  have e32 := u8eq c 32
  have e9 := u8eq c 9
  have e35 := u8eq c 35
  simp only [Int.cast_ofNat_Int] at e10 e32 e9 e35
  simp only [other, Bool.not_eq_true', Bool.or_eq_false_iff] at hd
  obtain ⟨⟨⟨⟨⟨n10, n32⟩, n9⟩, n35⟩, nd⟩, nl⟩ := hd
  have hdig := h59 c
  have hlet := h61 c
  have hsig := fun σ => h63 c t σ (by omega)
  have e0 : (((signN (c :: t) : Nat) : Int) == 0) = false := by
    rw [beq_eq_false_iff_ne]; omega
  generalize signN (c :: t) = n at *
  simp only [evalFn, params, List.length_cons, List.length_nil, Nat.reduceAdd, evalCode, evalOps, guardOk, evalOp, AX.ev, look, putE, val, evs, optEv, binA, intBin, wrapI, unA, callM, keepE_cons, keepE_nil, callC, strips, stripWs, stripW, AV.flatv, flatvs, Nat.reduceEqDiff, if_true, if_false, reduceIte, Int.toNat_natCast, List.append_nil, List.nil_append, List.cons_append, decide_true, decide_false, bft, btf, btt, bff, Bool.false_eq_true, resultsA, oneOrTup, Option.map_some, Option.map_none, Bool.not_true, Bool.not_false, loadAt, storeAt, storeOf, partOf, List.getElem?_cons_zero, List.getElem?_cons_succ, List.set_cons_zero, List.set_cons_succ, AV.cells, AV.isCell, List.all_cons, List.all_nil, Bool.and_true, Bool.and_false, Bool.false_and, Bool.true_and, Bool.and_self, and_true, true_and, and_self, putAt, hasLabel, Bool.or_false, Bool.false_or, Bool.or_true, Bool.true_or, fillA, pickParts, pickSl, strBin, eqA, eqCell, ne_eq, not_true_eq_false, not_false_eq_true, Nat.reduceLeDiff, Nat.reduceLT, Nat.reduceMul, Nat.reduceSub, Nat.zero_add, Nat.add_zero, Option.bind_some, asNat, bounds2, reduceCtorEq, List.take_succ_cons, List.take_zero, List.drop_succ_cons, List.drop_zero, Nat.reduceBEq, List.take_nil, List.drop_nil, Int.reduceLE, Int.reduceLT, Int.reduceToNat, Int.toNat_zero, Int.reduceBEq, Int.le_refl, Nat.le_refl, i26_L0, i26_L1, i26_L2, lexE, lexS, pieceO, pieceA, e2, e10, e32, e9, e35, n10, n32, n9, n35, k, nd, nl, hdig, hlet, hsig, e0, h1, List.replicate_succ, List.replicate_zero, List.flatten_cons, List.flatten_nil, rowOfCells, chunks, Nat.one_mul, Nat.mul_one, Nat.zero_mul]
  exact ⟨cap', toks', _, _, _, _, _, rfl, h2⟩

theorem lex_signErr (h59 : Digit call) (h61 : Letter call) (h63 : Sign call) (c : UInt8) (hd : other c = true) (t : List UInt8) (r0 r1 : AV) (line col : Int) (p0 p1 p2 p3 p4 : AV) (toks : Store) (out : AV) (ht : t.length < 5000)
    (hs : signN (c :: t) = 0) :
    ∃ σ', evalCode call (drawA call G) G fuel i26_L2 (some 0) (lexE out) (lexS (c :: t) (.cells [r0, r1] (some 53)) line col (.cells [p0, p1, p2, p3, p4] (some 61) :: toks)) =
      some (.ret, [(2, .sl 5 [] .exact), (3, .bp 1 0), (4, .int .i64 3)], σ') ∧ σ'[1]? = some (.cells [.int .i64 line, .int .i64 col] (some 53)) := by
  have e2 : (c :: t == ([] : List UInt8)) = false := rfl
  have e10 := u8eq c 10
  have e32 := u8eq c 32
  have e9 := u8eq c 9
  have e35 := u8eq c 35
  simp only [Int.cast_ofNat_Int] at e10 e32 e9 e35
  simp only [other, Bool.not_eq_true', Bool.or_eq_false_iff] at hd
  obtain ⟨⟨⟨⟨⟨n10, n32⟩, n9⟩, n35⟩, nd⟩, nl⟩ := hd
  have hdig := h59 c
  have hlet := h61 c
  have hsig := fun σ => h63 c t σ (by omega)
  have e0 : (((0 : Nat) : Int) == 0) = true := rfl
  rw [hs] at hsig
  simp only [evalFn, params, List.length_cons, List.length_nil, Nat.reduceAdd, evalCode, evalOps, guardOk, evalOp, AX.ev, look, putE, val, evs, optEv, binA, intBin, wrapI, unA, callM, keepE_cons, keepE_nil, callC, strips, stripWs, stripW, AV.flatv, flatvs, Nat.reduceEqDiff, if_true, if_false, reduceIte, Int.toNat_natCast, List.append_nil, List.nil_append, List.cons_append, decide_true, decide_false, bft, btf, btt, bff, Bool.false_eq_true, resultsA, oneOrTup, Option.map_some, Option.map_none, Bool.not_true, Bool.not_false, loadAt, storeAt, storeOf, partOf, List.getElem?_cons_zero, List.getElem?_cons_succ, List.set_cons_zero, List.set_cons_succ, AV.cells, AV.isCell, List.all_cons, List.all_nil, Bool.and_true, Bool.and_false, Bool.false_and, Bool.true_and, Bool.and_self, and_true, true_and, and_self, putAt, hasLabel, Bool.or_false, Bool.false_or, Bool.or_true, Bool.true_or, fillA, pickParts, pickSl, strBin, eqA, eqCell, ne_eq, not_true_eq_false, not_false_eq_true, Nat.reduceLeDiff, Nat.reduceLT, Nat.reduceMul, Nat.reduceSub, Nat.zero_add, Nat.add_zero, Option.bind_some, asNat, bounds2, reduceCtorEq, List.take_succ_cons, List.take_zero, List.drop_succ_cons, List.drop_zero, Nat.reduceBEq, List.take_nil, List.drop_nil, Int.reduceLE, Int.reduceLT, Int.reduceToNat, Int.toNat_zero, Int.reduceBEq, Int.le_refl, Nat.le_refl, puress, AV.pure, strip, drawA, goD, stepG, stepD, bornD, readsD, births, AOp.births, Eff.app, pairsD, loudsD, loudD, conflict, apart, AOp.shares, List.replicate_zero, List.replicate_succ, List.getD_cons_succ, List.getD_cons_zero, List.contains_cons, List.contains_nil, Bool.not_or, Option.getD_some, Option.getD_none, Nat.reduceBNe, decide_eq_true_eq, Bool.if_false_left, i26_L0, i26_L1, i26_L2, lexE, lexS, pieceO, pieceA, e2, e10, e32, e9, e35, n10, n32, n9, n35, nd, nl, hdig, hlet, hsig, e0]
  exact ⟨_, rfl, rfl⟩
end
end Go.Pm
end

section
set_option linter.unusedSimpArgs false
set_option linter.unusedVariables false
set_option linter.unusedSectionVars false
/- The lexer, whole. -/
set_option maxRecDepth 100000
set_option linter.unusedSimpArgs false
namespace Go.Pm
section
variable {call : CallA} {draw : DrawA} {G : Globals} {fuel : Nat}

/-- What the lexer comes to. -/
inductive LexR where
  | ok (l : List AV)
  | err (line col code : Int)

def lexF : Nat → List UInt8 → Int → Int → List AV → LexR
  | 0, _, _, _, _ => .err 0 0 0
  | _ + 1, [], line, col, acc => .ok (acc ++ [pieceA 0 [] 0 line col])
  | n + 1, c :: t, line, col, acc =>
    if c.toNat == 10 then lexF n t (line + 1) 1 acc else
    if c.toNat == 32 || c.toNat == 9 then lexF n t line (col + 1) acc else
    if c.toNat == 35 then lexF n ((c :: t).drop (spanLen noLf (c :: t))) line (col + spanLen noLf (c :: t)) acc else
    if digitB c then
      match Lib.parseUintB 64 ((c :: t).take (spanLen digitB (c :: t))) with
      | .ok u => lexF n ((c :: t).drop (spanLen digitB (c :: t))) line (col + spanLen digitB (c :: t)) (acc ++ [pieceA 1 ((c :: t).take (spanLen digitB (c :: t))) u line col])
      | _ => .err line col 4
    else
    if letterB c then lexF n ((c :: t).drop (spanLen wordB (c :: t))) line (col + spanLen wordB (c :: t)) (acc ++ [pieceA 2 ((c :: t).take (spanLen wordB (c :: t))) 0 line col]) else
    if signN (c :: t) = 0 then .err line col 3 else
    lexF n ((c :: t).drop (signN (c :: t))) line (col + signN (c :: t)) (acc ++ [pieceA 3 ((c :: t).take (signN (c :: t))) 0 line col])

/-- What a run's results say. -/
def LexOut (r : LexR) (env : Env) (σ : Store) : Prop :=
  match r with
  | .ok l => ∃ cap, env = [(2, .sl 5 l cap), (3, .bp 1 0), (4, .int .i64 0)] ∧ σ[1]? = some (.cells [.int .i64 0, .int .i64 0] (some 53))
  | .err line col code => env = [(2, .sl 5 [] .exact), (3, .bp 1 0), (4, .int .i64 code)] ∧ σ[1]? = some (.cells [.int .i64 line, .int .i64 col] (some 53))

structure LexCalls (call : CallA) : Prop where
  take : Take call
  lf : Run call 58 noLf
  digits : Run call 59 digitB
  word : Run call 62 wordB
  digit : Digit call
  letter : Letter call
  parse : Parse call
  sign : Sign call

theorem spanLen_pos {p : UInt8 → Bool} {c : UInt8} {t : List UInt8} (h : p c = true) : 1 ≤ spanLen p (c :: t) := by
  unfold spanLen; rw [List.takeWhile_cons, if_pos h]; simp

theorem take_span (p : UInt8 → Bool) (s : List UInt8) : s.take (spanLen p s) = s.takeWhile p := by
  unfold spanLen
  induction s with
  | nil => rfl
  | cons c t ih =>
    rw [List.takeWhile_cons]
    split
    · simp [ih]
    · simp

theorem parseM_digits : ∀ (l : List UInt8) (M acc : Nat), (∀ c ∈ l, digitB c = true) → (∃ u, Lib.parseUintM M acc l = .ok u) ∨ Lib.parseUintM M acc l = .range
  | [], M, acc, _ => by simp [Lib.parseUintM]
  | c :: r, M, acc, h => by
    have hc := digit_lt (h c (by simp))
    unfold Lib.parseUintM
    rw [if_pos hc]
    split
    · simp
    · split
      · simp
      · exact parseM_digits r _ _ (fun x hx => h x (by simp [hx]))

theorem takeWhile_all (p : UInt8 → Bool) : ∀ (l : List UInt8) (x : UInt8), x ∈ l.takeWhile p → p x = true
  | [], x, h => by simp at h
  | c :: t, x, h => by
    rw [List.takeWhile_cons] at h
    split at h
    · rename_i hc
      rw [List.mem_cons] at h
      rcases h with rfl | h
      · exact hc
      · exact takeWhile_all p t x h
    · simp at h

theorem parse_digits (c : UInt8) (t : List UInt8) (h : digitB c = true) : (∃ u, Lib.parseUintB 64 ((c :: t).take (spanLen digitB (c :: t))) = .ok u) ∨ Lib.parseUintB 64 ((c :: t).take (spanLen digitB (c :: t))) = .range := by
  rw [take_span]
  unfold Lib.parseUintB
  rw [if_neg (by rw [List.takeWhile_cons, if_pos h]; simp)]
  exact parseM_digits _ _ _ (fun x hx => takeWhile_all _ _ x hx)

theorem lex_go (H : LexCalls call) : ∀ (n : Nat) (text : List UInt8) (line col : Int) (rows : List AV) (cap : Cap) (toks : Store) (r0 r1 p0 p1 p2 p3 p4 : AV) (m : Nat),
    text.length < n → text.length + rows.length ≤ 4999 → 0 ≤ line → line + text.length ≤ 5000 → 0 ≤ col → col + text.length ≤ 5000 → OutOk rows cap toks → 2 * text.length < m →
    ∃ env σ', jumpsA (evalCode call (drawA call G) G fuel i26_L2) m (some 0) (lexE (.sl 5 rows cap)) (lexS text (.cells [r0, r1] (some 53)) line col (.cells [p0, p1, p2, p3, p4] (some 61) :: toks)) = some (.ret, env, σ') ∧
      LexOut (lexF n text line col rows) env σ' := by
  intro n
  induction n with
  | zero => intro text line col rows cap toks r0 r1 p0 p1 p2 p3 p4 m h; omega
  | succ n ih =>
    intro text line col rows cap toks r0 r1 p0 p1 p2 p3 p4 m hn hrows hl0 hl hc0 hc ho hm
    obtain ⟨m, rfl⟩ : ∃ m', m = m' + 1 := ⟨m - 1, by omega⟩
    cases text with
    | nil =>
      obtain ⟨cap', σ', h1, h2⟩ := lex_end (call := call) (draw := drawA call G) (G := G) (fuel := fuel) rows cap r0 r1 line col p0 p1 p2 p3 p4 toks ho (by simp at hrows; omega)
      refine ⟨_, σ', ?_, cap', rfl, h2⟩
      rw [jumpsA_succ, h1]
    | cons c t =>
      simp only [List.length_cons] at hn hrows hl hc hm
      have hlt : t.length < 5000 := by omega
      simp only [lexF]
      -- a step and the rest
      have goOn : ∀ (text' : List UInt8) (line' col' : Int) (rows' : List AV) (cap' : Cap) (toks' : Store) (x0 x1 x2 x3 x4 : AV),
          evalCode call (drawA call G) G fuel i26_L2 (some 0) (lexE (.sl 5 rows cap)) (lexS (c :: t) (.cells [r0, r1] (some 53)) line col (.cells [p0, p1, p2, p3, p4] (some 61) :: toks)) = some (.goto 0, lexE (.sl 5 rows' cap'), lexS text' (.cells [r0, r1] (some 53)) line' col' (.cells [x0, x1, x2, x3, x4] (some 61) :: toks')) →
          text'.length ≤ t.length → text'.length + rows'.length ≤ 4999 → 0 ≤ line' → line' + text'.length ≤ 5000 → 0 ≤ col' → col' + text'.length ≤ 5000 → OutOk rows' cap' toks' →
          ∃ env σ', jumpsA (evalCode call (drawA call G) G fuel i26_L2) (m + 1) (some 0) (lexE (.sl 5 rows cap)) (lexS (c :: t) (.cells [r0, r1] (some 53)) line col (.cells [p0, p1, p2, p3, p4] (some 61) :: toks)) = some (.ret, env, σ') ∧ LexOut (lexF n text' line' col' rows') env σ' := by
        intro text' line' col' rows' cap' toks' x0 x1 x2 x3 x4 hst h1 h2 h3 h4 h5 h6 h7
        obtain ⟨env, σ', k1, k2⟩ := ih text' line' col' rows' cap' toks' r0 r1 x0 x1 x2 x3 x4 m (by omega) h2 h3 h4 h5 h6 h7 (by omega)
        exact ⟨env, σ', by rw [jumpsA_succ, hst]; exact k1, k2⟩
      -- two steps and the rest
      have goTwo : ∀ (k : Int) (tx : List UInt8) (nn : Int) (sp : Nat), 1 ≤ sp → sp ≤ t.length + 1 →
          evalCode call (drawA call G) G fuel i26_L2 (some 0) (lexE (.sl 5 rows cap)) (lexS (c :: t) (.cells [r0, r1] (some 53)) line col (.cells [p0, p1, p2, p3, p4] (some 61) :: toks)) = some (.goto 1, lexE (.sl 5 rows cap), lexS ((c :: t).drop sp) (.cells [r0, r1] (some 53)) line (col + sp) (pieceO k tx nn line col :: toks)) →
          ∃ env σ', jumpsA (evalCode call (drawA call G) G fuel i26_L2) (m + 1) (some 0) (lexE (.sl 5 rows cap)) (lexS (c :: t) (.cells [r0, r1] (some 53)) line col (.cells [p0, p1, p2, p3, p4] (some 61) :: toks)) = some (.ret, env, σ') ∧ LexOut (lexF n ((c :: t).drop sp) line (col + sp) (rows ++ [pieceA k tx nn line col])) env σ' := by
        intro k tx nn sp hs1 hs2 hst
        obtain ⟨m, rfl⟩ : ∃ m', m = m' + 1 := ⟨m - 1, by omega⟩
        obtain ⟨cap', toks', k1, k2⟩ := lex_put (call := call) (draw := drawA call G) (G := G) (fuel := fuel) rows cap ((c :: t).drop sp) (.cells [r0, r1] (some 53)) line (col + sp) k tx nn line col toks ho (by omega)
        have hlen : ((c :: t).drop sp).length = t.length + 1 - sp := by simp
        obtain ⟨env, σ', q1, q2⟩ := ih ((c :: t).drop sp) line (col + sp) (rows ++ [pieceA k tx nn line col]) cap' toks' r0 r1 (.int .u8 k) (.str tx) (.int .u64 nn) (.int .i64 line) (.int .i64 col) m (by omega) (by simp; omega) hl0 (by omega) (by omega) (by omega) k2 (by omega)
        refine ⟨env, σ', ?_, q2⟩
        rw [jumpsA_succ, hst]
        simp only
        rw [jumpsA_succ, k1]
        exact q1
      by_cases h10 : (c.toNat == 10) = true
      · rw [if_pos h10]
        have : c = 10 := UInt8.toNat_inj.1 (by simpa using h10)
        subst this
        obtain ⟨q0, q1, q2, q3, q4, hst⟩ := lex_lf (call := call) (draw := drawA call G) (G := G) (fuel := fuel) H.take t (.cells [r0, r1] (some 53)) line col p0 p1 p2 p3 p4 toks (.sl 5 rows cap) hlt hl0 (by omega) hc0 (by omega)
        exact goOn t (line + 1) 1 rows cap toks q0 q1 q2 q3 q4 hst (Nat.le_refl _) (by omega) (by omega) (by omega) (by omega) (by omega) ho
      · rw [if_neg h10]
        by_cases hb : (c.toNat == 32 || c.toNat == 9) = true
        · rw [if_pos hb]
          obtain ⟨q0, q1, q2, q3, q4, hst⟩ := lex_blank (call := call) (draw := drawA call G) (G := G) (fuel := fuel) H.take c hb t (.cells [r0, r1] (some 53)) line col p0 p1 p2 p3 p4 toks (.sl 5 rows cap) hlt hc0 (by omega)
          exact goOn t line (col + 1) rows cap toks q0 q1 q2 q3 q4 hst (Nat.le_refl _) (by omega) (by omega) (by omega) (by omega) (by omega) ho
        · rw [if_neg hb]
          by_cases h35 : (c.toNat == 35) = true
          · rw [if_pos h35]
            have : c = 35 := UInt8.toNat_inj.1 (by simpa using h35)
            subst this
            obtain ⟨q0, q1, q2, q3, q4, hst⟩ := lex_hash (call := call) (draw := drawA call G) (G := G) (fuel := fuel) H.take H.lf t (.cells [r0, r1] (some 53)) line col p0 p1 p2 p3 p4 toks (.sl 5 rows cap) hlt hc0 (by omega)
            have s1 : 1 ≤ spanLen noLf (35 :: t) := spanLen_pos (by decide)
            have s2 := spanLen_le noLf (35 :: t)
            simp only [List.length_cons] at s2
            exact goOn _ line _ rows cap toks q0 q1 q2 q3 q4 hst (by simp; omega) (by simp; omega) (by omega) (by simp; omega) (by omega) (by simp; omega) ho
          · rw [if_neg h35]
            by_cases hd : digitB c = true
            · rw [if_pos hd]
              have s1 : 1 ≤ spanLen digitB (c :: t) := spanLen_pos hd
              have s2 := spanLen_le digitB (c :: t)
              simp only [List.length_cons] at s2
              rcases parse_digits c t hd with ⟨u, hp⟩ | hp
              · rw [hp]
                have hst := lex_num (call := call) (draw := drawA call G) (G := G) (fuel := fuel) H.take H.digits H.digit H.parse c hd t (.cells [r0, r1] (some 53)) line col p0 p1 p2 p3 p4 toks (.sl 5 rows cap) hlt hc0 (by omega) u hp
                exact goTwo 1 _ u _ s1 s2 hst
              · rw [hp]
                obtain ⟨σ', hst, h2⟩ := lex_numErr (call := call) (G := G) (fuel := fuel) H.take H.digits H.digit H.parse c hd t r0 r1 line col p0 p1 p2 p3 p4 toks (.sl 5 rows cap) hlt hc0 (by omega) hp
                exact ⟨_, σ', by rw [jumpsA_succ, hst], rfl, h2⟩
            · rw [if_neg hd]
              by_cases hw : letterB c = true
              · rw [if_pos hw]
                have s1 : 1 ≤ spanLen wordB (c :: t) := spanLen_pos (by simp [wordB, hw])
                have s2 := spanLen_le wordB (c :: t)
                simp only [List.length_cons] at s2
                have hst := lex_word (call := call) (draw := drawA call G) (G := G) (fuel := fuel) H.take H.word H.digit H.letter c hw t (.cells [r0, r1] (some 53)) line col p0 p1 p2 p3 p4 toks (.sl 5 rows cap) hlt hc0 (by omega)
                exact goTwo 2 _ 0 _ s1 s2 hst
              · rw [if_neg hw]
                have hoth : other c = true := by
                  simp only [Bool.not_eq_true] at h10 hb h35 hd hw
                  simp only [Bool.or_eq_false_iff] at hb
                  simp [other, h10, hb.1, hb.2, h35, hd, hw]
                by_cases hs : signN (c :: t) = 0
                · rw [if_pos hs]
                  obtain ⟨σ', hst, h2⟩ := lex_signErr (call := call) (G := G) (fuel := fuel) H.digit H.letter H.sign c hoth t r0 r1 line col p0 p1 p2 p3 p4 toks (.sl 5 rows cap) hlt hs
                  exact ⟨_, σ', by rw [jumpsA_succ, hst], rfl, h2⟩
                · rw [if_neg hs]
                  obtain ⟨cap', toks', q0, q1, q2, q3, q4, hst, ho'⟩ := lex_sign (call := call) (draw := drawA call G) (G := G) (fuel := fuel) H.take H.digit H.letter H.sign c hoth t (.cells [r0, r1] (some 53)) line col p0 p1 p2 p3 p4 toks rows cap hlt hc0 (by omega) hs ho (by omega)
                  have s2 := signN_le c t
                  simp only [List.length_cons] at s2
                  exact goOn _ line _ _ cap' toks' q0 q1 q2 q3 q4 hst (by simp; omega) (by simp; omega) (by omega) (by simp; omega) (by omega) (by simp; omega) ho'
end
end Go.Pm
end

section
set_option linter.unusedSimpArgs false
set_option linter.unusedVariables false
set_option linter.unusedSectionVars false
/- The lexer as a function. -/
set_option maxRecDepth 100000
set_option linter.unusedSimpArgs false
namespace Go.Pm
section
variable {call : CallA} {draw : DrawA} {G : Globals} {fuel : Nat}

theorem lex_start (text : List UInt8) (ht : text.length ≤ 4096) :
    evalCode call draw G fuel i26_L2 none [(1, .bp 0 0), (3, .bp 1 0)] [.cells [.str text] (some 9), .cells [.int .i64 0, .int .i64 0] (some 53)] =
    evalCode call draw G fuel i26_L2 (some 0) (lexE (.sl 5 [] .exact)) (lexS text (.cells [.int .i64 0, .int .i64 0] (some 53)) 1 1 (.cells [.int .u8 0, .str [], .int .u64 0, .int .i64 0, .int .i64 0] (some 61) :: [])) := by
  have e1 : ((text.length : Int) > 4096) = False := by simp; omega
  simp only [evalFn, params, List.length_cons, List.length_nil, Nat.reduceAdd, evalCode, evalOps, guardOk, evalOp, AX.ev, look, putE, val, evs, optEv, binA, intBin, wrapI, unA, callM, keepE_cons, keepE_nil, callC, strips, stripWs, stripW, AV.flatv, flatvs, Nat.reduceEqDiff, if_true, if_false, reduceIte, Int.toNat_natCast, List.append_nil, List.nil_append, List.cons_append, decide_true, decide_false, bft, btf, btt, bff, Bool.false_eq_true, resultsA, oneOrTup, Option.map_some, Option.map_none, Bool.not_true, Bool.not_false, loadAt, storeAt, storeOf, partOf, List.getElem?_cons_zero, List.getElem?_cons_succ, List.set_cons_zero, List.set_cons_succ, AV.cells, AV.isCell, List.all_cons, List.all_nil, Bool.and_true, Bool.and_false, Bool.false_and, Bool.true_and, Bool.and_self, and_true, true_and, and_self, putAt, hasLabel, Bool.or_false, Bool.false_or, Bool.or_true, Bool.true_or, fillA, pickParts, pickSl, strBin, eqA, eqCell, ne_eq, not_true_eq_false, not_false_eq_true, Nat.reduceLeDiff, Nat.reduceLT, Nat.reduceMul, Nat.reduceSub, Nat.zero_add, Nat.add_zero, Option.bind_some, asNat, bounds2, reduceCtorEq, List.take_succ_cons, List.take_zero, List.drop_succ_cons, List.drop_zero, Nat.reduceBEq, List.take_nil, List.drop_nil, Int.reduceLE, Int.reduceLT, Int.reduceToNat, Int.toNat_zero, Int.reduceBEq, Int.le_refl, Nat.le_refl, i26_L2, lexE, lexS, e1]

theorem lex_long (text : List UInt8) (ht : 4096 < text.length) :
    ∃ σ', evalCode call (drawA call G) G fuel i26_L2 none [(1, .bp 0 0), (3, .bp 1 0)] [.cells [.str text] (some 9), .cells [.int .i64 0, .int .i64 0] (some 53)] =
    some (.ret, [(2, .sl 5 [] .exact), (3, .bp 1 0), (4, .int .i64 4)], σ') ∧ σ'[1]? = some (.cells [.int .i64 1, .int .i64 1] (some 53)) := by
  have e1 : ((text.length : Int) > 4096) = True := by simp; omega
  simp only [evalFn, params, List.length_cons, List.length_nil, Nat.reduceAdd, evalCode, evalOps, guardOk, evalOp, AX.ev, look, putE, val, evs, optEv, binA, intBin, wrapI, unA, callM, keepE_cons, keepE_nil, callC, strips, stripWs, stripW, AV.flatv, flatvs, Nat.reduceEqDiff, if_true, if_false, reduceIte, Int.toNat_natCast, List.append_nil, List.nil_append, List.cons_append, decide_true, decide_false, bft, btf, btt, bff, Bool.false_eq_true, resultsA, oneOrTup, Option.map_some, Option.map_none, Bool.not_true, Bool.not_false, loadAt, storeAt, storeOf, partOf, List.getElem?_cons_zero, List.getElem?_cons_succ, List.set_cons_zero, List.set_cons_succ, AV.cells, AV.isCell, List.all_cons, List.all_nil, Bool.and_true, Bool.and_false, Bool.false_and, Bool.true_and, Bool.and_self, and_true, true_and, and_self, putAt, hasLabel, Bool.or_false, Bool.false_or, Bool.or_true, Bool.true_or, fillA, pickParts, pickSl, strBin, eqA, eqCell, ne_eq, not_true_eq_false, not_false_eq_true, Nat.reduceLeDiff, Nat.reduceLT, Nat.reduceMul, Nat.reduceSub, Nat.zero_add, Nat.add_zero, Option.bind_some, asNat, bounds2, reduceCtorEq, List.take_succ_cons, List.take_zero, List.drop_succ_cons, List.drop_zero, Nat.reduceBEq, List.take_nil, List.drop_nil, Int.reduceLE, Int.reduceLT, Int.reduceToNat, Int.toNat_zero, Int.reduceBEq, Int.le_refl, Nat.le_refl, puress, AV.pure, strip, drawA, goD, stepG, stepD, bornD, readsD, births, AOp.births, Eff.app, pairsD, loudsD, loudD, conflict, apart, AOp.shares, List.replicate_zero, List.replicate_succ, List.getD_cons_succ, List.getD_cons_zero, List.contains_cons, List.contains_nil, Bool.not_or, Option.getD_some, Option.getD_none, Nat.reduceBNe, decide_eq_true_eq, Bool.if_false_left, i26_L2, e1]
  exact ⟨_, rfl, rfl⟩

/-- What the lexer answers. -/
def lexR (text : List UInt8) : LexR := if 4096 < text.length then .err 1 1 4 else lexF 4097 text 1 1 []

def LexR.av : LexR → AV
  | .ok l => .tup [.sl 5 l .no, .agg [.int .i64 0, .int .i64 0], .int .i64 0]
  | .err line col code => .tup [.sl 5 [] .no, .agg [.int .i64 line, .int .i64 col], .int .i64 code]

theorem jumps_first (f : Option Nat → Env → Store → Res) (n : Nat) (s : Option Nat) (env env' : Env) (σ σ' : Store) (h : f none env σ = f s env' σ') : jumpsA f (n + 1) none env σ = jumpsA f (n + 1) s env' σ' := by
  rw [jumpsA_succ, jumpsA_succ, h]

theorem lex_spec (H : LexCalls call) (text : List UInt8) (hf : 20000 ≤ fuel) :
    ∃ v σ', evalFn call (drawA call G) G fuel i26 [.str text] [] = some (.ret v, σ') ∧
      match lexR text with
      | .ok l => ∃ cap, v = .tup [.sl 5 l cap, .agg [.int .i64 0, .int .i64 0], .int .i64 0]
      | .err line col code => v = .tup [.sl 5 [] .exact, .agg [.int .i64 line, .int .i64 col], .int .i64 code] := by
  obtain ⟨fuel, rfl⟩ : ∃ f, fuel = f + 1 := ⟨fuel - 1, by omega⟩
  have body : ∃ env σ', jumpsA (evalCode call (drawA call G) G (fuel + 1) i26_L2) (fuel + 1) none [(1, .bp 0 0), (3, .bp 1 0)] [.cells [.str text] (some 9), .cells [.int .i64 0, .int .i64 0] (some 53)] = some (.ret, env, σ') ∧ LexOut (lexR text) env σ' := by
    by_cases ht : 4096 < text.length
    · obtain ⟨σ', h1, h2⟩ := lex_long (call := call) (G := G) (fuel := fuel + 1) text ht
      refine ⟨_, σ', by rw [jumpsA_succ, h1], ?_⟩
      unfold lexR; rw [if_pos ht]; exact ⟨rfl, h2⟩
    · rw [jumps_first _ _ (some 0) _ _ _ _ (lex_start text (by omega))]
      unfold lexR; rw [if_neg ht]
      exact lex_go H 4097 text 1 1 [] .exact [] (.int .i64 0) (.int .i64 0) _ _ _ _ _ (fuel + 1) (by omega) (by simp; omega) (by omega) (by omega) (by omega) (by omega) (.inl ⟨rfl, rfl⟩) (by omega)
  obtain ⟨env, σ', h1, h2⟩ := body
  generalize lexR text = R at *
  cases R with
  | ok l =>
    obtain ⟨cap, rfl, hs⟩ := h2
    refine ⟨.tup [.sl 5 l cap, .agg [.int .i64 0, .int .i64 0], .int .i64 0], σ', ?_, cap, rfl⟩
    simp only [evalFn, params, List.length_cons, List.length_nil, Nat.reduceAdd, evalCode, evalOps, guardOk, evalOp, AX.ev, look, putE, val, evs, optEv, binA, intBin, wrapI, unA, callM, keepE_cons, keepE_nil, callC, strips, stripWs, stripW, AV.flatv, flatvs, Nat.reduceEqDiff, if_true, if_false, reduceIte, Int.toNat_natCast, List.append_nil, List.nil_append, List.cons_append, decide_true, decide_false, bft, btf, btt, bff, Bool.false_eq_true, resultsA, oneOrTup, Option.map_some, Option.map_none, Bool.not_true, Bool.not_false, loadAt, storeAt, storeOf, partOf, List.getElem?_cons_zero, List.getElem?_cons_succ, List.set_cons_zero, List.set_cons_succ, AV.cells, AV.isCell, List.all_cons, List.all_nil, Bool.and_true, Bool.and_false, Bool.false_and, Bool.true_and, Bool.and_self, and_true, true_and, and_self, putAt, hasLabel, Bool.or_false, Bool.false_or, Bool.or_true, Bool.true_or, fillA, pickParts, pickSl, strBin, eqA, eqCell, ne_eq, not_true_eq_false, not_false_eq_true, Nat.reduceLeDiff, Nat.reduceLT, Nat.reduceMul, Nat.reduceSub, Nat.zero_add, Nat.add_zero, Option.bind_some, asNat, bounds2, reduceCtorEq, List.take_succ_cons, List.take_zero, List.drop_succ_cons, List.drop_zero, Nat.reduceBEq, List.take_nil, List.drop_nil, Int.reduceLE, Int.reduceLT, Int.reduceToNat, Int.toNat_zero, Int.reduceBEq, Int.le_refl, Nat.le_refl, i26, h1, hs]
  | err line col code =>
    obtain ⟨rfl, hs⟩ := h2
    refine ⟨_, σ', ?_, rfl⟩
    simp only [evalFn, params, List.length_cons, List.length_nil, Nat.reduceAdd, evalCode, evalOps, guardOk, evalOp, AX.ev, look, putE, val, evs, optEv, binA, intBin, wrapI, unA, callM, keepE_cons, keepE_nil, callC, strips, stripWs, stripW, AV.flatv, flatvs, Nat.reduceEqDiff, if_true, if_false, reduceIte, Int.toNat_natCast, List.append_nil, List.nil_append, List.cons_append, decide_true, decide_false, bft, btf, btt, bff, Bool.false_eq_true, resultsA, oneOrTup, Option.map_some, Option.map_none, Bool.not_true, Bool.not_false, loadAt, storeAt, storeOf, partOf, List.getElem?_cons_zero, List.getElem?_cons_succ, List.set_cons_zero, List.set_cons_succ, AV.cells, AV.isCell, List.all_cons, List.all_nil, Bool.and_true, Bool.and_false, Bool.false_and, Bool.true_and, Bool.and_self, and_true, true_and, and_self, putAt, hasLabel, Bool.or_false, Bool.false_or, Bool.or_true, Bool.true_or, fillA, pickParts, pickSl, strBin, eqA, eqCell, ne_eq, not_true_eq_false, not_false_eq_true, Nat.reduceLeDiff, Nat.reduceLT, Nat.reduceMul, Nat.reduceSub, Nat.zero_add, Nat.add_zero, Option.bind_some, asNat, bounds2, reduceCtorEq, List.take_succ_cons, List.take_zero, List.drop_succ_cons, List.drop_zero, Nat.reduceBEq, List.take_nil, List.drop_nil, Int.reduceLE, Int.reduceLT, Int.reduceToNat, Int.toNat_zero, Int.reduceBEq, Int.le_refl, Nat.le_refl, i26, h1, hs]
end
end Go.Pm
end

section
set_option linter.unusedSimpArgs false
set_option linter.unusedVariables false
set_option linter.unusedSectionVars false
/- LexLimits: its loop, its answer. -/
set_option maxRecDepth 100000
set_option linter.unusedSimpArgs false
namespace Go.Pm
section
variable {call : CallA} {draw : DrawA} {G : Globals} {fuel : Nat}

mutual
theorem stripW_flat (f : Nat → Option (List AV)) : ∀ v : AV, v.flatv = true → stripW f v = some v
  | .bool _, _ | .int .., _ | .str _, _ | .flt .., _ | .cplx .., _ | .nilp, _ | .nilm, _ | .nilf, _ | .nili, _ => rfl
  | .agg cs, h => by simp only [stripW]; rw [stripWs_flat f cs (by simpa [AV.flatv] using h)]
  | .tup cs, h => by simp only [stripW]; rw [stripWs_flat f cs (by simpa [AV.flatv] using h)]
  | .iface t v, h => by simp only [stripW]; rw [stripW_flat f v (by simpa [AV.flatv] using h)]
  | .ip .., h | .bp .., h | .sl .., h | .bs .., h | .map _, h | .fn .., h => by simp [AV.flatv] at h
theorem stripWs_flat (f : Nat → Option (List AV)) : ∀ v : List AV, flatvs v = true → stripWs f v = some v
  | [], _ => rfl
  | v :: r, h => by
    simp only [flatvs, Bool.and_eq_true] at h
    simp only [stripWs]
    rw [stripW_flat f v h.1, stripWs_flat f r h.2]
end

theorem flatvs_append : ∀ (a b : List AV), flatvs (a ++ b) = (flatvs a && flatvs b)
  | [], b => by simp [flatvs]
  | v :: a, b => by simp [flatvs, flatvs_append a b, Bool.and_assoc]

theorem lexF_flat : ∀ (n : Nat) (text : List UInt8) (line col : Int) (acc : List AV), flatvs acc = true → ∀ l, lexF n text line col acc = .ok l → flatvs l = true
  | 0, _, _, _, _, _, l, h => by simp [lexF] at h
  | n + 1, [], line, col, acc, ha, l, h => by
    simp only [lexF, LexR.ok.injEq] at h; subst h
    rw [flatvs_append, ha]; rfl
  | n + 1, c :: t, line, col, acc, ha, l, h => by
    have hp : ∀ k tx nn, flatvs (acc ++ [pieceA k tx nn line col]) = true := fun k tx nn => by rw [flatvs_append, ha]; rfl
    simp only [lexF] at h
    repeat' split at h
    all_goals first
      | (cases h; done)
      | exact lexF_flat n _ _ _ _ ha l h
      | exact lexF_flat n _ _ _ _ (hp _ _ _) l h

/-- What a caller of the lexer sees. -/
def Lexes (call : CallA) : Prop := ∀ (text : List UInt8) (σ : Store), callC call 26 [.str text] σ = some (.ret (lexR text).av, σ)

theorem lexes_of (h : ∀ text : List UInt8, ∃ v σ', call 26 [.str text] [] = some (.ret v, σ') ∧
      match lexR text with
      | .ok l => ∃ cap, v = .tup [.sl 5 l cap, .agg [.int .i64 0, .int .i64 0], .int .i64 0]
      | .err line col code => v = .tup [.sl 5 [] .exact, .agg [.int .i64 line, .int .i64 col], .int .i64 code]) : Lexes call := by
  intro text σ
  obtain ⟨v, σ', h1, h2⟩ := h text
  cases hR : lexR text with
  | ok l =>
    rw [hR] at h2
    obtain ⟨cap, rfl⟩ := h2
    have hl : flatvs l = true := by
      unfold lexR at hR
      split at hR
      · cases hR
      · exact lexF_flat _ _ _ _ _ rfl l hR
    simp only [callC, strips, stripWs, stripW, h1, AV.flatv, flatvs, Bool.false_and, puress, AV.pure, strip, stripWs_flat _ l hl, LexR.av]
    rfl
  | err line col code =>
    rw [hR] at h2
    subst h2
    simp only [callC, strips, stripWs, stripW, h1, AV.flatv, flatvs, Bool.false_and, puress, AV.pure, strip, LexR.av]
    rfl

theorem lexF_spaces : ∀ (k n : Nat) (line col : Int) (acc : List AV), k < n → lexF n (List.replicate k 32) line col acc = .ok (acc ++ [pieceA 0 [] 0 line (col + k)])
  | 0, n + 1, line, col, acc, _ => by simp [lexF]
  | k + 1, n + 1, line, col, acc, h => by
    rw [List.replicate_succ, lexF]
    rw [if_neg (by decide), if_pos (by decide), lexF_spaces k n line (col + 1) acc (by omega)]
    congr 4
    omega

theorem lim_on (b0 b1 b2 : AObj) (c1 c3 c6 : AV) (a z : List AV) (x : AV) (e : Option TypeId) (n m : Nat) (ha : a.length = n) (hm : n < m) (hm2 : m ≤ 4096) (hz : n + 1 + z.length = m) :
    evalCode call draw G fuel i7_L0 none [(1, c1), (3, c3), (5, .bp 1 0), (6, c6), (8, .bs 1 3 0 m), (9, .int .i64 n)] [b0, b1, b2, .cells (a ++ x :: z) e] =
      some (.normal, [(1, c1), (3, c3), (5, .bp 1 0), (6, c6), (8, .bs 1 3 0 m), (9, .int .i64 (n + 1 : Nat))], [b0, b1, b2, .cells ((a ++ [.int .u8 32]) ++ z) e]) := by
  have e1 : ((n : Int) < (m : Int)) = True := by simp; omega
  have e2 : (0 ≤ (n : Int)) = True := by simp
  have e3 : IntKind.i64.wrap ((n : Int) + 1) = ((n + 1 : Nat) : Int) := by rw [wrap_i64] <;> omega
  have e4 : (n + 1 ≤ (a ++ x :: z).length) = True := by simp; omega
  have e5 : putAt (a ++ x :: z) n [AV.int .u8 32] = a ++ AV.int .u8 32 :: z := by
    subst ha
    clear hm hz hm2 e1 e2 e3 e4
    induction a with
    | nil => cases z <;> rfl
    | cons y a ih => simp only [List.cons_append, List.length_cons, putAt, ih]
  simp only [evalFn, params, List.length_cons, List.length_nil, Nat.reduceAdd, evalCode, evalOps, guardOk, evalOp, AX.ev, look, putE, val, evs, optEv, binA, intBin, wrapI, unA, callM, keepE_cons, keepE_nil, callC, strips, stripWs, stripW, AV.flatv, flatvs, Nat.reduceEqDiff, if_true, if_false, reduceIte, Int.toNat_natCast, List.append_nil, List.nil_append, List.cons_append, decide_true, decide_false, bft, btf, btt, bff, Bool.false_eq_true, resultsA, oneOrTup, Option.map_some, Option.map_none, Bool.not_true, Bool.not_false, loadAt, storeAt, storeOf, partOf, List.getElem?_cons_zero, List.getElem?_cons_succ, List.set_cons_zero, List.set_cons_succ, AV.cells, AV.isCell, List.all_cons, List.all_nil, Bool.and_true, Bool.and_false, Bool.false_and, Bool.true_and, Bool.and_self, and_true, true_and, and_self, putAt, hasLabel, Bool.or_false, Bool.false_or, Bool.or_true, Bool.true_or, fillA, pickParts, pickSl, strBin, eqA, eqCell, ne_eq, not_true_eq_false, not_false_eq_true, Nat.reduceLeDiff, Nat.reduceLT, Nat.reduceMul, Nat.reduceSub, Nat.zero_add, Nat.add_zero, Option.bind_some, asNat, bounds2, reduceCtorEq, List.take_succ_cons, List.take_zero, List.drop_succ_cons, List.drop_zero, Nat.reduceBEq, List.take_nil, List.drop_nil, Int.reduceLE, Int.reduceLT, Int.reduceToNat, Int.toNat_zero, Int.reduceBEq, Int.le_refl, Nat.le_refl, i7_L0, e1, e2, e3, e4, e5, Nat.mul_one, List.append_assoc]

theorem lim_off (b0 b1 b2 b3 : AObj) (c1 c3 c6 : AV) (m : Nat) :
    evalCode call draw G fuel i7_L0 none [(1, c1), (3, c3), (5, .bp 1 0), (6, c6), (8, .bs 1 3 0 m), (9, .int .i64 m)] [b0, b1, b2, b3] =
      some (.exit 0, [(1, c1), (3, c3), (5, .bp 1 0), (6, c6), (8, .bs 1 3 0 m), (9, .int .i64 m), (33, .bool false)], [b0, b1, b2, b3]) := by
  have e1 : ((m : Int) < (m : Int)) = False := by simp
  simp only [evalFn, params, List.length_cons, List.length_nil, Nat.reduceAdd, evalCode, evalOps, guardOk, evalOp, AX.ev, look, putE, val, evs, optEv, binA, intBin, wrapI, unA, callM, keepE_cons, keepE_nil, callC, strips, stripWs, stripW, AV.flatv, flatvs, Nat.reduceEqDiff, if_true, if_false, reduceIte, Int.toNat_natCast, List.append_nil, List.nil_append, List.cons_append, decide_true, decide_false, bft, btf, btt, bff, Bool.false_eq_true, resultsA, oneOrTup, Option.map_some, Option.map_none, Bool.not_true, Bool.not_false, loadAt, storeAt, storeOf, partOf, List.getElem?_cons_zero, List.getElem?_cons_succ, List.set_cons_zero, List.set_cons_succ, AV.cells, AV.isCell, List.all_cons, List.all_nil, Bool.and_true, Bool.and_false, Bool.false_and, Bool.true_and, Bool.and_self, and_true, true_and, and_self, putAt, hasLabel, Bool.or_false, Bool.false_or, Bool.or_true, Bool.true_or, fillA, pickParts, pickSl, strBin, eqA, eqCell, ne_eq, not_true_eq_false, not_false_eq_true, Nat.reduceLeDiff, Nat.reduceLT, Nat.reduceMul, Nat.reduceSub, Nat.zero_add, Nat.add_zero, Option.bind_some, asNat, bounds2, reduceCtorEq, List.take_succ_cons, List.take_zero, List.drop_succ_cons, List.drop_zero, Nat.reduceBEq, List.take_nil, List.drop_nil, Int.reduceLE, Int.reduceLT, Int.reduceToNat, Int.toNat_zero, Int.reduceBEq, Int.le_refl, Nat.le_refl, i7_L0, e1]

theorem lim_loop (b0 b1 b2 : AObj) (c1 c3 c6 : AV) (e : Option TypeId) (m : Nat) (hm2 : m ≤ 4096) : ∀ (k n : Nat) (a z : List AV) (f : Nat), a.length = n → z.length = k → n + k = m → k < f →
    iterA (evalCode call draw G fuel i7_L0 none) [1, 3, 5, 6, 8, 9] f [(1, c1), (3, c3), (5, .bp 1 0), (6, c6), (8, .bs 1 3 0 m), (9, .int .i64 n)] [b0, b1, b2, .cells (a ++ z) e] =
      some (.exit 0, [(1, c1), (3, c3), (5, .bp 1 0), (6, c6), (8, .bs 1 3 0 m), (9, .int .i64 m), (33, .bool false)], [b0, b1, b2, .cells (a ++ List.replicate k (.int .u8 32)) e]) := by
  intro k
  induction k with
  | zero =>
    intro n a z f ha hz hn hf
    obtain ⟨f, rfl⟩ : ∃ f', f = f' + 1 := ⟨f - 1, by omega⟩
    obtain rfl : z = [] := List.eq_nil_of_length_eq_zero hz
    obtain rfl : n = m := by omega
    have h1 := lim_off (call := call) (draw := draw) (G := G) (fuel := fuel) b0 b1 b2 (.cells (a ++ []) e) c1 c3 c6 n
    exact iterA_out (by simpa only [keepE_cons, keepE_nil, look, Nat.reduceEqDiff, if_true, if_false, reduceIte, List.replicate_zero] using h1) (by simp)
  | succ k ih =>
    intro n a z f ha hz hn hf
    obtain ⟨f, rfl⟩ : ∃ f', f = f' + 1 := ⟨f - 1, by omega⟩
    cases z with
    | nil => simp at hz
    | cons x z =>
      simp only [List.length_cons] at hz
      have h1 := lim_on (call := call) (draw := draw) (G := G) (fuel := fuel) b0 b1 b2 c1 c3 c6 a z x e n m ha (by omega) hm2 (by omega)
      rw [iterA_normal (by simpa only [keepE_cons, keepE_nil, look, Nat.reduceEqDiff, if_true, if_false, reduceIte] using h1)]
      rw [ih (n + 1) (a ++ [AV.int .u8 32]) z f (by simp [ha]) (by omega) (by omega) (by omega)]
      rw [List.append_assoc, List.singleton_append, ← List.replicate_succ]

def spaces : List UInt8 := List.replicate 4096 32
def zeroRow : List AV := List.replicate 4096 (.int .u8 0)
def spaceRow : List AV := List.replicate 4096 (.int .u8 32)

theorem bytesOf_rep (b : UInt8) : ∀ n, bytesOf (List.replicate n (.int .u8 b.toNat)) = some (List.replicate n b)
  | 0 => rfl
  | n + 1 => by
    rw [List.replicate_succ, bytesOf, bytesOf_rep b n, List.replicate_succ]
    simp

theorem lim_spec (hL : Lexes call) (hw : ∀ σ, callC call 25 [] σ = some (.ret (.bool true), σ)) (hf : 5000 < fuel) :
    ∃ σ', evalFn call draw G fuel i7 [] [] = some (.ret (.bool true), σ') := by
  have r1 : lexR [49, 56, 52, 52, 54, 55, 52, 52, 48, 55, 51, 55, 48, 57, 53, 53, 49, 54, 49, 53] = .ok [pieceA 1 [49, 56, 52, 52, 54, 55, 52, 52, 48, 55, 51, 55, 48, 57, 53, 53, 49, 54, 49, 53] 18446744073709551615 1 1, pieceA 0 [] 0 1 21] := by rfl
  have r2 : lexR [97, 32, 49, 56, 52, 52, 54, 55, 52, 52, 48, 55, 51, 55, 48, 57, 53, 53, 49, 54, 49, 54] = .err 1 3 4 := by rfl
  have r3 : lexR spaces = .ok [pieceA 0 [] 0 1 4097] := by
    unfold lexR spaces
    rw [if_neg (by simp), lexF_spaces 4096 4097 1 1 [] (by omega)]
    rfl
  have r4 : lexR (spaces ++ [32]) = .err 1 1 4 := by
    unfold lexR spaces
    rw [if_pos (by simp)]
  have z1 : (List.replicate 4096 [AV.int .u8 0]).flatten = zeroRow := by
    unfold zeroRow
    have : ∀ n, (List.replicate n [AV.int .u8 0]).flatten = List.replicate n (.int .u8 0) := by
      intro n; induction n with
      | zero => rfl
      | succ n ih => rw [List.replicate_succ, List.flatten_cons, ih, List.replicate_succ]; rfl
    exact this 4096
  have z2 : bytesOf zeroRow = some (List.replicate 4096 0) := bytesOf_rep 0 4096
  have z3 : zeroRow.length = 4096 := by unfold zeroRow; simp
  have z4 : zeroRow.all AV.isCell = true := by unfold zeroRow; rw [List.all_replicate]; simp [AV.isCell]
  have z5 : zeroRow.take 4096 = zeroRow := List.take_of_length_le (by rw [z3]; exact Nat.le_refl _)
  have z6 : (List.replicate 4096 (0 : UInt8)).map (fun b => AV.int .u8 (b.toNat : Int)) = zeroRow := by rw [List.map_replicate]; rfl
  have z7 : (List.replicate 4096 (0 : UInt8)).length = 4096 := by simp
  have p2 : bytesOf spaceRow = some spaces := bytesOf_rep 32 4096
  have p3 : spaceRow.length = 4096 := by unfold spaceRow; simp
  have p4 : spaceRow.all AV.isCell = true := by unfold spaceRow; rw [List.all_replicate]; simp [AV.isCell]
  have p5 : spaceRow.take 4096 = spaceRow := List.take_of_length_le (by rw [p3]; exact Nat.le_refl _)
  have p6 : spaces.length = 4096 := by unfold spaces; simp
  have loop := fun b0 b1 b2 c1 c3 c6 e => lim_loop (call := call) (draw := draw) (G := G) (fuel := fuel) b0 b1 b2 c1 c3 c6 e 4096 (by omega) 4096 0 [] zeroRow fuel rfl z3 rfl (by omega)
  simp only [List.nil_append, Int.ofNat_zero] at loop
  have loop' : ∀ b0 b1 b2 c1 c3 c6 e, iterA (evalCode call draw G fuel i7_L0 none) [1, 3, 5, 6, 8, 9] fuel [(1, c1), (3, c3), (5, .bp 1 0), (6, c6), (8, .bs 1 3 0 4096), (9, .int .i64 0)] [b0, b1, b2, .cells zeroRow e] =
      some (.exit 0, [(1, c1), (3, c3), (5, .bp 1 0), (6, c6), (8, .bs 1 3 0 4096), (9, .int .i64 4096), (33, .bool false)], [b0, b1, b2, .cells spaceRow e]) := loop
  clear loop
  have l1 := fun σ => hL [49, 56, 52, 52, 54, 55, 52, 52, 48, 55, 51, 55, 48, 57, 53, 53, 49, 54, 49, 53] σ
  have l2 := fun σ => hL [97, 32, 49, 56, 52, 52, 54, 55, 52, 52, 48, 55, 51, 55, 48, 57, 53, 53, 49, 54, 49, 54] σ
  have l3 := fun σ => hL spaces σ
  have l4 := fun σ => hL (spaces ++ [32]) σ
  rw [r1] at l1; rw [r2] at l2; rw [r3] at l3; rw [r4] at l4
  simp only [LexR.av, pieceA] at l1 l2 l3 l4
  clear r1 r2 r3 r4 hL
  generalize spaces = S at *
  generalize zeroRow = Z at *
  generalize spaceRow = T at *
  have q1 : ((4096 : Int).toNat * 1 ≤ 281474976710656) = True := by simp
  have q2 : ((4096 : Int) ≤ 9223372036854775807) = True := by simp
  have q3 : (S.length + 1 ≤ 9223372036854775807) = True := by rw [p6]; simp
  have key : Ends call draw G fuel i7.body [] [] fun e env _ => e = .ret ∧ look env 0 = some (.bool true) := by
    unfold i7
    refine Ends.seq (by simp only [evalFn, params, List.length_cons, List.length_nil, Nat.reduceAdd, evalCode, evalOps, guardOk, evalOp, AX.ev, look, putE, val, evs, optEv, binA, intBin, wrapI, unA, callM, keepE_cons, keepE_nil, Nat.reduceEqDiff, if_true, if_false, reduceIte, Int.toNat_natCast, List.append_nil, List.nil_append, List.cons_append, decide_true, decide_false, bft, btf, btt, bff, Bool.false_eq_true, resultsA, oneOrTup, Option.map_some, Option.map_none, Bool.not_true, Bool.not_false, loadAt, storeAt, storeOf, partOf, List.getElem?_cons_zero, List.getElem?_cons_succ, List.set_cons_zero, List.set_cons_succ, AV.cells, AV.isCell, List.all_cons, List.all_nil, Bool.and_true, Bool.and_false, Bool.false_and, Bool.true_and, Bool.and_self, and_true, true_and, and_self, putAt, hasLabel, Bool.or_false, Bool.false_or, Bool.or_true, Bool.true_or, fillA, pickParts, pickSl, strBin, eqA, eqCell, ne_eq, not_true_eq_false, not_false_eq_true, Nat.reduceLeDiff, Nat.reduceLT, Nat.reduceMul, Nat.reduceSub, Nat.zero_add, Nat.add_zero, Option.bind_some, asNat, bounds2, reduceCtorEq, List.take_succ_cons, List.take_zero, List.drop_succ_cons, List.drop_zero, Nat.reduceBEq, List.take_nil, List.drop_nil, Int.reduceLE, Int.reduceLT, Int.reduceToNat, Int.toNat_zero, Int.reduceBEq, Int.le_refl, Nat.le_refl, b2s, srcRow, binA]; rfl) ?_
    refine Ends.seq (by simp only [evalFn, params, List.length_cons, List.length_nil, Nat.reduceAdd, evalCode, evalOps, guardOk, evalOp, AX.ev, look, putE, val, evs, optEv, binA, intBin, wrapI, unA, callM, keepE_cons, keepE_nil, Nat.reduceEqDiff, if_true, if_false, reduceIte, Int.toNat_natCast, List.append_nil, List.nil_append, List.cons_append, decide_true, decide_false, bft, btf, btt, bff, Bool.false_eq_true, resultsA, oneOrTup, Option.map_some, Option.map_none, Bool.not_true, Bool.not_false, loadAt, storeAt, storeOf, partOf, List.getElem?_cons_zero, List.getElem?_cons_succ, List.set_cons_zero, List.set_cons_succ, AV.cells, AV.isCell, List.all_cons, List.all_nil, Bool.and_true, Bool.and_false, Bool.false_and, Bool.true_and, Bool.and_self, and_true, true_and, and_self, putAt, hasLabel, Bool.or_false, Bool.false_or, Bool.or_true, Bool.true_or, fillA, pickParts, pickSl, strBin, eqA, eqCell, ne_eq, not_true_eq_false, not_false_eq_true, Nat.reduceLeDiff, Nat.reduceLT, Nat.reduceMul, Nat.reduceSub, Nat.zero_add, Nat.add_zero, Option.bind_some, asNat, bounds2, reduceCtorEq, List.take_succ_cons, List.take_zero, List.drop_succ_cons, List.drop_zero, Nat.reduceBEq, List.take_nil, List.drop_nil, Int.reduceLE, Int.reduceLT, Int.reduceToNat, Int.toNat_zero, Int.reduceBEq, Int.le_refl, Nat.le_refl, b2s, srcRow, binA, l1]; rfl) ?_
    refine Ends.seq (by simp only [evalFn, params, List.length_cons, List.length_nil, Nat.reduceAdd, evalCode, evalOps, guardOk, evalOp, AX.ev, look, putE, val, evs, optEv, binA, intBin, wrapI, unA, callM, keepE_cons, keepE_nil, Nat.reduceEqDiff, if_true, if_false, reduceIte, Int.toNat_natCast, List.append_nil, List.nil_append, List.cons_append, decide_true, decide_false, bft, btf, btt, bff, Bool.false_eq_true, resultsA, oneOrTup, Option.map_some, Option.map_none, Bool.not_true, Bool.not_false, loadAt, storeAt, storeOf, partOf, List.getElem?_cons_zero, List.getElem?_cons_succ, List.set_cons_zero, List.set_cons_succ, AV.cells, AV.isCell, List.all_cons, List.all_nil, Bool.and_true, Bool.and_false, Bool.false_and, Bool.true_and, Bool.and_self, and_true, true_and, and_self, putAt, hasLabel, Bool.or_false, Bool.false_or, Bool.or_true, Bool.true_or, fillA, pickParts, pickSl, strBin, eqA, eqCell, ne_eq, not_true_eq_false, not_false_eq_true, Nat.reduceLeDiff, Nat.reduceLT, Nat.reduceMul, Nat.reduceSub, Nat.zero_add, Nat.add_zero, Option.bind_some, asNat, bounds2, reduceCtorEq, List.take_succ_cons, List.take_zero, List.drop_succ_cons, List.drop_zero, Nat.reduceBEq, List.take_nil, List.drop_nil, Int.reduceLE, Int.reduceLT, Int.reduceToNat, Int.toNat_zero, Int.reduceBEq, Int.le_refl, Nat.le_refl, b2s, srcRow, binA, l2]; rfl) ?_
    refine Ends.seq (by simp only [evalFn, params, List.length_cons, List.length_nil, Nat.reduceAdd, evalCode, evalOps, guardOk, evalOp, AX.ev, look, putE, val, evs, optEv, binA, intBin, wrapI, unA, callM, keepE_cons, keepE_nil, Nat.reduceEqDiff, if_true, if_false, reduceIte, Int.toNat_natCast, List.append_nil, List.nil_append, List.cons_append, decide_true, decide_false, bft, btf, btt, bff, Bool.false_eq_true, resultsA, oneOrTup, Option.map_some, Option.map_none, Bool.not_true, Bool.not_false, loadAt, storeAt, storeOf, partOf, List.getElem?_cons_zero, List.getElem?_cons_succ, List.set_cons_zero, List.set_cons_succ, AV.cells, AV.isCell, List.all_cons, List.all_nil, Bool.and_true, Bool.and_false, Bool.false_and, Bool.true_and, Bool.and_self, and_true, true_and, and_self, putAt, hasLabel, Bool.or_false, Bool.false_or, Bool.or_true, Bool.true_or, fillA, pickParts, pickSl, strBin, eqA, eqCell, ne_eq, not_true_eq_false, not_false_eq_true, Nat.reduceLeDiff, Nat.reduceLT, Nat.reduceMul, Nat.reduceSub, Nat.zero_add, Nat.add_zero, Option.bind_some, asNat, bounds2, reduceCtorEq, List.take_succ_cons, List.take_zero, List.drop_succ_cons, List.drop_zero, Nat.reduceBEq, List.take_nil, List.drop_nil, Int.reduceLE, Int.reduceLT, Int.reduceToNat, Int.toNat_zero, Int.reduceBEq, Int.le_refl, Nat.le_refl, b2s, srcRow, binA, z1, z2, z3, z4, z5, z6, z7, q1, q2]; rfl) ?_
    refine Ends.seq (by simp only [evalFn, params, List.length_cons, List.length_nil, Nat.reduceAdd, evalCode, evalOps, guardOk, evalOp, AX.ev, look, putE, val, evs, optEv, binA, intBin, wrapI, unA, callM, keepE_cons, keepE_nil, Nat.reduceEqDiff, if_true, if_false, reduceIte, Int.toNat_natCast, List.append_nil, List.nil_append, List.cons_append, decide_true, decide_false, bft, btf, btt, bff, Bool.false_eq_true, resultsA, oneOrTup, Option.map_some, Option.map_none, Bool.not_true, Bool.not_false, loadAt, storeAt, storeOf, partOf, List.getElem?_cons_zero, List.getElem?_cons_succ, List.set_cons_zero, List.set_cons_succ, AV.cells, AV.isCell, List.all_cons, List.all_nil, Bool.and_true, Bool.and_false, Bool.false_and, Bool.true_and, Bool.and_self, and_true, true_and, and_self, putAt, hasLabel, Bool.or_false, Bool.false_or, Bool.or_true, Bool.true_or, fillA, pickParts, pickSl, strBin, eqA, eqCell, ne_eq, not_true_eq_false, not_false_eq_true, Nat.reduceLeDiff, Nat.reduceLT, Nat.reduceMul, Nat.reduceSub, Nat.zero_add, Nat.add_zero, Option.bind_some, asNat, bounds2, reduceCtorEq, List.take_succ_cons, List.take_zero, List.drop_succ_cons, List.drop_zero, Nat.reduceBEq, List.take_nil, List.drop_nil, Int.reduceLE, Int.reduceLT, Int.reduceToNat, Int.toNat_zero, Int.reduceBEq, Int.le_refl, Nat.le_refl, b2s, srcRow, binA, z1, z2, z3, z4, z5, z6, z7, q1, q2]; rfl) ?_
    refine Ends.seq (by simp only [evalFn, params, List.length_cons, List.length_nil, Nat.reduceAdd, evalCode, evalOps, guardOk, evalOp, AX.ev, look, putE, val, evs, optEv, binA, intBin, wrapI, unA, callM, keepE_cons, keepE_nil, Nat.reduceEqDiff, if_true, if_false, reduceIte, Int.toNat_natCast, List.append_nil, List.nil_append, List.cons_append, decide_true, decide_false, bft, btf, btt, bff, Bool.false_eq_true, resultsA, oneOrTup, Option.map_some, Option.map_none, Bool.not_true, Bool.not_false, loadAt, storeAt, storeOf, partOf, List.getElem?_cons_zero, List.getElem?_cons_succ, List.set_cons_zero, List.set_cons_succ, AV.cells, AV.isCell, List.all_cons, List.all_nil, Bool.and_true, Bool.and_false, Bool.false_and, Bool.true_and, Bool.and_self, and_true, true_and, and_self, putAt, hasLabel, Bool.or_false, Bool.false_or, Bool.or_true, Bool.true_or, fillA, pickParts, pickSl, strBin, eqA, eqCell, ne_eq, not_true_eq_false, not_false_eq_true, Nat.reduceLeDiff, Nat.reduceLT, Nat.reduceMul, Nat.reduceSub, Nat.zero_add, Nat.add_zero, Option.bind_some, asNat, bounds2, reduceCtorEq, List.take_succ_cons, List.take_zero, List.drop_succ_cons, List.drop_zero, Nat.reduceBEq, List.take_nil, List.drop_nil, Int.reduceLE, Int.reduceLT, Int.reduceToNat, Int.toNat_zero, Int.reduceBEq, Int.le_refl, Nat.le_refl, b2s, srcRow, binA, loop']; rfl) ?_
    refine Ends.seq (by simp only [evalFn, params, List.length_cons, List.length_nil, Nat.reduceAdd, evalCode, evalOps, guardOk, evalOp, AX.ev, look, putE, val, evs, optEv, binA, intBin, wrapI, unA, callM, keepE_cons, keepE_nil, Nat.reduceEqDiff, if_true, if_false, reduceIte, Int.toNat_natCast, List.append_nil, List.nil_append, List.cons_append, decide_true, decide_false, bft, btf, btt, bff, Bool.false_eq_true, resultsA, oneOrTup, Option.map_some, Option.map_none, Bool.not_true, Bool.not_false, loadAt, storeAt, storeOf, partOf, List.getElem?_cons_zero, List.getElem?_cons_succ, List.set_cons_zero, List.set_cons_succ, AV.cells, AV.isCell, List.all_cons, List.all_nil, Bool.and_true, Bool.and_false, Bool.false_and, Bool.true_and, Bool.and_self, and_true, true_and, and_self, putAt, hasLabel, Bool.or_false, Bool.false_or, Bool.or_true, Bool.true_or, fillA, pickParts, pickSl, strBin, eqA, eqCell, ne_eq, not_true_eq_false, not_false_eq_true, Nat.reduceLeDiff, Nat.reduceLT, Nat.reduceMul, Nat.reduceSub, Nat.zero_add, Nat.add_zero, Option.bind_some, asNat, bounds2, reduceCtorEq, List.take_succ_cons, List.take_zero, List.drop_succ_cons, List.drop_zero, Nat.reduceBEq, List.take_nil, List.drop_nil, Int.reduceLE, Int.reduceLT, Int.reduceToNat, Int.toNat_zero, Int.reduceBEq, Int.le_refl, Nat.le_refl, b2s, srcRow, binA, p2, p3, p4, p5, p6, l3, Nat.mul_one]; rfl) ?_
    refine Ends.seq (by simp only [evalFn, params, List.length_cons, List.length_nil, Nat.reduceAdd, evalCode, evalOps, guardOk, evalOp, AX.ev, look, putE, val, evs, optEv, binA, intBin, wrapI, unA, callM, keepE_cons, keepE_nil, Nat.reduceEqDiff, if_true, if_false, reduceIte, Int.toNat_natCast, List.append_nil, List.nil_append, List.cons_append, decide_true, decide_false, bft, btf, btt, bff, Bool.false_eq_true, resultsA, oneOrTup, Option.map_some, Option.map_none, Bool.not_true, Bool.not_false, loadAt, storeAt, storeOf, partOf, List.getElem?_cons_zero, List.getElem?_cons_succ, List.set_cons_zero, List.set_cons_succ, AV.cells, AV.isCell, List.all_cons, List.all_nil, Bool.and_true, Bool.and_false, Bool.false_and, Bool.true_and, Bool.and_self, and_true, true_and, and_self, putAt, hasLabel, Bool.or_false, Bool.false_or, Bool.or_true, Bool.true_or, fillA, pickParts, pickSl, strBin, eqA, eqCell, ne_eq, not_true_eq_false, not_false_eq_true, Nat.reduceLeDiff, Nat.reduceLT, Nat.reduceMul, Nat.reduceSub, Nat.zero_add, Nat.add_zero, Option.bind_some, asNat, bounds2, reduceCtorEq, List.take_succ_cons, List.take_zero, List.drop_succ_cons, List.drop_zero, Nat.reduceBEq, List.take_nil, List.drop_nil, Int.reduceLE, Int.reduceLT, Int.reduceToNat, Int.toNat_zero, Int.reduceBEq, Int.le_refl, Nat.le_refl, b2s, srcRow, binA, p2, p3, p4, p5, p6, l4, q3, Nat.mul_one]; rfl) ?_
    refine Ends.seq (by simp only [evalFn, params, List.length_cons, List.length_nil, Nat.reduceAdd, evalCode, evalOps, guardOk, evalOp, AX.ev, look, putE, val, evs, optEv, binA, intBin, wrapI, unA, callM, keepE_cons, keepE_nil, Nat.reduceEqDiff, if_true, if_false, reduceIte, Int.toNat_natCast, List.append_nil, List.nil_append, List.cons_append, decide_true, decide_false, bft, btf, btt, bff, Bool.false_eq_true, resultsA, oneOrTup, Option.map_some, Option.map_none, Bool.not_true, Bool.not_false, loadAt, storeAt, storeOf, partOf, List.getElem?_cons_zero, List.getElem?_cons_succ, List.set_cons_zero, List.set_cons_succ, AV.cells, AV.isCell, List.all_cons, List.all_nil, Bool.and_true, Bool.and_false, Bool.false_and, Bool.true_and, Bool.and_self, and_true, true_and, and_self, putAt, hasLabel, Bool.or_false, Bool.false_or, Bool.or_true, Bool.true_or, fillA, pickParts, pickSl, strBin, eqA, eqCell, ne_eq, not_true_eq_false, not_false_eq_true, Nat.reduceLeDiff, Nat.reduceLT, Nat.reduceMul, Nat.reduceSub, Nat.zero_add, Nat.add_zero, Option.bind_some, asNat, bounds2, reduceCtorEq, List.take_succ_cons, List.take_zero, List.drop_succ_cons, List.drop_zero, Nat.reduceBEq, List.take_nil, List.drop_nil, Int.reduceLE, Int.reduceLT, Int.reduceToNat, Int.toNat_zero, Int.reduceBEq, Int.le_refl, Nat.le_refl, b2s, srcRow, binA, hw, eqFields, Int.cast_ofNat_Int, Int.natCast_one, Int.natCast_zero, Int.reduceLT, List.length_singleton, beq_self_eq_true, and_true, true_and]; rfl) ?_
    exact Ends.done (by simp only [evalFn, params, List.length_cons, List.length_nil, Nat.reduceAdd, evalCode, evalOps, guardOk, evalOp, AX.ev, look, putE, val, evs, optEv, binA, intBin, wrapI, unA, callM, keepE_cons, keepE_nil, Nat.reduceEqDiff, if_true, if_false, reduceIte, Int.toNat_natCast, List.append_nil, List.nil_append, List.cons_append, decide_true, decide_false, bft, btf, btt, bff, Bool.false_eq_true, resultsA, oneOrTup, Option.map_some, Option.map_none, Bool.not_true, Bool.not_false, loadAt, storeAt, storeOf, partOf, List.getElem?_cons_zero, List.getElem?_cons_succ, List.set_cons_zero, List.set_cons_succ, AV.cells, AV.isCell, List.all_cons, List.all_nil, Bool.and_true, Bool.and_false, Bool.false_and, Bool.true_and, Bool.and_self, and_true, true_and, and_self, putAt, hasLabel, Bool.or_false, Bool.false_or, Bool.or_true, Bool.true_or, fillA, pickParts, pickSl, strBin, eqA, eqCell, ne_eq, not_true_eq_false, not_false_eq_true, Nat.reduceLeDiff, Nat.reduceLT, Nat.reduceMul, Nat.reduceSub, Nat.zero_add, Nat.add_zero, Option.bind_some, asNat, bounds2, reduceCtorEq, List.take_succ_cons, List.take_zero, List.drop_succ_cons, List.drop_zero, Nat.reduceBEq, List.take_nil, List.drop_nil, Int.reduceLE, Int.reduceLT, Int.reduceToNat, Int.toNat_zero, Int.reduceBEq, Int.le_refl, Nat.le_refl, b2s, srcRow, binA]; rfl) ⟨rfl, rfl⟩
  obtain ⟨e, env, σ', k1, rfl, k2⟩ := key
  refine ⟨σ', ?_⟩
  simp only [evalFn, show i7.nparams = 0 from rfl, show i7.res = [.tmp 0] from rfl, params, List.length_nil, if_true, k1, resultsA, k2, oneOrTup, Option.map_some]
end
end Go.Pm
end

section
set_option linter.unusedSimpArgs false
set_option linter.unusedVariables false
set_option linter.unusedSectionVars false
/- The lexer's functions, one upon the other. -/
set_option maxRecDepth 100000
set_option linter.unusedSimpArgs false
set_option linter.unusedVariables false
namespace Go.Pm

/-- A law of one byte. -/
def byteSpec (p : UInt8 → Bool) : Spec := fun args σ => match args with
  | [.int .u8 n] => if 0 ≤ n ∧ n < 256 then some (.ret (.bool (p (UInt8.ofNat n.toNat))), σ) else none
  | _ => none

theorem byteSpec_at (p : UInt8 → Bool) (c : UInt8) (σ : Store) : byteSpec p [.int .u8 c.toNat] σ = some (.ret (.bool (p c)), σ) := by
  have h1 : (0 ≤ ((c.toNat : Nat) : Int) ∧ ((c.toNat : Nat) : Int) < 256) := by have := c.toNat_lt; omega
  simp only [byteSpec, if_pos h1, Int.toNat_natCast, UInt8.ofNat_toNat]

theorem byteSpec_some {p : UInt8 → Bool} {args : List AV} {σ : Store} {r : AOut × Store} (h : byteSpec p args σ = some r) : ∃ c : UInt8, args = [.int .u8 c.toNat] ∧ r = (.ret (.bool (p c)), σ) := by
  unfold byteSpec at h
  split at h
  · rename_i n
    split at h
    · rename_i hn
      cases h
      have e : ((UInt8.ofNat n.toNat).toNat : Int) = n := by
        rw [UInt8.toNat_ofNat']
        rw [Nat.mod_eq_of_lt (by omega)]
        omega
      exact ⟨UInt8.ofNat n.toNat, by rw [e], rfl⟩
    · cases h
  · cases h

variable {P : Program} {G : Globals}

theorem byte_step {call : CallA} (hc : CallS P G call) (hm : P.follows .mixedOrders = true) (hG : GPure G) {f : FuncId} {af : AFunc} (hok : okAt P f af = true) {p : UInt8 → Bool}
    (h : ∀ (c : UInt8) σ, ∃ fuel, evalFn call (drawA call G) G fuel af [.int .u8 c.toNat] σ = some (.ret (.bool (p c)), σ)) : CallS P G (atF f (byteSpec p)) :=
  CallS.step hc hm hG hok fun args σ r hs => by
    obtain ⟨c, rfl, rfl⟩ := byteSpec_some hs
    exact h c σ
end Go.Pm
end

section
set_option linter.unusedSimpArgs false
set_option linter.unusedVariables false
set_option linter.unusedSectionVars false
/- The code that the pure machine has is the program's: function by function. -/
set_option maxRecDepth 1000000
namespace Go.Pm
open Go.Proofs
theorem ok3 : okAt Tryd.prog 3 i3 = true := by kernel_rfl
theorem ok4 : okAt Tryd.prog 4 i4 = true := by kernel_rfl
theorem ok5 : okAt Tryd.prog 5 i5 = true := by kernel_rfl
theorem ok6 : okAt Tryd.prog 6 i6 = true := by kernel_rfl
theorem ok7 : okAt Tryd.prog 7 i7 = true := by kernel_rfl
theorem ok8 : okAt Tryd.prog 8 i8 = true := by kernel_rfl
theorem ok9 : okAt Tryd.prog 9 i9 = true := by kernel_rfl
theorem ok10 : okAt Tryd.prog 10 i10 = true := by kernel_rfl
theorem ok11 : okAt Tryd.prog 11 i11 = true := by kernel_rfl
theorem ok12 : okAt Tryd.prog 12 i12 = true := by kernel_rfl
theorem ok13 : okAt Tryd.prog 13 i13 = true := by kernel_rfl
theorem ok14 : okAt Tryd.prog 14 i14 = true := by kernel_rfl
theorem ok15 : okAt Tryd.prog 15 i15 = true := by kernel_rfl
theorem ok16 : okAt Tryd.prog 16 i16 = true := by kernel_rfl
theorem ok17 : okAt Tryd.prog 17 i17 = true := by kernel_rfl
theorem ok18 : okAt Tryd.prog 18 i18 = true := by kernel_rfl
theorem ok19 : okAt Tryd.prog 19 i19 = true := by kernel_rfl
theorem ok20 : okAt Tryd.prog 20 i20 = true := by kernel_rfl
theorem ok21 : okAt Tryd.prog 21 i21 = true := by kernel_rfl
theorem ok22 : okAt Tryd.prog 22 i22 = true := by kernel_rfl
theorem ok23 : okAt Tryd.prog 23 i23 = true := by kernel_rfl
theorem ok24 : okAt Tryd.prog 24 i24 = true := by kernel_rfl
theorem ok25 : okAt Tryd.prog 25 i25 = true := by kernel_rfl
theorem ok26 : okAt Tryd.prog 26 i26 = true := by kernel_rfl
theorem ok27 : okAt Tryd.prog 27 i27 = true := by kernel_rfl
theorem ok28 : okAt Tryd.prog 28 i28 = true := by kernel_rfl
theorem ok29 : okAt Tryd.prog 29 i29 = true := by kernel_rfl
theorem ok30 : okAt Tryd.prog 30 i30 = true := by kernel_rfl
theorem ok31 : okAt Tryd.prog 31 i31 = true := by kernel_rfl
theorem ok32 : okAt Tryd.prog 32 i32 = true := by kernel_rfl
theorem ok33 : okAt Tryd.prog 33 i33 = true := by kernel_rfl
theorem ok34 : okAt Tryd.prog 34 i34 = true := by kernel_rfl
theorem ok35 : okAt Tryd.prog 35 i35 = true := by kernel_rfl
theorem ok36 : okAt Tryd.prog 36 i36 = true := by kernel_rfl
theorem ok37 : okAt Tryd.prog 37 i37 = true := by kernel_rfl
theorem ok38 : okAt Tryd.prog 38 i38 = true := by kernel_rfl
theorem ok39 : okAt Tryd.prog 39 i39 = true := by kernel_rfl
theorem ok40 : okAt Tryd.prog 40 i40 = true := by kernel_rfl
theorem ok41 : okAt Tryd.prog 41 i41 = true := by kernel_rfl
theorem ok42 : okAt Tryd.prog 42 i42 = true := by kernel_rfl
theorem ok43 : okAt Tryd.prog 43 i43 = true := by kernel_rfl
theorem ok44 : okAt Tryd.prog 44 i44 = true := by kernel_rfl
theorem ok45 : okAt Tryd.prog 45 i45 = true := by kernel_rfl
theorem ok46 : okAt Tryd.prog 46 i46 = true := by kernel_rfl
theorem ok47 : okAt Tryd.prog 47 i47 = true := by kernel_rfl
theorem ok48 : okAt Tryd.prog 48 i48 = true := by kernel_rfl
theorem ok49 : okAt Tryd.prog 49 i49 = true := by kernel_rfl
theorem ok50 : okAt Tryd.prog 50 i50 = true := by kernel_rfl
theorem ok51 : okAt Tryd.prog 51 i51 = true := by kernel_rfl
theorem ok52 : okAt Tryd.prog 52 i52 = true := by kernel_rfl
theorem ok53 : okAt Tryd.prog 53 i53 = true := by kernel_rfl
theorem ok54 : okAt Tryd.prog 54 i54 = true := by kernel_rfl
theorem ok55 : okAt Tryd.prog 55 i55 = true := by kernel_rfl
theorem ok56 : okAt Tryd.prog 56 i56 = true := by kernel_rfl
theorem ok57 : okAt Tryd.prog 57 i57 = true := by kernel_rfl
theorem ok58 : okAt Tryd.prog 58 i58 = true := by kernel_rfl
theorem ok59 : okAt Tryd.prog 59 i59 = true := by kernel_rfl
theorem ok60 : okAt Tryd.prog 60 i60 = true := by kernel_rfl
theorem ok61 : okAt Tryd.prog 61 i61 = true := by kernel_rfl
theorem ok62 : okAt Tryd.prog 62 i62 = true := by kernel_rfl
theorem ok63 : okAt Tryd.prog 63 i63 = true := by kernel_rfl
theorem ok64 : okAt Tryd.prog 64 i64 = true := by kernel_rfl
theorem ok65 : okAt Tryd.prog 65 i65 = true := by kernel_rfl
theorem ok66 : okAt Tryd.prog 66 i66 = true := by kernel_rfl
theorem ok67 : okAt Tryd.prog 67 i67 = true := by kernel_rfl
theorem ok68 : okAt Tryd.prog 68 i68 = true := by kernel_rfl
theorem ok69 : okAt Tryd.prog 69 i69 = true := by kernel_rfl
theorem ok70 : okAt Tryd.prog 70 i70 = true := by kernel_rfl
theorem ok71 : okAt Tryd.prog 71 i71 = true := by kernel_rfl
theorem ok72 : okAt Tryd.prog 72 i72 = true := by kernel_rfl
theorem ok73 : okAt Tryd.prog 73 i73 = true := by kernel_rfl
theorem ok74 : okAt Tryd.prog 74 i74 = true := by kernel_rfl
theorem ok75 : okAt Tryd.prog 75 i75 = true := by kernel_rfl
theorem ok76 : okAt Tryd.prog 76 i76 = true := by kernel_rfl
theorem ok77 : okAt Tryd.prog 77 i77 = true := by kernel_rfl
theorem ok78 : okAt Tryd.prog 78 i78 = true := by kernel_rfl
theorem ok79 : okAt Tryd.prog 79 i79 = true := by kernel_rfl
theorem ok80 : okAt Tryd.prog 80 i80 = true := by kernel_rfl
theorem ok81 : okAt Tryd.prog 81 i81 = true := by kernel_rfl
theorem ok82 : okAt Tryd.prog 82 i82 = true := by kernel_rfl
theorem ok83 : okAt Tryd.prog 83 i83 = true := by kernel_rfl
theorem ok84 : okAt Tryd.prog 84 i84 = true := by kernel_rfl
theorem ok85 : okAt Tryd.prog 85 i85 = true := by kernel_rfl
theorem ok87 : okAt Tryd.prog 87 i87 = true := by kernel_rfl
theorem ok88 : okAt Tryd.prog 88 i88 = true := by kernel_rfl
theorem ok89 : okAt Tryd.prog 89 i89 = true := by kernel_rfl
theorem ok90 : okAt Tryd.prog 90 i90 = true := by kernel_rfl
theorem ok91 : okAt Tryd.prog 91 i91 = true := by kernel_rfl
theorem ok92 : okAt Tryd.prog 92 i92 = true := by kernel_rfl
theorem ok93 : okAt Tryd.prog 93 i93 = true := by kernel_rfl
theorem ok94 : okAt Tryd.prog 94 i94 = true := by kernel_rfl
theorem ok95 : okAt Tryd.prog 95 i95 = true := by kernel_rfl
theorem ok96 : okAt Tryd.prog 96 i96 = true := by kernel_rfl
theorem ok97 : okAt Tryd.prog 97 i97 = true := by kernel_rfl
theorem ok98 : okAt Tryd.prog 98 i98 = true := by kernel_rfl
theorem ok99 : okAt Tryd.prog 99 i99 = true := by kernel_rfl
theorem ok101 : okAt Tryd.prog 101 i101 = true := by kernel_rfl
theorem ok102 : okAt Tryd.prog 102 i102 = true := by kernel_rfl
theorem ok103 : okAt Tryd.prog 103 i103 = true := by kernel_rfl
theorem ok105 : okAt Tryd.prog 105 i105 = true := by kernel_rfl
theorem ok106 : okAt Tryd.prog 106 i106 = true := by kernel_rfl
theorem ok108 : okAt Tryd.prog 108 i108 = true := by kernel_rfl
theorem ok109 : okAt Tryd.prog 109 i109 = true := by kernel_rfl
theorem ok110 : okAt Tryd.prog 110 i110 = true := by kernel_rfl
theorem ok111 : okAt Tryd.prog 111 i111 = true := by kernel_rfl
theorem ok112 : okAt Tryd.prog 112 i112 = true := by kernel_rfl
theorem ok113 : okAt Tryd.prog 113 i113 = true := by kernel_rfl
theorem ok114 : okAt Tryd.prog 114 i114 = true := by kernel_rfl
theorem ok115 : okAt Tryd.prog 115 i115 = true := by kernel_rfl
theorem ok116 : okAt Tryd.prog 116 i116 = true := by kernel_rfl
theorem ok117 : okAt Tryd.prog 117 i117 = true := by kernel_rfl
theorem ok118 : okAt Tryd.prog 118 i118 = true := by kernel_rfl
theorem ok119 : okAt Tryd.prog 119 i119 = true := by kernel_rfl
theorem ok120 : okAt Tryd.prog 120 i120 = true := by kernel_rfl
theorem ok122 : okAt Tryd.prog 122 i122 = true := by kernel_rfl
theorem ok123 : okAt Tryd.prog 123 i123 = true := by kernel_rfl
theorem ok124 : okAt Tryd.prog 124 i124 = true := by kernel_rfl
theorem ok126 : okAt Tryd.prog 126 i126 = true := by kernel_rfl
theorem ok127 : okAt Tryd.prog 127 i127 = true := by kernel_rfl
theorem ok128 : okAt Tryd.prog 128 i128 = true := by kernel_rfl
theorem ok129 : okAt Tryd.prog 129 i129 = true := by kernel_rfl
theorem ok130 : okAt Tryd.prog 130 i130 = true := by kernel_rfl
theorem ok131 : okAt Tryd.prog 131 i131 = true := by kernel_rfl
theorem ok133 : okAt Tryd.prog 133 i133 = true := by kernel_rfl
theorem ok136 : okAt Tryd.prog 136 i136 = true := by kernel_rfl
theorem ok137 : okAt Tryd.prog 137 i137 = true := by kernel_rfl
theorem ok138 : okAt Tryd.prog 138 i138 = true := by kernel_rfl
theorem ok139 : okAt Tryd.prog 139 i139 = true := by kernel_rfl
theorem ok140 : okAt Tryd.prog 140 i140 = true := by kernel_rfl
theorem ok141 : okAt Tryd.prog 141 i141 = true := by kernel_rfl
theorem ok144 : okAt Tryd.prog 144 i144 = true := by kernel_rfl
theorem ok145 : okAt Tryd.prog 145 i145 = true := by kernel_rfl
theorem ok146 : okAt Tryd.prog 146 i146 = true := by kernel_rfl
theorem ok147 : okAt Tryd.prog 147 i147 = true := by kernel_rfl
theorem ok149 : okAt Tryd.prog 149 i149 = true := by kernel_rfl
theorem ok180 : okAt Tryd.prog 180 i180 = true := by kernel_rfl
theorem lookI_ok {P : Program} : ∀ {l : List (Nat × AFunc)}, (∀ p ∈ l, okAt P p.1 p.2 = true) → ∀ {f : Nat} {af : AFunc}, lookI f l = some af → okAt P f af = true
  | [], _, f, af, h => by cases h
  | (n, a) :: r, hl, f, af, h => by
    simp only [lookI] at h
    split at h
    · rename_i e; subst e; cases h; exact hl (n, a) (by simp)
    · exact lookI_ok (fun p hp => hl p (by simp [hp])) h
theorem ok_all (f : FuncId) (af : AFunc) (h : irOf f = some af) : okAt Tryd.prog f af = true := by
  refine lookI_ok (l := irL) ?_ h
  unfold irL
  simp only [List.forall_mem_cons]
  exact ⟨ok3, ok4, ok5, ok6, ok7, ok8, ok9, ok10, ok11, ok12, ok13, ok14, ok15, ok16, ok17, ok18, ok19, ok20, ok21, ok22, ok23, ok24, ok25, ok26, ok27, ok28, ok29, ok30, ok31, ok32, ok33, ok34, ok35, ok36, ok37, ok38, ok39, ok40, ok41, ok42, ok43, ok44, ok45, ok46, ok47, ok48, ok49, ok50, ok51, ok52, ok53, ok54, ok55, ok56, ok57, ok58, ok59, ok60, ok61, ok62, ok63, ok64, ok65, ok66, ok67, ok68, ok69, ok70, ok71, ok72, ok73, ok74, ok75, ok76, ok77, ok78, ok79, ok80, ok81, ok82, ok83, ok84, ok85, ok87, ok88, ok89, ok90, ok91, ok92, ok93, ok94, ok95, ok96, ok97, ok98, ok99, ok101, ok102, ok103, ok105, ok106, ok108, ok109, ok110, ok111, ok112, ok113, ok114, ok115, ok116, ok117, ok118, ok119, ok120, ok122, ok123, ok124, ok126, ok127, ok128, ok129, ok130, ok131, ok133, ok136, ok137, ok138, ok139, ok140, ok141, ok144, ok145, ok146, ok147, ok149, ok180, by simp⟩
end Go.Pm
end

section
set_option linter.unusedSimpArgs false
set_option linter.unusedVariables false
set_option linter.unusedSectionVars false
/- The lexer's functions, one upon the other: all of them. -/
set_option maxRecDepth 100000
set_option linter.unusedSimpArgs false
set_option linter.unusedVariables false
namespace Go.Pm
open Go.Proofs

def runSpec : Spec := fun args σ => match args with
  | [.str s, .fn (.func f) [] []] =>
    if s.length ≤ 5000 then
      if f = 58 then some (.ret (.int .i64 (spanLen noLf s)), σ) else
      if f = 59 then some (.ret (.int .i64 (spanLen digitB s)), σ) else
      if f = 62 then some (.ret (.int .i64 (spanLen wordB s)), σ) else none
    else none
  | _ => none

def signSpec : Spec := fun args σ => match args with
  | [.str (a :: s)] => if s.length ≤ 5000 then some (.ret (.int .i64 (signN (a :: s))), σ) else none
  | _ => none

def takeSpec : Spec := fun args σ => match args, σ with
  | [.int .i64 n, .bp 0 0, .bp 2 0], .cells [.str text] (some 9) :: r :: .cells [.int .i64 line, .int .i64 col] (some 53) :: rest =>
    if 0 ≤ n ∧ n.toNat ≤ text.length ∧ text.length ≤ 5000 ∧ 0 ≤ col ∧ col ≤ 100000 then
      some (.ret (.str (text.take n.toNat)), lexS (text.drop n.toNat) r line (col + n.toNat) rest) else none
  | _, _ => none

section
variable {G : Globals}

/-- What is asked of the library's answers. -/
structure LibCalls (O : CallA) : Prop where
  contains : ∀ (s t : List UInt8) σ, s.length < 100 → t.length < 100 → O 101 [.str s, .str t] σ = some (.ret (.bool (containsB t s)), σ)
  parse : Parse O

def lexA (O : CallA) : CallA := orC (atF 59 (byteSpec digitB)) (orC (atF 61 (byteSpec letterB)) (orC (atF 58 (byteSpec noLf)) O))
def lexB (O : CallA) : CallA := orC (atF 62 (byteSpec wordB)) (lexA O)
def lexC (O : CallA) : CallA := orC (atF 57 runSpec) (orC (atF 63 signSpec) (orC (atF 56 takeSpec) (lexB O)))

theorem lexA_sound {O : CallA} (hO : CallS Tryd.prog G O) (hm : Tryd.prog.follows .mixedOrders = true) (hG : GPure G) : CallS Tryd.prog G (lexA O) :=
  (byte_step CallS.none hm hG ok59 fun c σ => ⟨0, digit_spec c σ⟩).or ((byte_step CallS.none hm hG ok61 fun c σ => ⟨0, letter_spec c σ⟩).or ((byte_step CallS.none hm hG ok58 fun c σ => ⟨0, noLf_spec c σ⟩).or hO))

theorem lexB_sound {O : CallA} (hO : CallS Tryd.prog G O) (hm : Tryd.prog.follows .mixedOrders = true) (hG : GPure G) : CallS Tryd.prog G (lexB O) := by
  have hA := lexA_sound hO hm hG
  refine (byte_step hA hm hG ok62 fun c σ => ⟨0, word_spec ?_ ?_ c σ⟩).or hA
  · intro c σ; simp only [lexA, orC, atF, if_true, byteSpec_at]
  · intro c σ; simp only [lexA, orC, atF, if_true, byteSpec_at, show ¬ (61 = 59) by decide, if_false]


theorem run_any {call : CallA} {f : FuncId} {p : UInt8 → Bool} (hp : ∀ (c : UInt8) σ, call f [.int .u8 c.toNat] σ = some (.ret (.bool (p c)), σ)) {s : List UInt8} (hs : s.length ≤ 5000) (σ : Store) :
    ∃ fuel, evalFn call (drawA call G) G fuel i57 [.str s, .fn (.func f) [] []] σ = some (.ret (.int .i64 (spanLen p s)), σ) :=
  ⟨s.length + 1, run_spec s f p σ (by omega) (by omega) (fun c => hp c σ)⟩

theorem lexC_sound {O : CallA} (hO : CallS Tryd.prog G O) (hL : LibCalls O) (hm : Tryd.prog.follows .mixedOrders = true) (hG : GPure G) : CallS Tryd.prog G (lexC O) := by
  have hB := lexB_sound hO hm hG
  have h59 : ∀ (c : UInt8) σ, lexB O 59 [.int .u8 c.toNat] σ = some (.ret (.bool (digitB c)), σ) := fun c σ => by
    simp only [lexB, lexA, orC, atF, if_true, byteSpec_at, show ¬ (59 = 62) by decide, if_false]
  have h58 : ∀ (c : UInt8) σ, lexB O 58 [.int .u8 c.toNat] σ = some (.ret (.bool (noLf c)), σ) := fun c σ => by
    simp only [lexB, lexA, orC, atF, if_true, byteSpec_at, show ¬ (58 = 62) by decide, show ¬ (58 = 59) by decide, show ¬ (58 = 61) by decide, if_false]
  have h62 : ∀ (c : UInt8) σ, lexB O 62 [.int .u8 c.toNat] σ = some (.ret (.bool (wordB c)), σ) := fun c σ => by
    simp only [lexB, orC, atF, if_true, byteSpec_at]
  have h101 : ∀ (s t : List UInt8) σ, s.length < 100 → t.length < 100 → lexB O 101 [.str s, .str t] σ = some (.ret (.bool (containsB t s)), σ) := fun s t σ a b => by
    simp only [lexB, lexA, orC, atF, show ¬ (101 = 62) by decide, show ¬ (101 = 59) by decide, show ¬ (101 = 58) by decide, show ¬ (101 = 61) by decide, if_false, hL.contains s t σ a b]
  refine (CallS.step hB hm hG ok57 fun args σ r hs => ?_).or ((CallS.step hB hm hG ok63 fun args σ r hs => ?_).or ((CallS.step hB hm hG ok56 fun args σ r hs => ?_).or hB))
  · unfold runSpec at hs
    split at hs
    · rename_i s f
      split at hs
      · rename_i hl
        split at hs
        · rename_i e; subst e; cases hs; exact run_any h58 hl σ
        · split at hs
          · rename_i e; subst e; cases hs; exact run_any h59 hl σ
          · split at hs
            · rename_i e; subst e; cases hs; exact run_any h62 hl σ
            · cases hs
      · cases hs
    · cases hs
  · unfold signSpec at hs
    split at hs
    · rename_i a s
      split at hs
      · rename_i hl
        cases hs
        exact ⟨0, sign_spec h101 a s σ (by omega)⟩
      · cases hs
    · cases hs
  · unfold takeSpec at hs
    split at hs
    · rename_i n text r' line col rest
      split at hs
      · rename_i hc
        cases hs
        obtain ⟨h1, h2, h3, h4, h5⟩ := hc
        refine ⟨0, ?_⟩
        have := take_spec (call := lexB O) (draw := drawA (lexB O) G) (G := G) (fuel := 0) text r' line col rest n.toNat h2 h3 h4 h5
        rw [Int.toNat_of_nonneg h1] at this
        rw [Int.toNat_of_nonneg h1]
        exact this
      · cases hs
    · cases hs
end
end Go.Pm
end

section
set_option linter.unusedSimpArgs false
set_option linter.unusedVariables false
set_option linter.unusedSectionVars false
/- The lexer, sound, as its callers see it. -/
set_option maxRecDepth 100000
set_option linter.unusedSimpArgs false
set_option linter.unusedVariables false
namespace Go.Pm
open Go.Proofs
section
variable {G : Globals}

theorem lexC_calls {O : CallA} (hL : LibCalls O) : LexCalls (lexC O) where
  take := fun text r line col rest n h1 h2 h3 h4 => by
    have e : (0 ≤ (n : Int) ∧ (n : Int).toNat ≤ text.length ∧ text.length ≤ 5000 ∧ 0 ≤ col ∧ col ≤ 100000) := by
      rw [Int.toNat_natCast]; exact ⟨by omega, h1, h2, h3, h4⟩
    simp only [lexC, orC, atF, show ¬ (56 = 57) by decide, show ¬ (56 = 63) by decide, if_true, if_false, takeSpec, lexS]
    rw [if_pos e, Int.toNat_natCast]
  lf := fun s σ h => by simp only [lexC, orC, atF, if_true, runSpec, if_pos h]
  digits := fun s σ h => by simp only [lexC, orC, atF, if_true, if_false, runSpec, if_pos h, show ¬ (59 = 58) by decide]
  word := fun s σ h => by simp only [lexC, orC, atF, if_true, if_false, runSpec, if_pos h, show ¬ (62 = 58) by decide, show ¬ (62 = 59) by decide]
  digit := fun c σ => by simp only [lexC, lexB, lexA, orC, atF, if_true, if_false, byteSpec_at, show ¬ (59 = 57) by decide, show ¬ (59 = 63) by decide, show ¬ (59 = 56) by decide, show ¬ (59 = 62) by decide]
  letter := fun c σ => by simp only [lexC, lexB, lexA, orC, atF, if_true, if_false, byteSpec_at, show ¬ (61 = 57) by decide, show ¬ (61 = 63) by decide, show ¬ (61 = 56) by decide, show ¬ (61 = 62) by decide, show ¬ (61 = 59) by decide]
  parse := fun s σ h => by
    have e : lexC O 60 [.str s, .int .i64 10, .int .i64 64] σ = O 60 [.str s, .int .i64 10, .int .i64 64] σ := by
      simp only [lexC, lexB, lexA, orC, atF, if_false, show ¬ (60 = 57) by decide, show ¬ (60 = 63) by decide, show ¬ (60 = 56) by decide, show ¬ (60 = 62) by decide, show ¬ (60 = 59) by decide, show ¬ (60 = 61) by decide, show ¬ (60 = 58) by decide]
    rw [e]
    exact hL.parse s σ h
  sign := fun a s σ h => by simp only [lexC, orC, atF, if_true, if_false, signSpec, if_pos h, show ¬ (63 = 57) by decide]

/-- The lexer's answer, with what it leaves in its store. -/
noncomputable def lexSpec (O : CallA) (G : Globals) : Spec := fun args σ => match args, σ with
  | [.str text], [] => evalFn (lexC O) (drawA (lexC O) G) G 20000 i26 [.str text] []
  | _, _ => none

noncomputable def lexD (O : CallA) (G : Globals) : CallA := orC (atF 26 (lexSpec O G)) (lexC O)

theorem lexD_sound {O : CallA} (hO : CallS Tryd.prog G O) (hL : LibCalls O) (hm : Tryd.prog.follows .mixedOrders = true) (hG : GPure G) : CallS Tryd.prog G (lexD O G) := by
  have hC := lexC_sound hO hL hm hG
  refine (CallS.step hC hm hG ok26 fun args σ r hs => ?_).or hC
  unfold lexSpec at hs
  split at hs
  · exact ⟨20000, hs⟩
  · cases hs

theorem lexD_lexes {O : CallA} (hL : LibCalls O) : Lexes (lexD O G) := by
  refine lexes_of fun text => ?_
  obtain ⟨v, σ', h1, h2⟩ := lex_spec (G := G) (fuel := 20000) (lexC_calls hL) text (Nat.le_refl _)
  refine ⟨v, σ', ?_, h2⟩
  simp only [lexD, orC, atF, if_true, lexSpec, h1]
end
end Go.Pm
end

section
set_option linter.unusedSimpArgs false
set_option linter.unusedVariables false
set_option linter.unusedSectionVars false
/- What strings.Contains answers. -/
set_option linter.unusedVariables false
namespace Go.Pm

theorem prefixB_eq : ∀ (t s : List UInt8), prefixB t s = t.isPrefixOf s
  | [], _ => by simp [prefixB]
  | _ :: _, [] => by simp [prefixB]
  | a :: asl, b :: bs => by simp [prefixB, List.isPrefixOf, prefixB_eq asl bs]

theorem containsB_eq (t : List UInt8) : ∀ s, containsB t s = Lib.contains s t
  | [] => by
    unfold Lib.contains Lib.index containsB
    rw [prefixB_eq]
    cases t <;> rfl
  | b :: s => by
    have ih := containsB_eq t s
    have hg := Lib.index_ge s t
    unfold Lib.contains at ih ⊢
    unfold Lib.index containsB
    rw [prefixB_eq, ih]
    cases hp : t.isPrefixOf (b :: s) with
    | true => simp
    | false =>
      simp only [Bool.false_or, Bool.false_eq_true, if_false]
      by_cases h : Lib.index s t = -1
      · simp [h]
      · have : (Lib.index s t == -1) = false := by simp [h]
        rw [this]
        simp only [Bool.false_eq_true, if_false]
        congr 1
        apply propext
        omega
end Go.Pm
end

section
set_option linter.unusedSimpArgs false
set_option linter.unusedVariables false
set_option linter.unusedSectionVars false
/- Contracts of the library, laid at this program by the kit's shelf (its plain mode), those that are needed. -/
namespace Go.Proofs
open Go.Shelf
def Tryd.laysPu14_ren : Go.Shelf.Ren := ⟨fun | 14 => 60 | 16 => 99 | 17 => 100 | 19 => 114 | 20 => 115 | 21 => 116 | 22 => 117 | 23 => 118 | 24 => 119 | 25 => 132 | 27 => 87 | 26 => 133 | 28 => 111 | 29 => 131 | 30 => 126 | 31 => 127 | 32 => 128 | 33 => 129 | 35 => 137 | 34 => 136 | 36 => 138 | 37 => 139 | 38 => 140 | 39 => 146 | 40 => 147 | n => n, fun | 9 => 9 | 3 => 3 | 22 => 30 | 24 => 98 | 25 => 99 | 4 => 4 | 34 => 151 | 5 => 5 | 36 => 145 | 37 => 67 | 0 => 0 | 39 => 153 | 21 => 21 | 44 => 173 | 47 => 149 | 50 => 184 | 48 => 182 | 2 => 2 | 52 => 164 | 55 => 167 | 59 => 177 | 60 => 159 | 20 => 20 | 61 => 178 | 65 => 188 | 66 => 189 | 67 => 34 | n => n, fun | 0 => 2 | 1 => 3 | 2 => 4 | 3 => 6 | 4 => 7 | n => n⟩
theorem Tryd.laysPu14 : Go.Proofs.LaysPu.n14 Tryd.prog Tryd.laysPu14_ren := {
  mixed := by kernel_rfl
  f14 := Tryd.func60.trans (congrArg some (by kernel_rfl))
  f16 := Tryd.func99.trans (congrArg some (by kernel_rfl))
  f17 := Tryd.func100.trans (congrArg some (by kernel_rfl))
  f19 := Tryd.func114.trans (congrArg some (by kernel_rfl))
  f20 := Tryd.func115.trans (congrArg some (by kernel_rfl))
  f21 := Tryd.func116.trans (congrArg some (by kernel_rfl))
  f22 := Tryd.func117.trans (congrArg some (by kernel_rfl))
  f23 := Tryd.func118.trans (congrArg some (by kernel_rfl))
  f24 := Tryd.func119.trans (congrArg some (by kernel_rfl))
  f25 := Tryd.func132.trans (congrArg some (by kernel_rfl))
  f26 := Tryd.func133.trans (congrArg some (by kernel_rfl))
  f27 := Tryd.func87.trans (congrArg some (by kernel_rfl))
  f28 := Tryd.func111.trans (congrArg some (by kernel_rfl))
  f29 := Tryd.func131.trans (congrArg some (by kernel_rfl))
  f30 := Tryd.func126.trans (congrArg some (by kernel_rfl))
  f31 := Tryd.func127.trans (congrArg some (by kernel_rfl))
  f32 := Tryd.func128.trans (congrArg some (by kernel_rfl))
  f33 := Tryd.func129.trans (congrArg some (by kernel_rfl))
  f34 := Tryd.func136.trans (congrArg some (by kernel_rfl))
  f35 := Tryd.func137.trans (congrArg some (by kernel_rfl))
  f36 := Tryd.func138.trans (congrArg some (by kernel_rfl))
  f37 := Tryd.func139.trans (congrArg some (by kernel_rfl))
  f38 := Tryd.func140.trans (congrArg some (by kernel_rfl))
  f39 := Tryd.func146.trans (congrArg some (by kernel_rfl))
  f40 := Tryd.func147.trans (congrArg some (by kernel_rfl))
  t0 := Tryd.underlying0
  a0 := Tryd.isAgg0
  z0 := Tryd.sizeOf0
  v0 := Tryd.zeroValue0
  i0 := by kernel_rfl
  t2 := Tryd.underlying2
  a2 := Tryd.isAgg2
  z2 := Tryd.sizeOf2
  v2 := Tryd.zeroValue2
  i2 := by kernel_rfl
  t3 := Tryd.underlying3
  a3 := Tryd.isAgg3
  z3 := Tryd.sizeOf3
  v3 := Tryd.zeroValue3
  i3 := by kernel_rfl
  t4 := Tryd.underlying4
  a4 := Tryd.isAgg4
  z4 := Tryd.sizeOf4
  v4 := Tryd.zeroValue4
  i4 := by kernel_rfl
  t5 := Tryd.underlying5
  a5 := Tryd.isAgg5
  z5 := Tryd.sizeOf5
  v5 := Tryd.zeroValue5
  i5 := by kernel_rfl
  t9 := Tryd.underlying9
  a9 := Tryd.isAgg9
  z9 := Tryd.sizeOf9
  v9 := Tryd.zeroValue9
  i9 := by kernel_rfl
  t20 := Tryd.underlying20
  a20 := Tryd.isAgg20
  z20 := Tryd.sizeOf20
  v20 := Tryd.zeroValue20
  i20 := by kernel_rfl
  t21 := Tryd.underlying21
  a21 := Tryd.isAgg21
  z21 := Tryd.sizeOf21
  v21 := Tryd.zeroValue21
  i21 := by kernel_rfl
  t22 := Tryd.underlying30
  a22 := Tryd.isAgg30
  z22 := Tryd.sizeOf30
  v22 := Tryd.zeroValue30
  i22 := by kernel_rfl
  t24 := Tryd.underlying98
  a24 := Tryd.isAgg98
  z24 := Tryd.sizeOf98
  v24 := Tryd.zeroValue98
  i24 := by kernel_rfl
  t25 := Tryd.underlying99
  a25 := Tryd.isAgg99
  z25 := Tryd.sizeOf99
  v25 := Tryd.zeroValue99
  i25 := by kernel_rfl
  t34 := Tryd.underlying151
  a34 := Tryd.isAgg151
  z34 := Tryd.sizeOf151
  v34 := Tryd.zeroValue151
  i34 := by kernel_rfl
  c34 := by kernel_rfl
  t36 := Tryd.underlying145
  a36 := Tryd.isAgg145
  z36 := Tryd.sizeOf145
  v36 := Tryd.zeroValue145
  i36 := by kernel_rfl
  t37 := Tryd.underlying67
  a37 := Tryd.isAgg67
  z37 := Tryd.sizeOf67
  v37 := Tryd.zeroValue67
  i37 := by kernel_rfl
  t39 := Tryd.underlying153
  a39 := Tryd.isAgg153
  z39 := Tryd.sizeOf153
  v39 := Tryd.zeroValue153
  i39 := by kernel_rfl
  t44 := Tryd.underlying173
  a44 := Tryd.isAgg173
  z44 := Tryd.sizeOf173
  v44 := Tryd.zeroValue173
  i44 := by kernel_rfl
  t47 := Tryd.underlying149
  a47 := Tryd.isAgg149
  z47 := Tryd.sizeOf149
  v47 := Tryd.zeroValue149
  i47 := by kernel_rfl
  t48 := Tryd.underlying182
  a48 := Tryd.isAgg182
  z48 := Tryd.sizeOf182
  v48 := Tryd.zeroValue182
  i48 := by kernel_rfl
  t50 := Tryd.underlying184
  a50 := Tryd.isAgg184
  z50 := Tryd.sizeOf184
  v50 := Tryd.zeroValue184
  i50 := by kernel_rfl
  t52 := Tryd.underlying164
  a52 := Tryd.isAgg164
  z52 := Tryd.sizeOf164
  v52 := Tryd.zeroValue164
  i52 := by kernel_rfl
  t55 := Tryd.underlying167
  a55 := Tryd.isAgg167
  z55 := Tryd.sizeOf167
  v55 := Tryd.zeroValue167
  i55 := by kernel_rfl
  t59 := Tryd.underlying177
  a59 := Tryd.isAgg177
  z59 := Tryd.sizeOf177
  v59 := Tryd.zeroValue177
  i59 := by kernel_rfl
  t60 := Tryd.underlying159
  a60 := Tryd.isAgg159
  z60 := Tryd.sizeOf159
  v60 := Tryd.zeroValue159
  i60 := by kernel_rfl
  t61 := Tryd.underlying178
  a61 := Tryd.isAgg178
  z61 := Tryd.sizeOf178
  t65 := Tryd.underlying188
  a65 := Tryd.isAgg188
  z65 := Tryd.sizeOf188
  v65 := Tryd.zeroValue188
  i65 := by kernel_rfl
  t66 := Tryd.underlying189
  a66 := Tryd.isAgg189
  z66 := Tryd.sizeOf189
  v66 := Tryd.zeroValue189
  i66 := by kernel_rfl
  t67 := Tryd.underlying34
  a67 := Tryd.isAgg34
  z67 := Tryd.sizeOf34
  v67 := Tryd.zeroValue34
  i67 := by kernel_rfl
  g0 := by kernel_rfl
  m0 := by kernel_rfl
  g1 := by kernel_rfl
  m1 := by kernel_rfl
  g2 := by kernel_rfl
  m2 := by kernel_rfl
  g3 := by kernel_rfl
  m3 := by kernel_rfl
  g4 := by kernel_rfl
  m4 := by kernel_rfl }
open Go.RowKit in
/-- strconv.ParseUint(s, 10, 64), AT EVERY STRING THAT SPELLS A uint64 ('Lib.parseUintB 64 s.data.toList = .ok u'): u, AND NO ERROR. (LAID: no walk: one application.) -/
theorem Tryd.strconv_ParseUint_10_at64_ok (s : ByteArray) (hmax : s.size ≤ 9223372036854775806) (u : Nat) (h : Lib.parseUintB 64 s.data.toList = .ok u) (w : World) :
    Calls Tryd.prog 60 #[.string s, .int .i64 10, .int .i64 64] w fun e w' => e = .returned (.tuple #[.int .u64 u, .nilIface]) ∧ (w' = w ∨ w' = Lib.bytesWorld w 5 s) := Any.strconv_ParseUint_10_at64_ok Tryd.laysPu14 s hmax u h w
open Go.RowKit in
/-- strconv.ParseUint(s, 10, 64), AT EVERY NUMERAL THAT NO uint64 HOLDS: THE GREATEST uint64, AND AN ERROR THAT IS NOT nil: a *NumError in a new block N: {Func: "ParseUint", Num: s's bytes, Err: what the variable ErrRange holds}. Of what was there nothing has turned. (LAID: no walk: one application.) -/
theorem Tryd.strconv_ParseUint_10_at64_range (s : ByteArray) (hlim : s.size ≤ 281474976710656) (h : Lib.parseUintB 64 s.data.toList = .range) (ev : Value) (w : World) (hv : w.cell? ⟨3, 0, none⟩ = some ev) (hev : ev = .nilIface ∨ ∃ te pe, ev = .iface te pe) :
    Calls Tryd.prog 60 #[.string s, .int .i64 10, .int .i64 64] w fun e w' => ∃ N, e = .returned (.tuple #[.int .u64 18446744073709551615, .iface 153 (.pointer (some ⟨N, 0, none⟩))]) ∧ w.heap.size ≤ N ∧ w'.heap[N]? = some (.cells #[.string ⟨#[80, 97, 114, 115, 101, 85, 105, 110, 116]⟩, .string s, ev] 173 (0, 0)) ∧ Below w.heap.size w w' := Any.strconv_ParseUint_10_at64_range Tryd.laysPu14 s hlim h ev w hv hev
def Tryd.lays144_ren : Go.Shelf.Ren := ⟨fun | 144 => 101 | 143 => 120 | 219 => 134 | 217 => 142 | 225 => 143 | 224 => 144 | 267 => 145 | 266 => 148 | 314 => 149 | n => n, fun | 9 => 9 | 4 => 4 | 3 => 3 | 5 => 5 | 46 => 145 | 146 => 160 | 51 => 159 | n => n, fun | 1 => 5 | n => n⟩
theorem Tryd.lays144 : Go.Proofs.Lays.n144 Tryd.prog Tryd.lays144_ren := {
  mixed := by kernel_rfl
  f143 := Tryd.func120.trans (congrArg some (by kernel_rfl))
  f144 := Tryd.func101.trans (congrArg some (by kernel_rfl))
  f217 := Tryd.func142.trans (congrArg some (by kernel_rfl))
  f219 := Tryd.func134.trans (congrArg some (by kernel_rfl))
  f224 := Tryd.func144.trans (congrArg some (by kernel_rfl))
  f225 := Tryd.func143.trans (congrArg some (by kernel_rfl))
  f266 := Tryd.func148.trans (congrArg some (by kernel_rfl))
  f267 := Tryd.func145.trans (congrArg some (by kernel_rfl))
  f314 := Tryd.func149.trans (congrArg some (by kernel_rfl))
  t3 := Tryd.underlying3
  a3 := Tryd.isAgg3
  z3 := Tryd.sizeOf3
  v3 := Tryd.zeroValue3
  t4 := Tryd.underlying4
  a4 := Tryd.isAgg4
  z4 := Tryd.sizeOf4
  v4 := Tryd.zeroValue4
  t5 := Tryd.underlying5
  a5 := Tryd.isAgg5
  z5 := Tryd.sizeOf5
  v5 := Tryd.zeroValue5
  t9 := Tryd.underlying9
  a9 := Tryd.isAgg9
  z9 := Tryd.sizeOf9
  v9 := Tryd.zeroValue9
  t46 := Tryd.underlying145
  a46 := Tryd.isAgg145
  z46 := Tryd.sizeOf145
  v46 := Tryd.zeroValue145
  t51 := Tryd.underlying159
  a51 := Tryd.isAgg159
  z51 := Tryd.sizeOf159
  v51 := Tryd.zeroValue159
  t146 := Tryd.underlying160
  a146 := Tryd.isAgg160
  z146 := Tryd.sizeOf160
  v146 := Tryd.zeroValue160
  g1 := by kernel_rfl }
open Go.RowKit Go.Lib in
/-- strings.Contains: "Contains reports whether substr is within s.": IT RETURNS 'Lib.contains s substr'; the world is as it was. (LAID: no walk: one application.) -/
theorem Tryd.strings_Contains (s sub : ByteArray) (m : Int) (w : World) (hs : s.size < 4294967281) (hm : w.cell? ⟨5, 0, none⟩ = some (.int .i64 m)) :
    Calls Tryd.prog 101 #[.string s, .string sub] w fun e w' => e = .returned (.bool (Lib.contains s.data.toList sub.data.toList)) ∧ w' = w := Any.strings_Contains Tryd.lays144 s sub m w hs hm
end Go.Proofs
end

section
set_option linter.unusedSimpArgs false
set_option linter.unusedVariables false
set_option linter.unusedSectionVars false
/- What strings.Contains and strconv.ParseUint answer: sound. -/
set_option linter.unusedVariables false
namespace Go.Pm
open Go.Proofs
open Go.RowKit (Below)

def containsSpec : Spec := fun args σ => match args with
  | [.str s, .str t] => if s.length < 4294967281 then some (.ret (.bool (containsB t s)), σ) else none
  | _ => none

theorem contains_sound {G : Globals} (m : Int) (hG : G 5 = some [.int .i64 m]) : CallS Tryd.prog G (atF 101 containsSpec) := by
  intro f args σ r σ' h
  unfold atF at h
  split at h
  case isFalse => cases h
  rename_i e
  subst e
  unfold containsSpec at h
  split at h
  case h_2 => cases h
  rename_i s t
  split at h
  case isFalse => cases h
  rename_i hs
  cases h
  refine ⟨⟨Tryd.f101, Tryd.func101, by kernel_rfl, by kernel_rfl⟩, ?_⟩
  intro B C w vs sr gr ha
  obtain ⟨v, us, rfl, h1, h2⟩ := ha.cons_inv
  obtain ⟨u, us', rfl, h3, h4⟩ := h2.cons_inv
  obtain rfl := h4.nil_inv
  cases h1
  cases h3
  obtain ⟨ms, k1, k2, k3⟩ := gr 5 _ hG
  cases ms with
  | nil => simp at k1
  | cons mv ms =>
    have hmv := k3 0 _ mv rfl rfl
    cases hmv
    obtain ⟨c, e, fr, q1, q2⟩ := sr.im 5 0 _ (k2 0 _ rfl)
    have hcell : w.cell? ⟨5, 0, none⟩ = some (.int .i64 m) := by rw [cell_of_row q1]; exact q2
    refine (Tryd.strings_Contains ⟨s.toArray⟩ ⟨t.toArray⟩ m w (by simpa [ByteArray.size] using hs) hcell).mono fun e w' ⟨he, hw⟩ => ?_
    subst he; subst hw
    refine ⟨C, .refl _ _, sr, .refl _ _, _, rfl, ?_⟩
    rw [containsB_eq]
    exact .bool

def parseSpec : Spec := fun args σ => match args with
  | [.str s, .int .i64 b, .int .i64 z] =>
    if b = 10 ∧ z = 64 ∧ s.length ≤ 5000 then
      match Lib.parseUintB 64 s with
      | .ok u => some (.ret (.tup [.int .u64 u, .nili]), σ)
      | .range => some (.ret (.tup [.int .u64 18446744073709551615, .iface 153 (.ip 1 [] 0 0)]), σ)
      | _ => none
    else none
  | _ => none

theorem VR.any_ptr {C : Ctx} (b : Nat) : VR C (.ip 1 [] 0 0) (.pointer (some ⟨b, 0, none⟩)) := by
  have := VR.ip (C := C) (sz := 1) (row := []) (i := 0) (off := 0) (b := b) (o := 0) (vs := []) (by simp) rfl (by simp) (by simp)
  simpa using this

theorem VR.two {C : Ctx} {a b : AV} {u v : Value} (h : VR C a u) (k : VR C b v) : VR C (.tup [a, b]) (.tuple #[u, v]) :=
  .tup rfl (VRs.cons h (.cons k (.nil _))).at_

theorem parse_sound {G : Globals} (T : TypeId) (x : AV) (hG : G 3 = some [.iface T x]) : CallS Tryd.prog G (atF 60 parseSpec) := by
  intro f args σ r σ' h
  unfold atF at h
  split at h
  case isFalse => cases h
  rename_i e
  subst e
  unfold parseSpec at h
  split at h
  case h_2 => cases h
  rename_i s b z
  split at h
  case isFalse => cases h
  rename_i hs
  obtain ⟨rfl, rfl, hs⟩ := hs
  refine ⟨⟨Tryd.f60, Tryd.func60, by kernel_rfl, by kernel_rfl⟩, ?_⟩
  intro B C w vs sr gr ha
  obtain ⟨v, us, rfl, h1, h2⟩ := ha.cons_inv
  obtain ⟨u, us', rfl, h3, h4⟩ := h2.cons_inv
  obtain ⟨u', us'', rfl, h5, h6⟩ := h4.cons_inv
  obtain rfl := h6.nil_inv
  cases h1
  cases h3
  cases h5
  have hsz : (⟨s.toArray⟩ : ByteArray).size = s.length := by simp [ByteArray.size]
  split at h
  · rename_i u hp
    cases h
    refine (Tryd.strconv_ParseUint_10_at64_ok ⟨s.toArray⟩ (by omega) u (by simpa using hp) w).mono fun e w' ⟨he, hw⟩ => ?_
    subst he
    have hb : Below w.heap.size w w' := by
      rcases hw with rfl | rfl
      · exact .refl _ _
      · exact Lib.bytesWorld_below _ _ _
    exact ⟨C, .refl _ _, sr.of_below hb, hb.mono sr.hB, _, rfl, .two .int .nili⟩
  · rename_i hp
    cases h
    obtain ⟨ms, k1, k2, k3⟩ := gr 3 _ hG
    cases ms with
    | nil => simp at k1
    | cons mv ms =>
      have hmv := k3 0 _ mv rfl rfl
      cases hmv
      rename_i pv hpv
      obtain ⟨c, e, fr, q1, q2⟩ := sr.im 3 0 _ (k2 0 _ rfl)
      have hcell : w.cell? ⟨3, 0, none⟩ = some (.iface T pv) := by rw [cell_of_row q1]; exact q2
      refine (Tryd.strconv_ParseUint_10_at64_range ⟨s.toArray⟩ (by omega) (by simpa using hp) _ w hcell (.inr ⟨_, _, rfl⟩)).mono fun e w' ⟨N, he, _, _, hb⟩ => ?_
      subst he
      exact ⟨C, .refl _ _, sr.of_below hb, hb.mono sr.hB, _, rfl, .two .int (.iface (VR.any_ptr N))⟩
  · cases h

def lexO : CallA := orC (atF 101 containsSpec) (atF 60 parseSpec)
theorem lexO_sound {G : Globals} (m : Int) (hG : G 5 = some [.int .i64 m]) (T : TypeId) (x : AV) (hG3 : G 3 = some [.iface T x]) : CallS Tryd.prog G lexO :=
  (contains_sound m hG).or (parse_sound T x hG3)
theorem lexO_calls : LibCalls lexO where
  contains := fun s t σ h _ => by
    have : s.length < 4294967281 := by omega
    simp only [lexO, orC, atF, if_true, containsSpec, if_pos this]
  parse := fun s σ h => by
    have e : lexO 60 [.str s, .int .i64 10, .int .i64 64] σ = parseSpec [.str s, .int .i64 10, .int .i64 64] σ := by
      simp only [lexO, orC, atF, if_true, show ¬ (60 = 101) by decide, if_false]
    rw [e]
    constructor
    · intro u hu; exact ⟨σ, by simp only [parseSpec, h, and_self, if_true, hu]⟩
    · intro hu; exact ⟨σ, by simp only [parseSpec, h, and_self, if_true, hu]⟩
end Go.Pm
end
