/- A machine on plain data, proved sound for the model, for the proofs of this seat; its conditions stand at each theorem. Here: DIr1, DIr, DOk, DShelf, DShelf2, DLibA, DLibB, DLibC, DRow, DRowG -/
import Derived.Test.YtehcekeccnlboaaDoorB2
import Derived.KernelRfl
import Derived.Test.YtehcekeccnlboaaDoorProg
import Derived.Shelf.Pu.ParseUintPublic10
import Derived.Shelf.Strings.Search3
import Derived.Shelf.Strings.Repeat
import Derived.Shelf.Strings.OnBuilder
import Derived.Shelf.Strings.Builder1
import Derived.Test.YtehcekeccnlboaaDoorRows
import Derived.Test.YtehcekeccnlboaaDoorCards
import Derived.Test.YtehcekeccnlboaaDoorTie

section
set_option linter.unusedSimpArgs false
set_option linter.unusedVariables false
set_option linter.unusedSectionVars false
/- The code of the functions, as the pure machine has it: by a program of this session out of the loaded translation; PmxOk holds it to the model's. -/
set_option maxRecDepth 100000
namespace Go.Pm
/-- (*troth/expr.Expr).part -/
def i89 : AFunc := ⟨2, 15, [.tmp 4],
  (.seq (.region [⟨some 4, none, .mov (.c (.str []))⟩] [0, 1])
  (.seq (.seq (.region [⟨some 5, none, .mov (.t 0)⟩,
    ⟨some 6, none, .call false 90 [(.t 5)]⟩,
    ⟨some 7, none, .mov (.t 1)⟩,
    ⟨some 8, none, .bin .lss (.t 6) (.t 7)⟩] [0, 8])
  (.cond (.t 8) (.seq (.region [⟨some 9, none, .mov (.t 0)⟩,
    ⟨some 10, none, .call false 44 [(.t 9)]⟩,
    ⟨some 11, none, .bin .add (.c (.str [40])) (.t 10)⟩,
    ⟨some 12, none, .bin .add (.t 11) (.c (.str [41]))⟩,
    ⟨some 4, none, .mov (.t 12)⟩] [4])
  .ret)
  .skip))
  (.seq (.region [⟨some 13, none, .mov (.t 0)⟩,
    ⟨some 14, none, .call false 44 [(.t 13)]⟩,
    ⟨some 4, none, .mov (.t 14)⟩] [4])
  .ret)))⟩

/-- (*troth/expr.Expr).strength -/
def i90 : AFunc := ⟨1, 13, [.tmp 2],
  (.seq (.region [⟨some 2, none, .mov (.c (.int .i64 0))⟩] [0])
  (.seq (.seq (.region [⟨some 3, none, .mov (.t 0)⟩,
    ⟨some 4, none, .nilchk (.t 3)⟩,
    ⟨some 5, none, .faddr 0 (.t 4)⟩,
    ⟨some 6, none, .load none (.t 5)⟩,
    ⟨some 7, none, .bin .lss (.t 6) (.c (.int .u8 4))⟩] [0, 7])
  (.cond (.t 7) (.seq (.region [⟨some 2, none, .mov (.c (.int .i64 5))⟩] [2])
  .ret)
  .skip))
  (.seq (.region [⟨some 8, none, .mov (.t 0)⟩,
    ⟨some 9, none, .nilchk (.t 8)⟩,
    ⟨some 10, none, .faddr 1 (.t 9)⟩,
    ⟨some 11, none, .load none (.t 10)⟩,
    ⟨some 12, none, .call false 112 [(.t 11)]⟩,
    ⟨some 2, none, .mov (.t 12)⟩] [2])
  .ret)))⟩

/-- (*troth/expr.Expr).plain -/
def i91 : AFunc := ⟨1, 35, [.cell 2 (some 8)],
  (.seq (.region [⟨some 2, none, .alloc [(.int .u8 0), (.int .u8 0), (.int .u64 0), (.int .u8 0), (.int .u8 0), (.int .u8 0), .nilp, .nilp] 38⟩] [0, 2])
  (.seq (.region [⟨some 4, none, .mov (.t 0)⟩,
    ⟨some 5, none, .nilchk (.t 4)⟩,
    ⟨some 6, none, .load (some 8) (.t 5)⟩,
    ⟨some 3, none, .alloc [(.int .u8 0), (.int .u8 0), (.int .u64 0), (.int .u8 0), (.int .u8 0), (.int .u8 0), .nilp, .nilp] 38⟩,
    ⟨none, none, .store 8 (.t 3) (.t 6)⟩] [0, 2, 3])
  (.seq (.seq (.region [⟨some 7, none, .mov (.t 0)⟩,
    ⟨some 8, none, .nilchk (.t 7)⟩,
    ⟨some 9, none, .faddr 0 (.t 8)⟩,
    ⟨some 10, none, .load none (.t 9)⟩] [2, 3, 10])
  (.block 0 (.seq (.region [⟨some 12, none, .bin .eql (.t 10) (.c (.int .u8 0))⟩,
    ⟨some 11, none, .mov (.t 12)⟩] [2, 3, 10, 11])
  (.cond (.t 11) (.region [⟨some 13, none, .faddr 2 (.t 3)⟩,
    ⟨none, none, .store 1 (.t 13) (.c (.int .u64 0))⟩] [2, 3])
  (.seq (.region [⟨some 15, none, .bin .eql (.t 10) (.c (.int .u8 1))⟩,
    ⟨some 14, none, .mov (.t 15)⟩] [2, 3, 10, 14])
  (.cond (.t 14) (.region [⟨some 16, none, .faddr 4 (.t 3)⟩,
    ⟨none, none, .store 1 (.t 16) (.c (.int .u8 0))⟩] [2, 3])
  (.seq (.region [⟨some 18, none, .bin .eql (.t 10) (.c (.int .u8 2))⟩,
    ⟨some 17, none, .mov (.t 18)⟩] [2, 3, 10, 17])
  (.cond (.t 17) (.region [⟨some 19, none, .faddr 3 (.t 3)⟩,
    ⟨none, none, .store 1 (.t 19) (.c (.int .u8 0))⟩,
    ⟨some 20, none, .faddr 4 (.t 3)⟩,
    ⟨none, none, .store 1 (.t 20) (.c (.int .u8 0))⟩] [2, 3])
  (.seq (.region [⟨some 22, none, .bin .eql (.t 10) (.c (.int .u8 3))⟩,
    ⟨some 21, none, .mov (.t 22)⟩] [2, 3, 10, 21])
  (.cond (.t 21) (.region [⟨some 23, none, .faddr 5 (.t 3)⟩,
    ⟨none, none, .store 1 (.t 23) (.c (.int .u8 0))⟩] [2, 3])
  (.seq (.region [⟨some 25, none, .bin .eql (.t 10) (.c (.int .u8 4))⟩,
    ⟨some 24, none, .mov (.t 25)⟩] [2, 3, 10, 24])
  (.cond (.t 24) (.region [⟨some 26, none, .faddr 1 (.t 3)⟩,
    ⟨none, none, .store 1 (.t 26) (.c (.int .u8 0))⟩,
    ⟨some 27, none, .faddr 6 (.t 3)⟩,
    ⟨none, none, .store 1 (.t 27) (.c .nilp)⟩] [2, 3])
  (.seq (.region [⟨some 29, none, .bin .eql (.t 10) (.c (.int .u8 5))⟩,
    ⟨some 28, none, .mov (.t 29)⟩] [2, 3, 28])
  (.cond (.t 28) (.region [⟨some 30, none, .faddr 1 (.t 3)⟩,
    ⟨none, none, .store 1 (.t 30) (.c (.int .u8 0))⟩,
    ⟨some 31, none, .faddr 6 (.t 3)⟩,
    ⟨none, none, .store 1 (.t 31) (.c .nilp)⟩,
    ⟨some 32, none, .faddr 7 (.t 3)⟩,
    ⟨none, none, .store 1 (.t 32) (.c .nilp)⟩] [2, 3])
  .skip))))))))))))))
  (.seq (.region [⟨some 33, none, .faddr 0 (.t 3)⟩,
    ⟨none, none, .store 1 (.t 33) (.c (.int .u8 0))⟩] [2, 3])
  (.seq (.region [⟨some 34, none, .load (some 8) (.t 3)⟩,
    ⟨none, none, .store 8 (.t 2) (.t 34)⟩] [2])
  .ret)))))⟩

/-- troth/num.Sides -/
def i92 : AFunc := ⟨1, 13, [.tmp 2],
  (.seq (.region [⟨some 2, none, .mov (.c (.int .i64 0))⟩] [0])
  (.seq (.block 0 (.seq (.region [⟨some 4, none, .mov (.t 0)⟩,
    ⟨some 5, none, .bin .lss (.t 4) (.c (.int .u8 1))⟩,
    ⟨some 6, none, .mov (.t 5)⟩,
    ⟨some 7, (some (6, false)), .mov (.t 0)⟩,
    ⟨some 8, (some (6, false)), .bin .gtr (.t 7) (.c (.int .u8 14))⟩,
    ⟨some 9, none, .pick (.t 6) (.c (.bool true)) (.t 8)⟩,
    ⟨some 3, none, .mov (.t 9)⟩] [0, 3])
  (.cond (.t 3) (.seq (.region [⟨some 2, none, .mov (.c (.int .i64 0))⟩] [2])
  .ret)
  (.seq (.region [⟨some 11, none, .mov (.t 0)⟩,
    ⟨some 12, none, .bin .geq (.t 11) (.c (.int .u8 13))⟩,
    ⟨some 10, none, .mov (.t 12)⟩] [10])
  (.cond (.t 10) (.seq (.region [⟨some 2, none, .mov (.c (.int .i64 1))⟩] [2])
  .ret)
  .skip)))))
  (.seq (.region [⟨some 2, none, .mov (.c (.int .i64 2))⟩] [2])
  .ret)))⟩

/-- troth/num.One -/
def i93 : AFunc := ⟨2, 15, [.tmp 4],
  (.seq (.region [⟨some 4, none, .mov (.c (.int .u64 0))⟩] [0, 1])
  (.seq (.seq (.region [⟨some 5, none, .mov (.t 0)⟩] [1, 5])
  (.block 0 (.seq (.region [⟨some 7, none, .bin .eql (.t 5) (.c (.int .u8 13))⟩,
    ⟨some 6, none, .mov (.t 7)⟩] [1, 5, 6])
  (.cond (.t 6) (.seq (.region [⟨some 8, none, .mov (.t 1)⟩,
    ⟨some 9, none, .bin .eql (.t 8) (.c (.int .u64 0))⟩,
    ⟨some 10, none, .call false 113 [(.t 9)]⟩,
    ⟨some 4, none, .mov (.t 10)⟩] [4])
  .ret)
  (.seq (.region [⟨some 12, none, .bin .eql (.t 5) (.c (.int .u8 14))⟩,
    ⟨some 11, none, .mov (.t 12)⟩] [1, 11])
  (.cond (.t 11) (.seq (.region [⟨some 13, none, .mov (.t 1)⟩,
    ⟨some 14, none, .un .neg (.t 13)⟩,
    ⟨some 4, none, .mov (.t 14)⟩] [4])
  .ret)
  .skip))))))
  (.seq (.region [⟨some 4, none, .mov (.c (.int .u64 0))⟩] [4])
  .ret)))⟩

def i94_L0 : ACode :=
  (.seq (.region [⟨some 6, none, .mov (.c (.int .u64 0))⟩] [6])
  .ret)

def i94_L1 : ACode :=
  (.seq (.seq (.region [⟨some 7, none, .mov (.t 0)⟩] [1, 2, 7])
  (.block 0 (.seq (.region [⟨some 9, none, .bin .eql (.t 7) (.c (.int .u8 1))⟩,
    ⟨some 8, none, .mov (.t 9)⟩] [1, 2, 7, 8])
  (.cond (.t 8) (.seq (.region [⟨some 10, none, .mov (.t 1)⟩,
    ⟨some 11, none, .mov (.t 2)⟩,
    ⟨some 12, none, .bin .eql (.t 10) (.t 11)⟩,
    ⟨some 13, none, .call false 113 [(.t 12)]⟩,
    ⟨some 6, none, .mov (.t 13)⟩] [6])
  .ret)
  (.seq (.region [⟨some 15, none, .bin .eql (.t 7) (.c (.int .u8 2))⟩,
    ⟨some 14, none, .mov (.t 15)⟩] [1, 2, 7, 14])
  (.cond (.t 14) (.seq (.region [⟨some 16, none, .mov (.t 1)⟩,
    ⟨some 17, none, .mov (.t 2)⟩,
    ⟨some 18, none, .bin .neq (.t 16) (.t 17)⟩,
    ⟨some 19, none, .call false 113 [(.t 18)]⟩,
    ⟨some 6, none, .mov (.t 19)⟩] [6])
  .ret)
  (.seq (.region [⟨some 21, none, .bin .eql (.t 7) (.c (.int .u8 3))⟩,
    ⟨some 20, none, .mov (.t 21)⟩] [1, 2, 7, 20])
  (.cond (.t 20) (.seq (.region [⟨some 22, none, .mov (.t 1)⟩,
    ⟨some 23, none, .mov (.t 2)⟩,
    ⟨some 24, none, .bin .lss (.t 22) (.t 23)⟩,
    ⟨some 25, none, .call false 113 [(.t 24)]⟩,
    ⟨some 6, none, .mov (.t 25)⟩] [6])
  .ret)
  (.seq (.region [⟨some 27, none, .bin .eql (.t 7) (.c (.int .u8 4))⟩,
    ⟨some 26, none, .mov (.t 27)⟩] [1, 2, 7, 26])
  (.cond (.t 26) (.seq (.region [⟨some 28, none, .mov (.t 1)⟩,
    ⟨some 29, none, .mov (.t 2)⟩,
    ⟨some 30, none, .bin .leq (.t 28) (.t 29)⟩,
    ⟨some 31, none, .call false 113 [(.t 30)]⟩,
    ⟨some 6, none, .mov (.t 31)⟩] [6])
  .ret)
  (.seq (.region [⟨some 33, none, .bin .eql (.t 7) (.c (.int .u8 5))⟩,
    ⟨some 32, none, .mov (.t 33)⟩] [1, 2, 7, 32])
  (.cond (.t 32) (.seq (.region [⟨some 34, none, .mov (.t 1)⟩,
    ⟨some 35, none, .mov (.t 2)⟩,
    ⟨some 36, none, .bin .add (.t 34) (.t 35)⟩,
    ⟨some 6, none, .mov (.t 36)⟩] [6])
  .ret)
  (.seq (.region [⟨some 38, none, .bin .eql (.t 7) (.c (.int .u8 6))⟩,
    ⟨some 37, none, .mov (.t 38)⟩] [1, 2, 7, 37])
  (.cond (.t 37) (.seq (.region [⟨some 39, none, .mov (.t 1)⟩,
    ⟨some 40, none, .mov (.t 2)⟩,
    ⟨some 41, none, .bin .sub (.t 39) (.t 40)⟩,
    ⟨some 6, none, .mov (.t 41)⟩] [6])
  .ret)
  (.seq (.region [⟨some 43, none, .bin .eql (.t 7) (.c (.int .u8 7))⟩,
    ⟨some 42, none, .mov (.t 43)⟩] [1, 2, 7, 42])
  (.cond (.t 42) (.seq (.region [⟨some 44, none, .mov (.t 1)⟩,
    ⟨some 45, none, .mov (.t 2)⟩,
    ⟨some 46, none, .bin .or (.t 44) (.t 45)⟩,
    ⟨some 6, none, .mov (.t 46)⟩] [6])
  .ret)
  (.seq (.region [⟨some 48, none, .bin .eql (.t 7) (.c (.int .u8 8))⟩,
    ⟨some 47, none, .mov (.t 48)⟩] [1, 2, 7, 47])
  (.cond (.t 47) (.seq (.region [⟨some 49, none, .mov (.t 1)⟩,
    ⟨some 50, none, .mov (.t 2)⟩,
    ⟨some 51, none, .bin .xor (.t 49) (.t 50)⟩,
    ⟨some 6, none, .mov (.t 51)⟩] [6])
  .ret)
  (.seq (.region [⟨some 53, none, .bin .eql (.t 7) (.c (.int .u8 12))⟩,
    ⟨some 52, none, .mov (.t 53)⟩] [1, 2, 7, 52])
  (.cond (.t 52) (.seq (.region [⟨some 54, none, .mov (.t 1)⟩,
    ⟨some 55, none, .mov (.t 2)⟩,
    ⟨some 56, none, .bin .and (.t 54) (.t 55)⟩,
    ⟨some 6, none, .mov (.t 56)⟩] [6])
  .ret)
  (.seq (.region [⟨some 58, none, .bin .eql (.t 7) (.c (.int .u8 9))⟩,
    ⟨some 57, none, .mov (.t 58)⟩] [1, 2, 7, 57])
  (.cond (.t 57) (.seq (.region [⟨some 59, none, .mov (.t 1)⟩,
    ⟨some 60, none, .mov (.t 2)⟩,
    ⟨some 61, none, .bin .mul (.t 59) (.t 60)⟩,
    ⟨some 6, none, .mov (.t 61)⟩] [6])
  .ret)
  (.seq (.region [⟨some 63, none, .bin .eql (.t 7) (.c (.int .u8 10))⟩,
    ⟨some 62, none, .mov (.t 63)⟩] [1, 2, 7, 62])
  (.cond (.t 62) (.seq (.seq (.region [⟨some 64, none, .mov (.t 2)⟩,
    ⟨some 65, none, .bin .eql (.t 64) (.c (.int .u64 0))⟩] [1, 2, 65])
  (.cond (.t 65) (.goto 0)
  .skip))
  (.seq (.region [⟨some 66, none, .mov (.t 1)⟩,
    ⟨some 67, none, .mov (.t 2)⟩,
    ⟨some 68, none, .bin .quo (.t 66) (.t 67)⟩,
    ⟨some 6, none, .mov (.t 68)⟩] [6])
  .ret))
  (.seq (.region [⟨some 70, none, .bin .eql (.t 7) (.c (.int .u8 11))⟩,
    ⟨some 69, none, .mov (.t 70)⟩] [1, 2, 69])
  (.cond (.t 69) (.seq (.seq (.region [⟨some 71, none, .mov (.t 2)⟩,
    ⟨some 72, none, .bin .eql (.t 71) (.c (.int .u64 0))⟩] [1, 2, 72])
  (.cond (.t 72) (.goto 0)
  .skip))
  (.seq (.region [⟨some 73, none, .mov (.t 1)⟩,
    ⟨some 74, none, .mov (.t 2)⟩,
    ⟨some 75, none, .bin .rem (.t 73) (.t 74)⟩,
    ⟨some 6, none, .mov (.t 75)⟩] [6])
  .ret))
  .skip))))))))))))))))))))))))))
  (.seq (.label 0)
  i94_L0))

/-- troth/num.Do -/
def i94 : AFunc := ⟨3, 76, [.tmp 6],
  (.seq (.region [⟨some 6, none, .mov (.c (.int .u64 0))⟩] [0, 1, 2])
  (.scope i94_L1))⟩

/-- troth/trothref01.Sides -/
def i95 : AFunc := ⟨1, 15, [.tmp 2],
  (.seq (.region [⟨some 2, none, .mov (.c (.int .i64 0))⟩] [0])
  (.seq (.seq (.region [⟨some 3, none, .mov (.t 0)⟩,
    ⟨some 4, none, .bin .eql (.t 3) (.c (.int .u8 13))⟩,
    ⟨some 5, none, .mov (.t 4)⟩,
    ⟨some 6, (some (5, false)), .mov (.t 0)⟩,
    ⟨some 7, (some (5, false)), .bin .eql (.t 6) (.c (.int .u8 14))⟩,
    ⟨some 8, none, .pick (.t 5) (.c (.bool true)) (.t 7)⟩] [0, 8])
  (.cond (.t 8) (.seq (.region [⟨some 2, none, .mov (.c (.int .i64 1))⟩] [2])
  .ret)
  .skip))
  (.seq (.seq (.region [⟨some 9, none, .mov (.t 0)⟩,
    ⟨some 10, none, .bin .gtr (.t 9) (.c (.int .u8 0))⟩,
    ⟨some 11, none, .mov (.t 10)⟩,
    ⟨some 12, (some (11, true)), .mov (.t 0)⟩,
    ⟨some 13, (some (11, true)), .bin .lss (.t 12) (.c (.int .u8 13))⟩,
    ⟨some 14, none, .pick (.t 11) (.t 13) (.c (.bool false))⟩] [14])
  (.cond (.t 14) (.seq (.region [⟨some 2, none, .mov (.c (.int .i64 2))⟩] [2])
  .ret)
  .skip))
  (.seq (.region [⟨some 2, none, .mov (.c (.int .i64 0))⟩] [2])
  .ret))))⟩

/-- troth/trothref03.Leaf -/
def i96 : AFunc := ⟨1, 37, [.tmp 2],
  (.seq (.region [⟨some 1, none, .ibox (.t 0)⟩,
    ⟨some 2, none, .mov (.c (.bool false))⟩] [1])
  (.seq (.seq (.region [⟨some 3, none, .faddr 0 (.t 1)⟩,
    ⟨some 4, none, .load none (.t 3)⟩] [1, 4])
  (.block 0 (.seq (.region [⟨some 6, none, .bin .eql (.t 4) (.c (.int .u8 0))⟩,
    ⟨some 5, none, .mov (.t 6)⟩] [1, 4, 5])
  (.cond (.t 5) (.seq (.region [⟨some 2, none, .mov (.c (.bool true))⟩] [2])
  .ret)
  (.seq (.region [⟨some 8, none, .bin .eql (.t 4) (.c (.int .u8 1))⟩,
    ⟨some 7, none, .mov (.t 8)⟩] [1, 4, 7])
  (.cond (.t 7) (.seq (.region [⟨some 9, none, .faddr 4 (.t 1)⟩,
    ⟨some 10, none, .load none (.t 9)⟩,
    ⟨some 11, none, .bin .lss (.t 10) (.c (.int .u8 8))⟩,
    ⟨some 2, none, .mov (.t 11)⟩] [2])
  .ret)
  (.seq (.region [⟨some 13, none, .bin .eql (.t 4) (.c (.int .u8 2))⟩,
    ⟨some 12, none, .mov (.t 13)⟩] [1, 4, 12])
  (.cond (.t 12) (.seq (.region [⟨some 14, none, .faddr 3 (.t 1)⟩,
    ⟨some 15, none, .load none (.t 14)⟩,
    ⟨some 16, none, .bin .lss (.t 15) (.c (.int .u8 4))⟩,
    ⟨some 17, none, .mov (.t 16)⟩,
    ⟨some 18, (some (17, true)), .faddr 4 (.t 1)⟩,
    ⟨some 19, (some (17, true)), .load none (.t 18)⟩,
    ⟨some 20, (some (17, true)), .bin .lss (.t 19) (.c (.int .u8 8))⟩,
    ⟨some 21, none, .pick (.t 17) (.t 20) (.c (.bool false))⟩,
    ⟨some 2, none, .mov (.t 21)⟩] [2])
  .ret)
  (.seq (.region [⟨some 23, none, .bin .eql (.t 4) (.c (.int .u8 3))⟩,
    ⟨some 22, none, .mov (.t 23)⟩] [1, 22])
  (.cond (.t 22) (.seq (.region [⟨some 24, none, .faddr 5 (.t 1)⟩,
    ⟨some 25, none, .load none (.t 24)⟩,
    ⟨some 26, none, .bin .geq (.t 25) (.c (.int .u8 97))⟩,
    ⟨some 27, none, .mov (.t 26)⟩,
    ⟨some 28, (some (27, true)), .faddr 5 (.t 1)⟩,
    ⟨some 29, (some (27, true)), .load none (.t 28)⟩,
    ⟨some 30, (some (27, true)), .bin .leq (.t 29) (.c (.int .u8 122))⟩,
    ⟨some 31, none, .pick (.t 27) (.t 30) (.c (.bool false))⟩,
    ⟨some 32, none, .mov (.t 31)⟩,
    ⟨some 33, (some (32, true)), .faddr 5 (.t 1)⟩,
    ⟨some 34, (some (32, true)), .load none (.t 33)⟩,
    ⟨some 35, (some (32, true)), .bin .neq (.t 34) (.c (.int .u8 114))⟩,
    ⟨some 36, none, .pick (.t 32) (.t 35) (.c (.bool false))⟩,
    ⟨some 2, none, .mov (.t 36)⟩] [2])
  .ret)
  .skip))))))))))
  (.seq (.region [⟨some 2, none, .mov (.c (.bool false))⟩] [2])
  .ret)))⟩

/-- troth/trothref01.truth -/
def i97 : AFunc := ⟨1, 4, [.tmp 2],
  (.seq (.region [⟨some 2, none, .mov (.c (.int .u64 0))⟩] [0])
  (.seq (.seq (.region [⟨some 3, none, .mov (.t 0)⟩] [3])
  (.cond (.t 3) (.seq (.region [⟨some 2, none, .mov (.c (.int .u64 1))⟩] [2])
  .ret)
  .skip))
  (.seq (.region [⟨some 2, none, .mov (.c (.int .u64 0))⟩] [2])
  .ret)))⟩

def i98_L0 : ACode :=
  (.seq (.seq (.region [⟨some 13, none, .mov (.t 9)⟩,
    ⟨some 14, none, .bin .lss (.t 13) (.c (.int .i64 64))⟩] [0, 1, 2, 7, 8, 9, 14])
  (.cond (.t 14) .skip
  (.exit 0)))
  (.seq (.block 1 (.seq (.region [⟨some 17, none, .mov (.t 1)⟩,
    ⟨some 18, none, .bin .rem (.t 17) (.c (.int .u64 2))⟩,
    ⟨some 19, none, .mov (.t 2)⟩,
    ⟨some 20, none, .bin .rem (.t 19) (.c (.int .u64 2))⟩,
    ⟨some 10, none, .mov (.t 18)⟩,
    ⟨some 11, none, .mov (.t 20)⟩] [0, 1, 2, 7, 8, 9, 10, 11])
  (.seq (.region [⟨some 21, none, .mov (.t 10)⟩,
    ⟨some 22, none, .mov (.t 11)⟩,
    ⟨some 23, none, .bin .add (.t 21) (.t 22)⟩,
    ⟨some 24, none, .bin .gtr (.t 23) (.c (.int .u64 0))⟩,
    ⟨some 12, none, .mov (.t 24)⟩] [0, 1, 2, 7, 8, 9, 10, 11, 12])
  (.seq (.seq (.region [⟨some 25, none, .mov (.t 0)⟩,
    ⟨some 26, none, .bin .eql (.t 25) (.c (.int .i64 1))⟩] [0, 1, 2, 7, 8, 9, 10, 11, 12, 26])
  (.cond (.t 26) (.region [⟨some 27, none, .mov (.t 10)⟩,
    ⟨some 28, none, .mov (.t 11)⟩,
    ⟨some 29, none, .bin .neq (.t 27) (.t 28)⟩,
    ⟨some 12, none, .mov (.t 29)⟩] [0, 1, 2, 7, 8, 9, 10, 11, 12])
  .skip))
  (.seq (.seq (.region [⟨some 30, none, .mov (.t 0)⟩,
    ⟨some 31, none, .bin .eql (.t 30) (.c (.int .i64 2))⟩] [0, 1, 2, 7, 8, 9, 10, 11, 12, 31])
  (.cond (.t 31) (.region [⟨some 32, none, .mov (.t 10)⟩,
    ⟨some 33, none, .mov (.t 11)⟩,
    ⟨some 34, none, .bin .add (.t 32) (.t 33)⟩,
    ⟨some 35, none, .bin .eql (.t 34) (.c (.int .u64 2))⟩,
    ⟨some 12, none, .mov (.t 35)⟩] [0, 1, 2, 7, 8, 9, 12])
  .skip))
  (.seq (.seq (.region [⟨some 36, none, .mov (.t 12)⟩] [0, 1, 2, 7, 8, 9, 36])
  (.cond (.t 36) (.region [⟨some 37, none, .mov (.t 7)⟩,
    ⟨some 38, none, .mov (.t 8)⟩,
    ⟨some 39, none, .bin .add (.t 37) (.t 38)⟩,
    ⟨some 7, none, .mov (.t 39)⟩] [0, 1, 2, 7, 8, 9])
  .skip))
  (.seq (.region [⟨some 40, none, .mov (.t 1)⟩,
    ⟨some 41, none, .bin .quo (.t 40) (.c (.int .u64 2))⟩,
    ⟨some 1, none, .mov (.t 41)⟩] [0, 1, 2, 7, 8, 9])
  (.seq (.region [⟨some 42, none, .mov (.t 2)⟩,
    ⟨some 43, none, .bin .quo (.t 42) (.c (.int .u64 2))⟩,
    ⟨some 2, none, .mov (.t 43)⟩] [0, 1, 2, 7, 8, 9])
  (.region [⟨some 44, none, .mov (.t 8)⟩,
    ⟨some 45, none, .bin .mul (.t 44) (.c (.int .u64 2))⟩,
    ⟨some 8, none, .mov (.t 45)⟩] [0, 1, 2, 7, 8, 9])))))))))
  (.region [⟨some 15, none, .mov (.t 9)⟩,
    ⟨some 16, none, .bin .add (.t 15) (.c (.int .i64 1))⟩,
    ⟨some 9, none, .mov (.t 16)⟩] [0, 1, 2, 7, 8, 9])))

/-- troth/trothref01.bitwise -/
def i98 : AFunc := ⟨3, 47, [.tmp 6],
  (.seq (.region [⟨some 6, none, .mov (.c (.int .u64 0))⟩] [0, 1, 2])
  (.seq (.region [⟨some 7, none, .mov (.c (.int .u64 0))⟩] [0, 1, 2, 7])
  (.seq (.region [⟨some 8, none, .mov (.c (.int .u64 1))⟩] [0, 1, 2, 7, 8])
  (.seq (.seq (.region [⟨some 9, none, .mov (.c (.int .i64 0))⟩] [0, 1, 2, 7, 8, 9])
  (.block 0 (.loop [0, 1, 2, 7, 8, 9] i98_L0)))
  (.seq (.region [⟨some 46, none, .mov (.t 7)⟩,
    ⟨some 6, none, .mov (.t 46)⟩] [6])
  .ret)))))⟩

def i99_L0 : ACode :=
  (.seq (.region [⟨some 102, none, .bin .lss (.t 101) (.t 100)⟩] [1, 8, 9, 10, 11, 12, 13, 99, 100, 101, 102])
  (.seq (.cond (.t 102) .skip
  (.exit 3))
  (.seq (.block 4 (.seq (.region [⟨some 103, none, .idxas 1 (.t 99) (.t 101)⟩,
    ⟨some 104, none, .load none (.t 103)⟩,
    ⟨some 15, none, .mov (.t 104)⟩] [1, 8, 9, 10, 11, 12, 13, 15, 99, 100, 101])
  (.seq (.region [⟨some 16, none, .mov (.c (.int .u8 0))⟩] [1, 8, 9, 10, 11, 12, 13, 15, 99, 100, 101])
  (.seq (.block 5 (.seq (.region [⟨some 107, none, .mov (.t 15)⟩,
    ⟨some 108, none, .bin .eql (.t 107) (.c (.int .u8 95))⟩,
    ⟨some 109, none, .mov (.t 108)⟩,
    ⟨some 110, (some (109, true)), .mov (.t 8)⟩,
    ⟨some 111, none, .pick (.t 109) (.t 110) (.c (.bool false))⟩,
    ⟨some 106, none, .mov (.t 111)⟩] [1, 8, 9, 10, 11, 12, 13, 15, 99, 100, 101, 106])
  (.cond (.t 106) (.seq (.region [⟨some 12, none, .mov (.c (.bool true))⟩] [1, 8, 9, 10, 11, 12, 13, 99, 100, 101])
  (.exit 4))
  (.seq (.region [⟨some 113, none, .mov (.t 15)⟩,
    ⟨some 114, none, .bin .leq (.c (.int .u8 48)) (.t 113)⟩,
    ⟨some 115, none, .mov (.t 114)⟩,
    ⟨some 116, (some (115, true)), .mov (.t 15)⟩,
    ⟨some 117, (some (115, true)), .bin .leq (.t 116) (.c (.int .u8 57))⟩,
    ⟨some 118, none, .pick (.t 115) (.t 117) (.c (.bool false))⟩,
    ⟨some 112, none, .mov (.t 118)⟩] [1, 8, 9, 10, 11, 12, 13, 15, 99, 100, 101, 112])
  (.cond (.t 112) (.region [⟨some 119, none, .mov (.t 15)⟩,
    ⟨some 120, none, .bin .sub (.t 119) (.c (.int .u8 48))⟩,
    ⟨some 16, none, .mov (.t 120)⟩] [1, 8, 9, 10, 11, 12, 13, 16, 99, 100, 101])
  (.seq (.region [⟨some 122, none, .mov (.t 15)⟩,
    ⟨some 123, none, .call false 114 [(.t 122)]⟩,
    ⟨some 124, none, .bin .leq (.c (.int .u8 97)) (.t 123)⟩,
    ⟨some 125, none, .mov (.t 124)⟩,
    ⟨some 126, (some (125, true)), .mov (.t 15)⟩,
    ⟨some 127, (some (125, true)), .call false 114 [(.t 126)]⟩,
    ⟨some 128, (some (125, true)), .bin .leq (.t 127) (.c (.int .u8 122))⟩,
    ⟨some 129, none, .pick (.t 125) (.t 128) (.c (.bool false))⟩,
    ⟨some 121, none, .mov (.t 129)⟩] [1, 8, 9, 10, 11, 12, 13, 15, 99, 100, 101, 121])
  (.cond (.t 121) (.region [⟨some 130, none, .mov (.t 15)⟩,
    ⟨some 131, none, .call false 114 [(.t 130)]⟩,
    ⟨some 132, none, .bin .sub (.t 131) (.c (.int .u8 97))⟩,
    ⟨some 133, none, .bin .add (.t 132) (.c (.int .u8 10))⟩,
    ⟨some 16, none, .mov (.t 133)⟩] [1, 8, 9, 10, 11, 12, 13, 16, 99, 100, 101])
  (.seq (.region [⟨some 105, none, .mkif 151 (.c (.int .i64 2))⟩,
    ⟨some 6, none, .mov (.c (.int .u64 0))⟩,
    ⟨some 7, none, .mov (.t 105)⟩] [6, 7])
  .ret))))))))
  (.seq (.seq (.region [⟨some 134, none, .mov (.t 16)⟩,
    ⟨some 135, none, .mov (.t 1)⟩,
    ⟨some 136, none, .cvi .u8 (.t 135)⟩,
    ⟨some 137, none, .bin .geq (.t 134) (.t 136)⟩] [1, 8, 9, 10, 11, 12, 13, 16, 99, 100, 101, 137])
  (.cond (.t 137) (.seq (.region [⟨some 138, none, .mkif 151 (.c (.int .i64 2))⟩,
    ⟨some 6, none, .mov (.c (.int .u64 0))⟩,
    ⟨some 7, none, .mov (.t 138)⟩] [6, 7])
  .ret)
  .skip))
  (.seq (.seq (.region [⟨some 139, none, .mov (.t 13)⟩,
    ⟨some 140, none, .mov (.t 10)⟩,
    ⟨some 141, none, .bin .geq (.t 139) (.t 140)⟩] [1, 8, 9, 10, 11, 12, 13, 16, 99, 100, 101, 141])
  (.cond (.t 141) (.seq (.region [⟨some 142, none, .mov (.t 11)⟩,
    ⟨some 143, none, .mkif 151 (.c (.int .i64 1))⟩,
    ⟨some 6, none, .mov (.t 142)⟩,
    ⟨some 7, none, .mov (.t 143)⟩] [6, 7])
  .ret)
  .skip))
  (.seq (.region [⟨some 144, none, .mov (.t 13)⟩,
    ⟨some 145, none, .mov (.t 1)⟩,
    ⟨some 146, none, .cvi .u64 (.t 145)⟩,
    ⟨some 147, none, .bin .mul (.t 144) (.t 146)⟩,
    ⟨some 13, none, .mov (.t 147)⟩] [1, 8, 9, 10, 11, 12, 13, 16, 99, 100, 101])
  (.seq (.region [⟨some 148, none, .mov (.t 13)⟩,
    ⟨some 149, none, .mov (.t 16)⟩,
    ⟨some 150, none, .cvi .u64 (.t 149)⟩,
    ⟨some 151, none, .bin .add (.t 148) (.t 150)⟩,
    ⟨some 17, none, .mov (.t 151)⟩] [1, 8, 9, 10, 11, 12, 13, 17, 99, 100, 101])
  (.seq (.seq (.region [⟨some 152, none, .mov (.t 17)⟩,
    ⟨some 153, none, .mov (.t 13)⟩,
    ⟨some 154, none, .bin .lss (.t 152) (.t 153)⟩,
    ⟨some 155, none, .mov (.t 154)⟩,
    ⟨some 156, (some (155, false)), .mov (.t 17)⟩,
    ⟨some 157, (some (155, false)), .mov (.t 11)⟩,
    ⟨some 158, (some (155, false)), .bin .gtr (.t 156) (.t 157)⟩,
    ⟨some 159, none, .pick (.t 155) (.c (.bool true)) (.t 158)⟩] [1, 8, 9, 10, 11, 12, 17, 99, 100, 101, 159])
  (.cond (.t 159) (.seq (.region [⟨some 160, none, .mov (.t 11)⟩,
    ⟨some 161, none, .mkif 151 (.c (.int .i64 1))⟩,
    ⟨some 6, none, .mov (.t 160)⟩,
    ⟨some 7, none, .mov (.t 161)⟩] [6, 7])
  .ret)
  .skip))
  (.region [⟨some 162, none, .mov (.t 17)⟩,
    ⟨some 13, none, .mov (.t 162)⟩] [1, 8, 9, 10, 11, 12, 13, 99, 100, 101]))))))))))
  (.region [⟨some 163, none, .bin .add (.t 101) (.c (.int .i64 1))⟩,
    ⟨some 101, none, .mov (.t 163)⟩] [1, 8, 9, 10, 11, 12, 13, 99, 100, 101]))))

/-- internal/strconv.ParseUint -/
def i99 : AFunc := ⟨3, 172, [.tmp 6, .tmp 7],
  (.seq (.region [⟨some 6, none, .mov (.c (.int .u64 0))⟩,
    ⟨some 7, none, .mov (.c .nili)⟩] [0, 1, 2])
  (.seq (.seq (.region [⟨some 18, none, .mov (.t 0)⟩,
    ⟨some 19, none, .bin .eql (.t 18) (.c (.str []))⟩] [0, 1, 2, 19])
  (.cond (.t 19) (.seq (.region [⟨some 20, none, .mkif 151 (.c (.int .i64 2))⟩,
    ⟨some 6, none, .mov (.c (.int .u64 0))⟩,
    ⟨some 7, none, .mov (.t 20)⟩] [6, 7])
  .ret)
  .skip))
  (.seq (.region [⟨some 21, none, .mov (.t 1)⟩,
    ⟨some 22, none, .bin .eql (.t 21) (.c (.int .i64 0))⟩,
    ⟨some 8, none, .mov (.t 22)⟩] [0, 1, 2, 8])
  (.seq (.region [⟨some 23, none, .mov (.t 0)⟩,
    ⟨some 9, none, .mov (.t 23)⟩] [0, 1, 2, 8, 9])
  (.seq (.block 0 (.seq (.region [⟨some 26, none, .mov (.t 1)⟩,
    ⟨some 27, none, .bin .leq (.c (.int .i64 2)) (.t 26)⟩,
    ⟨some 28, none, .mov (.t 27)⟩,
    ⟨some 29, (some (28, true)), .mov (.t 1)⟩,
    ⟨some 30, (some (28, true)), .bin .leq (.t 29) (.c (.int .i64 36))⟩,
    ⟨some 31, none, .pick (.t 28) (.t 30) (.c (.bool false))⟩,
    ⟨some 25, none, .mov (.t 31)⟩] [0, 1, 2, 8, 9, 25])
  (.cond (.t 25) .skip
  (.seq (.region [⟨some 33, none, .mov (.t 1)⟩,
    ⟨some 34, none, .bin .eql (.t 33) (.c (.int .i64 0))⟩,
    ⟨some 32, none, .mov (.t 34)⟩] [0, 2, 8, 9, 32])
  (.cond (.t 32) (.seq (.region [⟨some 1, none, .mov (.c (.int .i64 10))⟩] [0, 1, 2, 8, 9])
  (.seq (.region [⟨some 35, none, .mov (.t 0)⟩,
    ⟨some 36, none, .idxstr (.t 35) (.c (.int .i64 0))⟩,
    ⟨some 37, none, .bin .eql (.t 36) (.c (.int .u8 48))⟩] [0, 1, 2, 8, 9, 37])
  (.cond (.t 37) (.block 1 (.seq (.region [⟨some 41, none, .mov (.t 0)⟩,
    ⟨some 42, none, .lenstr (.t 41)⟩,
    ⟨some 43, none, .bin .geq (.t 42) (.c (.int .i64 3))⟩,
    ⟨some 44, none, .mov (.t 43)⟩,
    ⟨some 45, (some (44, true)), .mov (.t 0)⟩,
    ⟨some 46, (some (44, true)), .idxstr (.t 45) (.c (.int .i64 1))⟩,
    ⟨some 47, (some (44, true)), .call false 114 [(.t 46)]⟩,
    ⟨some 48, (some (44, true)), .bin .eql (.t 47) (.c (.int .u8 98))⟩,
    ⟨some 49, none, .pick (.t 44) (.t 48) (.c (.bool false))⟩,
    ⟨some 40, none, .mov (.t 49)⟩] [0, 2, 8, 9, 40])
  (.cond (.t 40) (.seq (.region [⟨some 1, none, .mov (.c (.int .i64 2))⟩] [0, 1, 2, 8, 9])
  (.region [⟨some 50, none, .mov (.t 0)⟩,
    ⟨some 51, none, .slstr (.t 50) (some (.c (.int .i64 2))) none⟩,
    ⟨some 0, none, .mov (.t 51)⟩] [0, 1, 2, 8, 9]))
  (.seq (.region [⟨some 53, none, .mov (.t 0)⟩,
    ⟨some 54, none, .lenstr (.t 53)⟩,
    ⟨some 55, none, .bin .geq (.t 54) (.c (.int .i64 3))⟩,
    ⟨some 56, none, .mov (.t 55)⟩,
    ⟨some 57, (some (56, true)), .mov (.t 0)⟩,
    ⟨some 58, (some (56, true)), .idxstr (.t 57) (.c (.int .i64 1))⟩,
    ⟨some 59, (some (56, true)), .call false 114 [(.t 58)]⟩,
    ⟨some 60, (some (56, true)), .bin .eql (.t 59) (.c (.int .u8 111))⟩,
    ⟨some 61, none, .pick (.t 56) (.t 60) (.c (.bool false))⟩,
    ⟨some 52, none, .mov (.t 61)⟩] [0, 2, 8, 9, 52])
  (.cond (.t 52) (.seq (.region [⟨some 1, none, .mov (.c (.int .i64 8))⟩] [0, 1, 2, 8, 9])
  (.region [⟨some 62, none, .mov (.t 0)⟩,
    ⟨some 63, none, .slstr (.t 62) (some (.c (.int .i64 2))) none⟩,
    ⟨some 0, none, .mov (.t 63)⟩] [0, 1, 2, 8, 9]))
  (.seq (.region [⟨some 65, none, .mov (.t 0)⟩,
    ⟨some 66, none, .lenstr (.t 65)⟩,
    ⟨some 67, none, .bin .geq (.t 66) (.c (.int .i64 3))⟩,
    ⟨some 68, none, .mov (.t 67)⟩,
    ⟨some 69, (some (68, true)), .mov (.t 0)⟩,
    ⟨some 70, (some (68, true)), .idxstr (.t 69) (.c (.int .i64 1))⟩,
    ⟨some 71, (some (68, true)), .call false 114 [(.t 70)]⟩,
    ⟨some 72, (some (68, true)), .bin .eql (.t 71) (.c (.int .u8 120))⟩,
    ⟨some 73, none, .pick (.t 68) (.t 72) (.c (.bool false))⟩,
    ⟨some 64, none, .mov (.t 73)⟩] [0, 2, 8, 9, 64])
  (.cond (.t 64) (.seq (.region [⟨some 1, none, .mov (.c (.int .i64 16))⟩] [0, 1, 2, 8, 9])
  (.region [⟨some 74, none, .mov (.t 0)⟩,
    ⟨some 75, none, .slstr (.t 74) (some (.c (.int .i64 2))) none⟩,
    ⟨some 0, none, .mov (.t 75)⟩] [0, 1, 2, 8, 9]))
  (.seq (.region [⟨some 1, none, .mov (.c (.int .i64 8))⟩] [0, 1, 2, 8, 9])
  (.region [⟨some 38, none, .mov (.t 0)⟩,
    ⟨some 39, none, .slstr (.t 38) (some (.c (.int .i64 1))) none⟩,
    ⟨some 0, none, .mov (.t 39)⟩] [0, 1, 2, 8, 9])))))))))
  .skip)))
  (.seq (.region [⟨some 24, none, .mkif 151 (.c (.int .i64 3))⟩,
    ⟨some 6, none, .mov (.c (.int .u64 0))⟩,
    ⟨some 7, none, .mov (.t 24)⟩] [6, 7])
  .ret))))))
  (.seq (.seq (.region [⟨some 76, none, .mov (.t 2)⟩,
    ⟨some 77, none, .bin .eql (.t 76) (.c (.int .i64 0))⟩] [0, 1, 2, 8, 9, 77])
  (.cond (.t 77) (.region [⟨some 2, none, .mov (.c (.int .i64 64))⟩] [0, 1, 2, 8, 9])
  (.seq (.region [⟨some 78, none, .mov (.t 2)⟩,
    ⟨some 79, none, .bin .lss (.t 78) (.c (.int .i64 0))⟩,
    ⟨some 80, none, .mov (.t 79)⟩,
    ⟨some 81, (some (80, false)), .mov (.t 2)⟩,
    ⟨some 82, (some (80, false)), .bin .gtr (.t 81) (.c (.int .i64 64))⟩,
    ⟨some 83, none, .pick (.t 80) (.c (.bool true)) (.t 82)⟩] [0, 1, 2, 8, 9, 83])
  (.cond (.t 83) (.seq (.region [⟨some 84, none, .mkif 151 (.c (.int .i64 4))⟩,
    ⟨some 6, none, .mov (.c (.int .u64 0))⟩,
    ⟨some 7, none, .mov (.t 84)⟩] [6, 7])
  .ret)
  .skip))))
  (.seq (.region [⟨some 10, none, .mov (.c (.int .u64 0))⟩] [0, 1, 2, 8, 9])
  (.seq (.seq (.region [⟨some 85, none, .mov (.t 1)⟩] [0, 1, 2, 8, 9, 85])
  (.block 2 (.seq (.region [⟨some 91, none, .bin .eql (.t 85) (.c (.int .i64 10))⟩,
    ⟨some 90, none, .mov (.t 91)⟩] [0, 1, 2, 8, 9, 85, 90])
  (.cond (.t 90) (.region [⟨some 10, none, .mov (.c (.int .u64 1844674407370955162))⟩] [0, 1, 2, 8, 9, 10])
  (.seq (.region [⟨some 93, none, .bin .eql (.t 85) (.c (.int .i64 16))⟩,
    ⟨some 92, none, .mov (.t 93)⟩] [0, 1, 2, 8, 9, 92])
  (.cond (.t 92) (.region [⟨some 10, none, .mov (.c (.int .u64 1152921504606846976))⟩] [0, 1, 2, 8, 9, 10])
  (.region [⟨some 86, none, .mov (.t 1)⟩,
    ⟨some 87, none, .cvi .u64 (.t 86)⟩,
    ⟨some 88, none, .bin .quo (.c (.int .u64 18446744073709551615)) (.t 87)⟩,
    ⟨some 89, none, .bin .add (.t 88) (.c (.int .u64 1))⟩,
    ⟨some 10, none, .mov (.t 89)⟩] [0, 1, 2, 8, 9, 10])))))))
  (.seq (.region [⟨some 94, none, .mov (.t 2)⟩,
    ⟨some 95, none, .cvi .u64 (.t 94)⟩,
    ⟨some 96, none, .bin .shl (.c (.int .u64 1)) (.t 95)⟩,
    ⟨some 97, none, .bin .sub (.t 96) (.c (.int .u64 1))⟩,
    ⟨some 11, none, .mov (.t 97)⟩] [0, 1, 8, 9, 10, 11])
  (.seq (.region [⟨some 12, none, .mov (.c (.bool false))⟩] [0, 1, 8, 9, 10, 11, 12])
  (.seq (.region [⟨some 13, none, .mov (.c (.int .u64 0))⟩] [0, 1, 8, 9, 10, 11, 12, 13])
  (.seq (.seq (.region [⟨some 98, none, .mov (.t 0)⟩,
    ⟨some 99, none, .cvs2b 5 (.t 98)⟩,
    ⟨some 100, none, .lensl (.t 99)⟩,
    ⟨some 101, none, .mov (.c (.int .i64 0))⟩] [1, 8, 9, 10, 11, 12, 13, 99, 100, 101])
  (.block 3 (.loop [1, 8, 9, 10, 11, 12, 13, 99, 100, 101] i99_L0)))
  (.seq (.seq (.region [⟨some 164, none, .mov (.t 12)⟩,
    ⟨some 165, none, .mov (.t 164)⟩,
    ⟨some 166, (some (165, true)), .mov (.t 9)⟩,
    ⟨some 167, (some (165, true)), .call false 115 [(.t 166)]⟩,
    ⟨some 168, (some (165, true)), .un .not (.t 167)⟩,
    ⟨some 169, none, .pick (.t 165) (.t 168) (.c (.bool false))⟩] [13, 169])
  (.cond (.t 169) (.seq (.region [⟨some 170, none, .mkif 151 (.c (.int .i64 2))⟩,
    ⟨some 6, none, .mov (.c (.int .u64 0))⟩,
    ⟨some 7, none, .mov (.t 170)⟩] [6, 7])
  .ret)
  .skip))
  (.seq (.region [⟨some 171, none, .mov (.t 13)⟩,
    ⟨some 6, none, .mov (.t 171)⟩,
    ⟨some 7, none, .mov (.c .nili)⟩] [6, 7])
  .ret))))))))))))))⟩

/-- strings.Contains -/
def i101 : AFunc := ⟨2, 9, [.tmp 4],
  (.seq (.region [⟨some 4, none, .mov (.c (.bool false))⟩] [0, 1])
  (.seq (.region [⟨some 5, none, .mov (.t 0)⟩,
    ⟨some 6, none, .mov (.t 1)⟩,
    ⟨some 7, none, .call false 120 [(.t 5), (.t 6)]⟩,
    ⟨some 8, none, .bin .geq (.t 7) (.c (.int .i64 0))⟩,
    ⟨some 4, none, .mov (.t 8)⟩] [4])
  .ret))⟩

def i102_L0 : ACode :=
  (.seq (.region [⟨some 18, none, .bin .lss (.t 17) (.t 16)⟩] [1, 2, 15, 16, 17, 18])
  (.seq (.cond (.t 18) .skip
  (.exit 0))
  (.seq (.block 1 (.seq (.region [⟨some 19, none, .mov (.t 17)⟩,
    ⟨some 20, none, .idxas 8 (.t 15) (.t 17)⟩,
    ⟨some 21, none, .load (some 8) (.t 20)⟩,
    ⟨some 8, none, .alloc [(.int .u8 0), (.int .u8 0), (.int .u8 0), (.int .u8 0), .nilp, .nilp, (.sl 8 [] .exact), (.sl 8 [] .exact)] 72⟩,
    ⟨some 7, none, .mov (.t 19)⟩,
    ⟨none, none, .store 8 (.t 8) (.t 21)⟩] [1, 2, 7, 8, 15, 16, 17])
  (.seq (.region [⟨some 22, none, .mov (.t 1)⟩,
    ⟨some 23, none, .mov (.t 7)⟩,
    ⟨some 24, none, .idxas 8 (.t 22) (.t 23)⟩,
    ⟨some 25, none, .load (some 8) (.t 24)⟩,
    ⟨some 9, none, .alloc [(.int .u8 0), (.int .u8 0), (.int .u8 0), (.int .u8 0), .nilp, .nilp, (.sl 8 [] .exact), (.sl 8 [] .exact)] 72⟩,
    ⟨none, none, .store 8 (.t 9) (.t 25)⟩] [1, 2, 8, 9, 15, 16, 17])
  (.seq (.region [⟨some 26, none, .mov (.t 2)⟩,
    ⟨some 27, none, .load (some 8) (.t 8)⟩,
    ⟨some 28, none, .load (some 8) (.t 9)⟩,
    ⟨some 29, none, .callv true (.t 26) [(.t 27), (.t 28)]⟩,
    ⟨some 30, none, .un .not (.t 29)⟩] [1, 2, 15, 16, 17, 30])
  (.cond (.t 30) (.seq (.region [⟨some 6, none, .mov (.c (.bool false))⟩] [6])
  .ret)
  .skip)))))
  (.region [⟨some 31, none, .bin .add (.t 17) (.c (.int .i64 1))⟩,
    ⟨some 17, none, .mov (.t 31)⟩] [1, 2, 15, 16, 17]))))

/-- slices.EqualFunc[[]troth/prog.Stmt,[]troth/prog.Stmt,troth/prog.Stmt,troth/prog.Stmt] -/
def i102 : AFunc := ⟨3, 32, [.tmp 6],
  (.seq (.region [⟨some 6, none, .mov (.c (.bool false))⟩] [0, 1, 2])
  (.seq (.seq (.region [⟨some 10, none, .mov (.t 0)⟩,
    ⟨some 11, none, .lensl (.t 10)⟩,
    ⟨some 12, none, .mov (.t 1)⟩,
    ⟨some 13, none, .lensl (.t 12)⟩,
    ⟨some 14, none, .bin .neq (.t 11) (.t 13)⟩] [0, 1, 2, 14])
  (.cond (.t 14) (.seq (.region [⟨some 6, none, .mov (.c (.bool false))⟩] [6])
  .ret)
  .skip))
  (.seq (.seq (.region [⟨some 15, none, .mov (.t 0)⟩,
    ⟨some 16, none, .lensl (.t 15)⟩,
    ⟨some 17, none, .mov (.c (.int .i64 0))⟩] [1, 2, 15, 16, 17])
  (.block 0 (.loop [1, 2, 15, 16, 17] i102_L0)))
  (.seq (.region [⟨some 6, none, .mov (.c (.bool true))⟩] [6])
  .ret))))⟩

/-- troth/prog.blocks$1 -/
def i103 : AFunc := ⟨3, 64, [.tmp 5],
  (.seq (.region [⟨some 3, none, .ibox (.t 0)⟩,
    ⟨some 4, none, .ibox (.t 1)⟩,
    ⟨some 5, none, .mov (.c (.bool false))⟩] [2, 3, 4])
  (.seq (.region [⟨some 6, none, .faddr 0 (.t 3)⟩,
    ⟨some 7, none, .load none (.t 6)⟩,
    ⟨some 8, none, .faddr 0 (.t 4)⟩,
    ⟨some 9, none, .load none (.t 8)⟩,
    ⟨some 10, none, .bin .eql (.t 7) (.t 9)⟩,
    ⟨some 11, none, .mov (.t 10)⟩,
    ⟨some 12, (some (11, true)), .faddr 1 (.t 3)⟩,
    ⟨some 13, (some (11, true)), .load none (.t 12)⟩,
    ⟨some 14, (some (11, true)), .faddr 1 (.t 4)⟩,
    ⟨some 15, (some (11, true)), .load none (.t 14)⟩,
    ⟨some 16, (some (11, true)), .bin .eql (.t 13) (.t 15)⟩,
    ⟨some 17, none, .pick (.t 11) (.t 16) (.c (.bool false))⟩,
    ⟨some 18, none, .mov (.t 17)⟩,
    ⟨some 19, (some (18, true)), .faddr 2 (.t 3)⟩,
    ⟨some 20, (some (18, true)), .load none (.t 19)⟩,
    ⟨some 21, (some (18, true)), .faddr 2 (.t 4)⟩,
    ⟨some 22, (some (18, true)), .load none (.t 21)⟩,
    ⟨some 23, (some (18, true)), .bin .eql (.t 20) (.t 22)⟩,
    ⟨some 24, none, .pick (.t 18) (.t 23) (.c (.bool false))⟩,
    ⟨some 25, none, .mov (.t 24)⟩,
    ⟨some 26, (some (25, true)), .faddr 3 (.t 3)⟩,
    ⟨some 27, (some (25, true)), .load none (.t 26)⟩,
    ⟨some 28, (some (25, true)), .faddr 3 (.t 4)⟩,
    ⟨some 29, (some (25, true)), .load none (.t 28)⟩,
    ⟨some 30, (some (25, true)), .bin .eql (.t 27) (.t 29)⟩,
    ⟨some 31, none, .pick (.t 25) (.t 30) (.c (.bool false))⟩,
    ⟨some 32, none, .mov (.t 31)⟩,
    ⟨some 33, (some (32, true)), .faddr 4 (.t 3)⟩,
    ⟨some 34, (some (32, true)), .load none (.t 33)⟩,
    ⟨some 35, (some (32, true)), .faddr 4 (.t 4)⟩,
    ⟨some 36, (some (32, true)), .load none (.t 35)⟩,
    ⟨some 37, (some (32, true)), .call false 77 [(.t 34), (.t 36)]⟩,
    ⟨some 38, none, .pick (.t 32) (.t 37) (.c (.bool false))⟩,
    ⟨some 39, none, .mov (.t 38)⟩,
    ⟨some 40, (some (39, true)), .faddr 5 (.t 3)⟩,
    ⟨some 41, (some (39, true)), .load none (.t 40)⟩,
    ⟨some 42, (some (39, true)), .faddr 5 (.t 4)⟩,
    ⟨some 43, (some (39, true)), .load none (.t 42)⟩,
    ⟨some 44, (some (39, true)), .call false 77 [(.t 41), (.t 43)]⟩,
    ⟨some 45, none, .pick (.t 39) (.t 44) (.c (.bool false))⟩,
    ⟨some 46, none, .mov (.t 45)⟩,
    ⟨some 47, (some (46, true)), .faddr 6 (.t 3)⟩,
    ⟨some 48, (some (46, true)), .load none (.t 47)⟩,
    ⟨some 49, (some (46, true)), .faddr 6 (.t 4)⟩,
    ⟨some 50, (some (46, true)), .load none (.t 49)⟩,
    ⟨some 51, (some (46, true)), .load none (.t 2)⟩,
    ⟨some 52, (some (46, true)), .bin .add (.t 51) (.c (.int .i64 1))⟩,
    ⟨some 53, (some (46, true)), .call false 80 [(.t 48), (.t 50), (.t 52)]⟩,
    ⟨some 54, none, .pick (.t 46) (.t 53) (.c (.bool false))⟩,
    ⟨some 55, none, .mov (.t 54)⟩,
    ⟨some 56, (some (55, true)), .faddr 7 (.t 3)⟩,
    ⟨some 57, (some (55, true)), .load none (.t 56)⟩,
    ⟨some 58, (some (55, true)), .faddr 7 (.t 4)⟩,
    ⟨some 59, (some (55, true)), .load none (.t 58)⟩,
    ⟨some 60, (some (55, true)), .load none (.t 2)⟩,
    ⟨some 61, (some (55, true)), .bin .add (.t 60) (.c (.int .i64 1))⟩,
    ⟨some 62, (some (55, true)), .call false 80 [(.t 57), (.t 59), (.t 61)]⟩,
    ⟨some 63, none, .pick (.t 55) (.t 62) (.c (.bool false))⟩,
    ⟨some 5, none, .mov (.t 63)⟩] [5])
  .ret))⟩

/-- math/bits.Mul -/
def i105 : AFunc := ⟨2, 30, [.tmp 4, .tmp 5],
  (.seq (.region [⟨some 4, none, .mov (.c (.int .u64 0))⟩,
    ⟨some 5, none, .mov (.c (.int .u64 0))⟩] [0, 1])
  (.seq (.cond (.c (.bool false)) (.seq (.region [⟨some 11, none, .mov (.t 0)⟩,
    ⟨some 12, none, .cvi .u32 (.t 11)⟩,
    ⟨some 13, none, .mov (.t 1)⟩,
    ⟨some 14, none, .cvi .u32 (.t 13)⟩,
    ⟨some 15, none, .call false 122 [(.t 12), (.t 14)]⟩,
    ⟨some 10, none, .mov (.t 15)⟩,
    ⟨some 16, none, .ext (.t 10) 0⟩,
    ⟨some 17, none, .ext (.t 10) 1⟩,
    ⟨some 6, none, .mov (.t 16)⟩,
    ⟨some 7, none, .mov (.t 17)⟩] [6, 7])
  (.seq (.region [⟨some 18, none, .mov (.t 6)⟩,
    ⟨some 19, none, .cvi .u64 (.t 18)⟩,
    ⟨some 20, none, .mov (.t 7)⟩,
    ⟨some 21, none, .cvi .u64 (.t 20)⟩,
    ⟨some 4, none, .mov (.t 19)⟩,
    ⟨some 5, none, .mov (.t 21)⟩] [4, 5])
  .ret))
  .skip)
  (.seq (.region [⟨some 23, none, .mov (.t 0)⟩,
    ⟨some 24, none, .mov (.t 1)⟩,
    ⟨some 25, none, .call false 123 [(.t 23), (.t 24)]⟩,
    ⟨some 22, none, .mov (.t 25)⟩,
    ⟨some 26, none, .ext (.t 22) 0⟩,
    ⟨some 27, none, .ext (.t 22) 1⟩,
    ⟨some 8, none, .mov (.t 26)⟩,
    ⟨some 9, none, .mov (.t 27)⟩] [8, 9])
  (.seq (.region [⟨some 28, none, .mov (.t 8)⟩,
    ⟨some 29, none, .mov (.t 9)⟩,
    ⟨some 4, none, .mov (.t 28)⟩,
    ⟨some 5, none, .mov (.t 29)⟩] [4, 5])
  .ret))))⟩

/-- strings.HasPrefix -/
def i106 : AFunc := ⟨2, 8, [.tmp 4],
  (.seq (.region [⟨some 4, none, .mov (.c (.bool false))⟩] [0, 1])
  (.seq (.region [⟨some 5, none, .mov (.t 0)⟩,
    ⟨some 6, none, .mov (.t 1)⟩,
    ⟨some 7, none, .call false 124 [(.t 5), (.t 6)]⟩,
    ⟨some 4, none, .mov (.t 7)⟩] [4])
  .ret))⟩

/-- (*strings.Builder).Len -/
def i108 : AFunc := ⟨1, 8, [.tmp 2],
  (.seq (.region [⟨some 2, none, .mov (.c (.int .i64 0))⟩] [0])
  (.seq (.region [⟨some 3, none, .mov (.t 0)⟩,
    ⟨some 4, none, .nilchk (.t 3)⟩,
    ⟨some 5, none, .faddr 1 (.t 4)⟩,
    ⟨some 6, none, .load none (.t 5)⟩,
    ⟨some 7, none, .lensl (.t 6)⟩,
    ⟨some 2, none, .mov (.t 7)⟩] [2])
  .ret))⟩

/-- internal/strconv.FormatUint -/
def i109 : AFunc := ⟨2, 32, [.tmp 4],
  (.seq (.region [⟨some 4, none, .mov (.c (.str []))⟩] [0, 1])
  (.seq (.seq (.region [⟨some 9, none, .mov (.t 1)⟩,
    ⟨some 10, none, .bin .eql (.t 9) (.c (.int .i64 10))⟩] [0, 1, 10])
  (.cond (.t 10) (.seq (.seq (.region [⟨some 11, none, .mov (.t 0)⟩,
    ⟨some 12, none, .bin .lss (.t 11) (.c (.int .u64 100))⟩] [0, 12])
  (.cond (.t 12) (.seq (.region [⟨some 13, none, .mov (.t 0)⟩,
    ⟨some 14, none, .cvi .i64 (.t 13)⟩,
    ⟨some 15, none, .call false 126 [(.t 14)]⟩,
    ⟨some 4, none, .mov (.t 15)⟩] [4])
  .ret)
  .skip))
  (.seq (.region [⟨some 5, none, .alloc [(.int .u8 0), (.int .u8 0), (.int .u8 0), (.int .u8 0), (.int .u8 0), (.int .u8 0), (.int .u8 0), (.int .u8 0), (.int .u8 0), (.int .u8 0), (.int .u8 0), (.int .u8 0), (.int .u8 0), (.int .u8 0), (.int .u8 0), (.int .u8 0), (.int .u8 0), (.int .u8 0), (.int .u8 0), (.int .u8 0), (.int .u8 0), (.int .u8 0), (.int .u8 0), (.int .u8 0)] 164⟩] [0, 5])
  (.seq (.region [⟨some 16, none, .mov (.t 0)⟩,
    ⟨some 17, none, .call false 127 [(.t 16)]⟩,
    ⟨some 6, none, .mov (.t 17)⟩] [0, 5, 6])
  (.seq (.region [⟨some 18, none, .mov (.t 6)⟩,
    ⟨some 19, none, .slarr 24 1 (.t 5) none (some (.t 18)) none⟩,
    ⟨some 20, none, .mov (.t 0)⟩,
    ⟨some 21, none, .call false 128 [(.t 19), (.t 20)]⟩] [5, 6])
  (.seq (.region [⟨some 22, none, .mov (.t 6)⟩,
    ⟨some 23, none, .slarr 24 1 (.t 5) none (some (.t 22)) none⟩,
    ⟨some 24, none, .cvb2s (.t 23)⟩,
    ⟨some 4, none, .mov (.t 24)⟩] [4])
  .ret)))))
  .skip))
  (.seq (.region [⟨some 26, none, .mov (.t 0)⟩,
    ⟨some 27, none, .mov (.t 1)⟩,
    ⟨some 28, none, .call false 129 [(.c (.sl 1 [] .exact)), (.t 26), (.t 27), (.c (.bool false)), (.c (.bool false))]⟩,
    ⟨some 25, none, .mov (.t 28)⟩,
    ⟨some 29, none, .ext (.t 25) 0⟩,
    ⟨some 30, none, .ext (.t 25) 1⟩,
    ⟨some 7, none, .mov (.t 29)⟩,
    ⟨some 8, none, .mov (.t 30)⟩] [8])
  (.seq (.region [⟨some 31, none, .mov (.t 8)⟩,
    ⟨some 4, none, .mov (.t 31)⟩] [4])
  .ret))))⟩

/-- (troth/prog.Stmt).plain -/
def i110 : AFunc := ⟨1, 86, [.tmp 2],
  (.seq (.region [⟨some 1, none, .ibox (.t 0)⟩,
    ⟨some 2, none, .mov (.c (.str []))⟩] [1])
  (.seq (.region [⟨some 6, none, .faddr 1 (.t 1)⟩,
    ⟨some 7, none, .load none (.t 6)⟩,
    ⟨some 8, none, .cvi .i64 (.t 7)⟩,
    ⟨some 9, none, .call false 87 [(.t 8)]⟩,
    ⟨some 10, none, .bin .add (.c (.str [114])) (.t 9)⟩,
    ⟨some 11, none, .bin .add (.t 10) (.c (.str [32, 61, 32]))⟩,
    ⟨some 3, none, .mov (.t 11)⟩] [1, 3])
  (.seq (.draw [⟨some 12, none, .faddr 3 (.t 1)⟩,
    ⟨some 13, none, .load none (.t 12)⟩,
    ⟨some 14, none, .bslice 5 1 [(.int .u8 0)] 1 [(0, (.t 13))]⟩,
    ⟨some 15, none, .cvb2s (.t 14)⟩,
    ⟨some 16, none, .faddr 2 (.t 1)⟩,
    ⟨some 17, none, .load none (.t 16)⟩,
    ⟨some 18, none, .call false 30 [(.t 17)]⟩,
    ⟨some 4, none, .mov (.t 15)⟩,
    ⟨some 5, none, .mov (.t 18)⟩] [[], [0], [0, 1], [0, 1, 2], [], [4], [4, 5], [0, 1, 2, 3, 4, 5, 6], [0, 1, 2, 3, 4, 5, 6, 7]] [1, 3, 4, 5])
  (.seq (.seq (.region [⟨some 19, none, .faddr 0 (.t 1)⟩,
    ⟨some 20, none, .load none (.t 19)⟩] [1, 3, 4, 5, 20])
  (.block 0 (.seq (.region [⟨some 22, none, .bin .eql (.t 20) (.c (.int .u8 1))⟩,
    ⟨some 21, none, .mov (.t 22)⟩] [1, 3, 4, 5, 20, 21])
  (.cond (.t 21) (.seq (.region [⟨some 23, none, .mov (.t 3)⟩,
    ⟨some 24, none, .faddr 4 (.t 1)⟩,
    ⟨some 25, none, .load none (.t 24)⟩,
    ⟨some 26, none, .call false 15 [(.t 25)]⟩,
    ⟨some 27, none, .bin .add (.t 23) (.t 26)⟩,
    ⟨some 2, none, .mov (.t 27)⟩] [2])
  .ret)
  (.seq (.region [⟨some 29, none, .bin .eql (.t 20) (.c (.int .u8 2))⟩,
    ⟨some 28, none, .mov (.t 29)⟩] [1, 3, 4, 5, 20, 28])
  (.cond (.t 28) (.seq (.region [⟨some 30, none, .mov (.t 3)⟩,
    ⟨some 31, none, .mov (.t 4)⟩,
    ⟨some 32, none, .mov (.t 5)⟩,
    ⟨some 33, none, .bslice 9 1 [(.str [])] 2 [(0, (.t 31)), (1, (.t 32))]⟩,
    ⟨some 34, none, .call false 130 [(.c (.str [108, 111, 97, 100])), (.t 33)]⟩,
    ⟨some 35, none, .bin .add (.t 30) (.t 34)⟩,
    ⟨some 2, none, .mov (.t 35)⟩] [2])
  .ret)
  (.seq (.region [⟨some 37, none, .bin .eql (.t 20) (.c (.int .u8 3))⟩,
    ⟨some 36, none, .mov (.t 37)⟩] [1, 3, 4, 5, 20, 36])
  (.cond (.t 36) (.seq (.region [⟨some 38, none, .mov (.t 4)⟩,
    ⟨some 39, none, .faddr 4 (.t 1)⟩,
    ⟨some 40, none, .load none (.t 39)⟩,
    ⟨some 41, none, .call false 15 [(.t 40)]⟩,
    ⟨some 42, none, .mov (.t 5)⟩,
    ⟨some 43, none, .bslice 9 1 [(.str [])] 3 [(0, (.t 38)), (1, (.t 41)), (2, (.t 42))]⟩,
    ⟨some 44, none, .call false 130 [(.c (.str [115, 116, 111, 114, 101])), (.t 43)]⟩,
    ⟨some 2, none, .mov (.t 44)⟩] [2])
  .ret)
  (.seq (.region [⟨some 46, none, .bin .eql (.t 20) (.c (.int .u8 4))⟩,
    ⟨some 45, none, .mov (.t 46)⟩] [1, 3, 4, 5, 20, 45])
  (.cond (.t 45) (.seq (.region [⟨some 47, none, .mov (.t 3)⟩,
    ⟨some 48, none, .mov (.t 4)⟩,
    ⟨some 49, none, .faddr 4 (.t 1)⟩,
    ⟨some 50, none, .load none (.t 49)⟩,
    ⟨some 51, none, .call false 15 [(.t 50)]⟩,
    ⟨some 52, none, .mov (.t 5)⟩,
    ⟨some 53, none, .bslice 9 1 [(.str [])] 3 [(0, (.t 48)), (1, (.t 51)), (2, (.t 52))]⟩,
    ⟨some 54, none, .call false 130 [(.c (.str [115, 119, 97, 112])), (.t 53)]⟩,
    ⟨some 55, none, .bin .add (.t 47) (.t 54)⟩,
    ⟨some 2, none, .mov (.t 55)⟩] [2])
  .ret)
  (.seq (.region [⟨some 57, none, .bin .eql (.t 20) (.c (.int .u8 5))⟩,
    ⟨some 56, none, .mov (.t 57)⟩] [1, 3, 4, 5, 20, 56])
  (.cond (.t 56) (.seq (.region [⟨some 58, none, .mov (.t 3)⟩,
    ⟨some 59, none, .mov (.t 4)⟩,
    ⟨some 60, none, .faddr 4 (.t 1)⟩,
    ⟨some 61, none, .load none (.t 60)⟩,
    ⟨some 62, none, .call false 15 [(.t 61)]⟩,
    ⟨some 63, none, .mov (.t 5)⟩,
    ⟨some 64, none, .bslice 9 1 [(.str [])] 3 [(0, (.t 59)), (1, (.t 62)), (2, (.t 63))]⟩,
    ⟨some 65, none, .call false 130 [(.c (.str [97, 100, 100])), (.t 64)]⟩,
    ⟨some 66, none, .bin .add (.t 58) (.t 65)⟩,
    ⟨some 2, none, .mov (.t 66)⟩] [2])
  .ret)
  (.seq (.region [⟨some 68, none, .bin .eql (.t 20) (.c (.int .u8 6))⟩,
    ⟨some 67, none, .mov (.t 68)⟩] [1, 3, 4, 5, 20, 67])
  (.cond (.t 67) (.seq (.draw [⟨some 69, none, .mov (.t 3)⟩,
    ⟨some 70, none, .mov (.t 4)⟩,
    ⟨some 71, none, .faddr 4 (.t 1)⟩,
    ⟨some 72, none, .load none (.t 71)⟩,
    ⟨some 73, none, .call false 15 [(.t 72)]⟩,
    ⟨some 74, none, .faddr 5 (.t 1)⟩,
    ⟨some 75, none, .load none (.t 74)⟩,
    ⟨some 76, none, .call false 15 [(.t 75)]⟩,
    ⟨some 77, none, .mov (.t 5)⟩,
    ⟨some 78, none, .bslice 9 1 [(.str [])] 4 [(0, (.t 70)), (1, (.t 73)), (2, (.t 76)), (3, (.t 77))]⟩,
    ⟨some 79, none, .call false 130 [(.c (.str [99, 97, 115])), (.t 78)]⟩,
    ⟨some 80, none, .bin .add (.t 69) (.t 79)⟩,
    ⟨some 2, none, .mov (.t 80)⟩] [[], [], [], [2], [2, 3], [], [5], [2, 3, 4, 5, 6], [], [1, 2, 3, 4, 5, 6, 7, 8], [1, 2, 3, 4, 5, 6, 7, 8, 9], [0, 1, 2, 3, 4, 5, 6, 7, 8, 9, 10], [0, 1, 2, 3, 4, 5, 6, 7, 8, 9, 10, 11]] [2])
  .ret)
  (.seq (.region [⟨some 82, none, .bin .eql (.t 20) (.c (.int .u8 7))⟩,
    ⟨some 81, none, .mov (.t 82)⟩] [5, 81])
  (.cond (.t 81) (.seq (.region [⟨some 83, none, .mov (.t 5)⟩,
    ⟨some 84, none, .bslice 9 1 [(.str [])] 1 [(0, (.t 83))]⟩,
    ⟨some 85, none, .call false 130 [(.c (.str [102, 101, 110, 99, 101])), (.t 84)]⟩,
    ⟨some 2, none, .mov (.t 85)⟩] [2])
  .ret)
  .skip))))))))))))))))
  (.seq (.region [⟨some 2, none, .mov (.c (.str []))⟩] [2])
  .ret)))))⟩

/-- internal/strconv.Itoa -/
def i111 : AFunc := ⟨1, 5, [.tmp 2],
  (.seq (.region [⟨some 2, none, .mov (.c (.str []))⟩] [0])
  (.seq (.region [⟨some 3, none, .mov (.t 0)⟩,
    ⟨some 4, none, .call false 131 [(.t 3), (.c (.int .i64 10))]⟩,
    ⟨some 2, none, .mov (.t 4)⟩] [2])
  .ret))⟩

/-- troth/expr.Strength -/
def i112 : AFunc := ⟨1, 17, [.tmp 2],
  (.seq (.region [⟨some 2, none, .mov (.c (.int .i64 0))⟩] [0])
  (.seq (.block 0 (.seq (.region [⟨some 4, none, .mov (.t 0)⟩,
    ⟨some 5, none, .call false 92 [(.t 4)]⟩,
    ⟨some 6, none, .bin .eql (.t 5) (.c (.int .i64 0))⟩,
    ⟨some 3, none, .mov (.t 6)⟩] [0, 3])
  (.cond (.t 3) (.seq (.region [⟨some 2, none, .mov (.c (.int .i64 0))⟩] [2])
  .ret)
  (.seq (.region [⟨some 8, none, .mov (.t 0)⟩,
    ⟨some 9, none, .call false 92 [(.t 8)]⟩,
    ⟨some 10, none, .bin .eql (.t 9) (.c (.int .i64 1))⟩,
    ⟨some 7, none, .mov (.t 10)⟩] [0, 7])
  (.cond (.t 7) (.seq (.region [⟨some 2, none, .mov (.c (.int .i64 4))⟩] [2])
  .ret)
  (.seq (.region [⟨some 12, none, .mov (.t 0)⟩,
    ⟨some 13, none, .bin .leq (.t 12) (.c (.int .u8 4))⟩,
    ⟨some 11, none, .mov (.t 13)⟩] [0, 11])
  (.cond (.t 11) (.seq (.region [⟨some 2, none, .mov (.c (.int .i64 1))⟩] [2])
  .ret)
  (.seq (.region [⟨some 15, none, .mov (.t 0)⟩,
    ⟨some 16, none, .bin .leq (.t 15) (.c (.int .u8 8))⟩,
    ⟨some 14, none, .mov (.t 16)⟩] [14])
  (.cond (.t 14) (.seq (.region [⟨some 2, none, .mov (.c (.int .i64 2))⟩] [2])
  .ret)
  .skip)))))))))
  (.seq (.region [⟨some 2, none, .mov (.c (.int .i64 3))⟩] [2])
  .ret)))⟩

/-- troth/num.bit -/
def i113 : AFunc := ⟨1, 4, [.tmp 2],
  (.seq (.region [⟨some 2, none, .mov (.c (.int .u64 0))⟩] [0])
  (.seq (.seq (.region [⟨some 3, none, .mov (.t 0)⟩] [3])
  (.cond (.t 3) (.seq (.region [⟨some 2, none, .mov (.c (.int .u64 1))⟩] [2])
  .ret)
  .skip))
  (.seq (.region [⟨some 2, none, .mov (.c (.int .u64 0))⟩] [2])
  .ret)))⟩

/-- internal/strconv.lower -/
def i114 : AFunc := ⟨1, 5, [.tmp 2],
  (.seq (.region [⟨some 2, none, .mov (.c (.int .u8 0))⟩] [0])
  (.seq (.region [⟨some 3, none, .mov (.t 0)⟩,
    ⟨some 4, none, .bin .or (.t 3) (.c (.int .u8 32))⟩,
    ⟨some 2, none, .mov (.t 4)⟩] [2])
  .ret))⟩

def i115_L0 : ACode :=
  (.seq (.seq (.region [⟨some 51, none, .mov (.t 4)⟩,
    ⟨some 52, none, .mov (.t 0)⟩,
    ⟨some 53, none, .lenstr (.t 52)⟩,
    ⟨some 54, none, .bin .lss (.t 51) (.t 53)⟩] [0, 3, 4, 5, 54])
  (.cond (.t 54) .skip
  (.exit 0)))
  (.seq (.block 1 (.seq (.seq (.region [⟨some 57, none, .mov (.t 0)⟩,
    ⟨some 58, none, .mov (.t 4)⟩,
    ⟨some 59, none, .idxstr (.t 57) (.t 58)⟩,
    ⟨some 60, none, .bin .leq (.c (.int .u8 48)) (.t 59)⟩,
    ⟨some 61, none, .mov (.t 60)⟩,
    ⟨some 62, (some (61, true)), .mov (.t 0)⟩,
    ⟨some 63, (some (61, true)), .mov (.t 4)⟩,
    ⟨some 64, (some (61, true)), .idxstr (.t 62) (.t 63)⟩,
    ⟨some 65, (some (61, true)), .bin .leq (.t 64) (.c (.int .u8 57))⟩,
    ⟨some 66, none, .pick (.t 61) (.t 65) (.c (.bool false))⟩,
    ⟨some 67, none, .mov (.t 66)⟩,
    ⟨some 68, (some (67, false)), .mov (.t 5)⟩,
    ⟨some 69, (some (67, false)), .mov (.t 68)⟩,
    ⟨some 70, (some (69, true)), .mov (.t 0)⟩,
    ⟨some 71, (some (69, true)), .mov (.t 4)⟩,
    ⟨some 72, (some (69, true)), .idxstr (.t 70) (.t 71)⟩,
    ⟨some 73, (some (69, true)), .call false 114 [(.t 72)]⟩,
    ⟨some 74, (some (69, true)), .bin .leq (.c (.int .u8 97)) (.t 73)⟩,
    ⟨some 75, (some (67, false)), .pick (.t 69) (.t 74) (.c (.bool false))⟩,
    ⟨some 76, (some (67, false)), .mov (.t 75)⟩,
    ⟨some 77, (some (76, true)), .mov (.t 0)⟩,
    ⟨some 78, (some (76, true)), .mov (.t 4)⟩,
    ⟨some 79, (some (76, true)), .idxstr (.t 77) (.t 78)⟩,
    ⟨some 80, (some (76, true)), .call false 114 [(.t 79)]⟩,
    ⟨some 81, (some (76, true)), .bin .leq (.t 80) (.c (.int .u8 102))⟩,
    ⟨some 82, (some (67, false)), .pick (.t 76) (.t 81) (.c (.bool false))⟩,
    ⟨some 83, none, .pick (.t 67) (.c (.bool true)) (.t 82)⟩] [0, 3, 4, 5, 83])
  (.cond (.t 83) (.seq (.region [⟨some 3, none, .mov (.c (.int .i32 48))⟩] [0, 3, 4, 5])
  (.exit 1))
  .skip))
  (.seq (.seq (.region [⟨some 84, none, .mov (.t 0)⟩,
    ⟨some 85, none, .mov (.t 4)⟩,
    ⟨some 86, none, .idxstr (.t 84) (.t 85)⟩,
    ⟨some 87, none, .bin .eql (.t 86) (.c (.int .u8 95))⟩] [0, 3, 4, 5, 87])
  (.cond (.t 87) (.seq (.seq (.region [⟨some 88, none, .mov (.t 3)⟩,
    ⟨some 89, none, .bin .neq (.t 88) (.c (.int .i32 48))⟩] [0, 4, 5, 89])
  (.cond (.t 89) (.seq (.region [⟨some 2, none, .mov (.c (.bool false))⟩] [2])
  .ret)
  .skip))
  (.seq (.region [⟨some 3, none, .mov (.c (.int .i32 95))⟩] [0, 3, 4, 5])
  (.exit 1)))
  .skip))
  (.seq (.seq (.region [⟨some 90, none, .mov (.t 3)⟩,
    ⟨some 91, none, .bin .eql (.t 90) (.c (.int .i32 95))⟩] [0, 4, 5, 91])
  (.cond (.t 91) (.seq (.region [⟨some 2, none, .mov (.c (.bool false))⟩] [2])
  .ret)
  .skip))
  (.region [⟨some 3, none, .mov (.c (.int .i32 33))⟩] [0, 3, 4, 5])))))
  (.region [⟨some 55, none, .mov (.t 4)⟩,
    ⟨some 56, none, .bin .add (.t 55) (.c (.int .i64 1))⟩,
    ⟨some 4, none, .mov (.t 56)⟩] [0, 3, 4, 5])))

/-- internal/strconv.underscoreOK -/
def i115 : AFunc := ⟨1, 94, [.tmp 2],
  (.seq (.region [⟨some 2, none, .mov (.c (.bool false))⟩] [0])
  (.seq (.region [⟨some 3, none, .mov (.c (.int .i32 94))⟩] [0, 3])
  (.seq (.region [⟨some 4, none, .mov (.c (.int .i64 0))⟩] [0, 3, 4])
  (.seq (.seq (.region [⟨some 6, none, .mov (.t 0)⟩,
    ⟨some 7, none, .lenstr (.t 6)⟩,
    ⟨some 8, none, .bin .geq (.t 7) (.c (.int .i64 1))⟩,
    ⟨some 9, none, .mov (.t 8)⟩,
    ⟨some 10, (some (9, true)), .mov (.t 0)⟩,
    ⟨some 11, (some (9, true)), .idxstr (.t 10) (.c (.int .i64 0))⟩,
    ⟨some 12, (some (9, true)), .bin .eql (.t 11) (.c (.int .u8 45))⟩,
    ⟨some 13, (some (9, true)), .mov (.t 12)⟩,
    ⟨some 14, (some (13, false)), .mov (.t 0)⟩,
    ⟨some 15, (some (13, false)), .idxstr (.t 14) (.c (.int .i64 0))⟩,
    ⟨some 16, (some (13, false)), .bin .eql (.t 15) (.c (.int .u8 43))⟩,
    ⟨some 17, (some (9, true)), .pick (.t 13) (.c (.bool true)) (.t 16)⟩,
    ⟨some 18, none, .pick (.t 9) (.t 17) (.c (.bool false))⟩] [0, 3, 4, 18])
  (.cond (.t 18) (.region [⟨some 19, none, .mov (.t 0)⟩,
    ⟨some 20, none, .slstr (.t 19) (some (.c (.int .i64 1))) none⟩,
    ⟨some 0, none, .mov (.t 20)⟩] [0, 3, 4])
  .skip))
  (.seq (.region [⟨some 5, none, .mov (.c (.bool false))⟩] [0, 3, 4, 5])
  (.seq (.seq (.region [⟨some 21, none, .mov (.t 0)⟩,
    ⟨some 22, none, .lenstr (.t 21)⟩,
    ⟨some 23, none, .bin .geq (.t 22) (.c (.int .i64 2))⟩,
    ⟨some 24, none, .mov (.t 23)⟩,
    ⟨some 25, (some (24, true)), .mov (.t 0)⟩,
    ⟨some 26, (some (24, true)), .idxstr (.t 25) (.c (.int .i64 0))⟩,
    ⟨some 27, (some (24, true)), .bin .eql (.t 26) (.c (.int .u8 48))⟩,
    ⟨some 28, none, .pick (.t 24) (.t 27) (.c (.bool false))⟩,
    ⟨some 29, none, .mov (.t 28)⟩,
    ⟨some 30, (some (29, true)), .mov (.t 0)⟩,
    ⟨some 31, (some (29, true)), .idxstr (.t 30) (.c (.int .i64 1))⟩,
    ⟨some 32, (some (29, true)), .call false 114 [(.t 31)]⟩,
    ⟨some 33, (some (29, true)), .bin .eql (.t 32) (.c (.int .u8 98))⟩,
    ⟨some 34, (some (29, true)), .mov (.t 33)⟩,
    ⟨some 35, (some (34, false)), .mov (.t 0)⟩,
    ⟨some 36, (some (34, false)), .idxstr (.t 35) (.c (.int .i64 1))⟩,
    ⟨some 37, (some (34, false)), .call false 114 [(.t 36)]⟩,
    ⟨some 38, (some (34, false)), .bin .eql (.t 37) (.c (.int .u8 111))⟩,
    ⟨some 39, (some (29, true)), .pick (.t 34) (.c (.bool true)) (.t 38)⟩,
    ⟨some 40, (some (29, true)), .mov (.t 39)⟩,
    ⟨some 41, (some (40, false)), .mov (.t 0)⟩,
    ⟨some 42, (some (40, false)), .idxstr (.t 41) (.c (.int .i64 1))⟩,
    ⟨some 43, (some (40, false)), .call false 114 [(.t 42)]⟩,
    ⟨some 44, (some (40, false)), .bin .eql (.t 43) (.c (.int .u8 120))⟩,
    ⟨some 45, (some (29, true)), .pick (.t 40) (.c (.bool true)) (.t 44)⟩,
    ⟨some 46, none, .pick (.t 29) (.t 45) (.c (.bool false))⟩] [0, 3, 4, 5, 46])
  (.cond (.t 46) (.seq (.region [⟨some 4, none, .mov (.c (.int .i64 2))⟩] [0, 4])
  (.seq (.region [⟨some 3, none, .mov (.c (.int .i32 48))⟩] [0, 3, 4])
  (.region [⟨some 47, none, .mov (.t 0)⟩,
    ⟨some 48, none, .idxstr (.t 47) (.c (.int .i64 1))⟩,
    ⟨some 49, none, .call false 114 [(.t 48)]⟩,
    ⟨some 50, none, .bin .eql (.t 49) (.c (.int .u8 120))⟩,
    ⟨some 5, none, .mov (.t 50)⟩] [0, 3, 4, 5])))
  .skip))
  (.seq (.block 0 (.loop [0, 3, 4, 5] i115_L0))
  (.seq (.region [⟨some 92, none, .mov (.t 3)⟩,
    ⟨some 93, none, .bin .neq (.t 92) (.c (.int .i32 95))⟩,
    ⟨some 2, none, .mov (.t 93)⟩] [2])
  .ret))))))))⟩

/-- strconv.syntaxError -/
def i116 : AFunc := ⟨2, 11, [.tmp 4],
  (.seq (.region [⟨some 4, none, .mov (.c .nilp)⟩] [0, 1])
  (.seq (.draw [⟨some 5, none, .mov (.t 0)⟩,
    ⟨some 6, none, .mov (.t 1)⟩,
    ⟨some 7, none, .call false 132 [(.t 6)]⟩,
    ⟨some 8, none, .load none (.g 2)⟩,
    ⟨some 9, none, .build [(.str []), (.str []), .nili] [(0, 1, (.t 5)), (1, 1, (.t 7)), (2, 1, (.t 8))]⟩,
    ⟨some 10, none, .ibox (.t 9)⟩,
    ⟨some 4, none, .mov (.t 10)⟩] [[], [], [1], [], [0, 1, 2, 3], [0, 1, 2, 3, 4], [0, 1, 2, 3, 4, 5]] [4])
  .ret))⟩

/-- strconv.rangeError -/
def i117 : AFunc := ⟨2, 11, [.tmp 4],
  (.seq (.region [⟨some 4, none, .mov (.c .nilp)⟩] [0, 1])
  (.seq (.draw [⟨some 5, none, .mov (.t 0)⟩,
    ⟨some 6, none, .mov (.t 1)⟩,
    ⟨some 7, none, .call false 132 [(.t 6)]⟩,
    ⟨some 8, none, .load none (.g 3)⟩,
    ⟨some 9, none, .build [(.str []), (.str []), .nili] [(0, 1, (.t 5)), (1, 1, (.t 7)), (2, 1, (.t 8))]⟩,
    ⟨some 10, none, .ibox (.t 9)⟩,
    ⟨some 4, none, .mov (.t 10)⟩] [[], [], [1], [], [0, 1, 2, 3], [0, 1, 2, 3, 4], [0, 1, 2, 3, 4, 5]] [4])
  .ret))⟩

/-- strconv.baseError -/
def i118 : AFunc := ⟨3, 16, [.tmp 6],
  (.seq (.region [⟨some 6, none, .mov (.c .nilp)⟩] [0, 1, 2])
  (.seq (.region [⟨some 7, none, .mov (.t 0)⟩,
    ⟨some 8, none, .mov (.t 1)⟩,
    ⟨some 9, none, .call false 132 [(.t 8)]⟩,
    ⟨some 10, none, .mov (.t 2)⟩,
    ⟨some 11, none, .call false 87 [(.t 10)]⟩,
    ⟨some 12, none, .bin .add (.c (.str [105, 110, 118, 97, 108, 105, 100, 32, 98, 97, 115, 101, 32])) (.t 11)⟩,
    ⟨some 13, none, .call false 133 [(.t 12)]⟩,
    ⟨some 14, none, .build [(.str []), (.str []), .nili] [(0, 1, (.t 7)), (1, 1, (.t 9)), (2, 1, (.t 13))]⟩,
    ⟨some 15, none, .ibox (.t 14)⟩,
    ⟨some 6, none, .mov (.t 15)⟩] [6])
  .ret))⟩

/-- strconv.bitSizeError -/
def i119 : AFunc := ⟨3, 16, [.tmp 6],
  (.seq (.region [⟨some 6, none, .mov (.c .nilp)⟩] [0, 1, 2])
  (.seq (.region [⟨some 7, none, .mov (.t 0)⟩,
    ⟨some 8, none, .mov (.t 1)⟩,
    ⟨some 9, none, .call false 132 [(.t 8)]⟩,
    ⟨some 10, none, .mov (.t 2)⟩,
    ⟨some 11, none, .call false 87 [(.t 10)]⟩,
    ⟨some 12, none, .bin .add (.c (.str [105, 110, 118, 97, 108, 105, 100, 32, 98, 105, 116, 32, 115, 105, 122, 101, 32])) (.t 11)⟩,
    ⟨some 13, none, .call false 133 [(.t 12)]⟩,
    ⟨some 14, none, .build [(.str []), (.str []), .nili] [(0, 1, (.t 7)), (1, 1, (.t 9)), (2, 1, (.t 13))]⟩,
    ⟨some 15, none, .ibox (.t 14)⟩,
    ⟨some 6, none, .mov (.t 15)⟩] [6])
  .ret))⟩

/-- strings.Index -/
def i120 : AFunc := ⟨2, 8, [.tmp 4],
  (.seq (.region [⟨some 4, none, .mov (.c (.int .i64 0))⟩] [0, 1])
  (.seq (.region [⟨some 5, none, .mov (.t 0)⟩,
    ⟨some 6, none, .mov (.t 1)⟩,
    ⟨some 7, none, .call false 134 [(.t 5), (.t 6)]⟩,
    ⟨some 4, none, .mov (.t 7)⟩] [4])
  .ret))⟩

/-- math/bits.Mul32 -/
def i122 : AFunc := ⟨2, 17, [.tmp 4, .tmp 5],
  (.seq (.region [⟨some 4, none, .mov (.c (.int .u32 0))⟩,
    ⟨some 5, none, .mov (.c (.int .u32 0))⟩] [0, 1])
  (.seq (.region [⟨some 7, none, .mov (.t 0)⟩,
    ⟨some 8, none, .cvi .u64 (.t 7)⟩,
    ⟨some 9, none, .mov (.t 1)⟩,
    ⟨some 10, none, .cvi .u64 (.t 9)⟩,
    ⟨some 11, none, .bin .mul (.t 8) (.t 10)⟩,
    ⟨some 6, none, .mov (.t 11)⟩] [6])
  (.seq (.region [⟨some 12, none, .mov (.t 6)⟩,
    ⟨some 13, none, .bin .shr (.t 12) (.c (.int .u64 32))⟩,
    ⟨some 14, none, .cvi .u32 (.t 13)⟩,
    ⟨some 15, none, .mov (.t 6)⟩,
    ⟨some 16, none, .cvi .u32 (.t 15)⟩,
    ⟨some 4, none, .mov (.t 14)⟩,
    ⟨some 5, none, .mov (.t 16)⟩] [4, 5])
  .ret)))⟩

/-- math/bits.Mul64 -/
def i123 : AFunc := ⟨2, 51, [.tmp 4, .tmp 5],
  (.seq (.region [⟨some 4, none, .mov (.c (.int .u64 0))⟩,
    ⟨some 5, none, .mov (.c (.int .u64 0))⟩] [0, 1])
  (.seq (.region [⟨some 14, none, .mov (.t 0)⟩,
    ⟨some 15, none, .bin .and (.t 14) (.c (.int .u64 4294967295))⟩,
    ⟨some 6, none, .mov (.t 15)⟩] [0, 1, 6])
  (.seq (.region [⟨some 16, none, .mov (.t 0)⟩,
    ⟨some 17, none, .bin .shr (.t 16) (.c (.int .u64 32))⟩,
    ⟨some 7, none, .mov (.t 17)⟩] [0, 1, 6, 7])
  (.seq (.region [⟨some 18, none, .mov (.t 1)⟩,
    ⟨some 19, none, .bin .and (.t 18) (.c (.int .u64 4294967295))⟩,
    ⟨some 8, none, .mov (.t 19)⟩] [0, 1, 6, 7, 8])
  (.seq (.region [⟨some 20, none, .mov (.t 1)⟩,
    ⟨some 21, none, .bin .shr (.t 20) (.c (.int .u64 32))⟩,
    ⟨some 9, none, .mov (.t 21)⟩] [0, 1, 6, 7, 8, 9])
  (.seq (.region [⟨some 22, none, .mov (.t 6)⟩,
    ⟨some 23, none, .mov (.t 8)⟩,
    ⟨some 24, none, .bin .mul (.t 22) (.t 23)⟩,
    ⟨some 10, none, .mov (.t 24)⟩] [0, 1, 6, 7, 8, 9, 10])
  (.seq (.region [⟨some 25, none, .mov (.t 7)⟩,
    ⟨some 26, none, .mov (.t 8)⟩,
    ⟨some 27, none, .bin .mul (.t 25) (.t 26)⟩,
    ⟨some 28, none, .mov (.t 10)⟩,
    ⟨some 29, none, .bin .shr (.t 28) (.c (.int .u64 32))⟩,
    ⟨some 30, none, .bin .add (.t 27) (.t 29)⟩,
    ⟨some 11, none, .mov (.t 30)⟩] [0, 1, 6, 7, 9, 11])
  (.seq (.region [⟨some 31, none, .mov (.t 11)⟩,
    ⟨some 32, none, .bin .and (.t 31) (.c (.int .u64 4294967295))⟩,
    ⟨some 12, none, .mov (.t 32)⟩] [0, 1, 6, 7, 9, 11, 12])
  (.seq (.region [⟨some 33, none, .mov (.t 11)⟩,
    ⟨some 34, none, .bin .shr (.t 33) (.c (.int .u64 32))⟩,
    ⟨some 13, none, .mov (.t 34)⟩] [0, 1, 6, 7, 9, 12, 13])
  (.seq (.region [⟨some 35, none, .mov (.t 12)⟩,
    ⟨some 36, none, .mov (.t 6)⟩,
    ⟨some 37, none, .mov (.t 9)⟩,
    ⟨some 38, none, .bin .mul (.t 36) (.t 37)⟩,
    ⟨some 39, none, .bin .add (.t 35) (.t 38)⟩,
    ⟨some 12, none, .mov (.t 39)⟩] [0, 1, 7, 9, 12, 13])
  (.seq (.region [⟨some 40, none, .mov (.t 7)⟩,
    ⟨some 41, none, .mov (.t 9)⟩,
    ⟨some 42, none, .bin .mul (.t 40) (.t 41)⟩,
    ⟨some 43, none, .mov (.t 13)⟩,
    ⟨some 44, none, .bin .add (.t 42) (.t 43)⟩,
    ⟨some 45, none, .mov (.t 12)⟩,
    ⟨some 46, none, .bin .shr (.t 45) (.c (.int .u64 32))⟩,
    ⟨some 47, none, .bin .add (.t 44) (.t 46)⟩,
    ⟨some 4, none, .mov (.t 47)⟩] [0, 1, 4])
  (.seq (.region [⟨some 48, none, .mov (.t 0)⟩,
    ⟨some 49, none, .mov (.t 1)⟩,
    ⟨some 50, none, .bin .mul (.t 48) (.t 49)⟩,
    ⟨some 5, none, .mov (.t 50)⟩] [4, 5])
  .ret))))))))))))⟩

/-- internal/stringslite.HasPrefix -/
def i124 : AFunc := ⟨2, 18, [.tmp 4],
  (.seq (.region [⟨some 4, none, .mov (.c (.bool false))⟩] [0, 1])
  (.seq (.region [⟨some 5, none, .mov (.t 0)⟩,
    ⟨some 6, none, .lenstr (.t 5)⟩,
    ⟨some 7, none, .mov (.t 1)⟩,
    ⟨some 8, none, .lenstr (.t 7)⟩,
    ⟨some 9, none, .bin .geq (.t 6) (.t 8)⟩,
    ⟨some 10, none, .mov (.t 9)⟩,
    ⟨some 11, (some (10, true)), .mov (.t 0)⟩,
    ⟨some 12, (some (10, true)), .mov (.t 1)⟩,
    ⟨some 13, (some (10, true)), .lenstr (.t 12)⟩,
    ⟨some 14, (some (10, true)), .slstr (.t 11) none (some (.t 13))⟩,
    ⟨some 15, (some (10, true)), .mov (.t 1)⟩,
    ⟨some 16, (some (10, true)), .bin .eql (.t 14) (.t 15)⟩,
    ⟨some 17, none, .pick (.t 10) (.t 16) (.c (.bool false))⟩,
    ⟨some 4, none, .mov (.t 17)⟩] [4])
  .ret))⟩

/-- internal/strconv.small -/
def i126 : AFunc := ⟨1, 15, [.tmp 2],
  (.seq (.region [⟨some 2, none, .mov (.c (.str []))⟩] [0])
  (.seq (.seq (.region [⟨some 3, none, .mov (.t 0)⟩,
    ⟨some 4, none, .bin .lss (.t 3) (.c (.int .i64 10))⟩] [0, 4])
  (.cond (.t 4) (.seq (.region [⟨some 5, none, .mov (.t 0)⟩,
    ⟨some 6, none, .mov (.t 0)⟩,
    ⟨some 7, none, .bin .add (.t 6) (.c (.int .i64 1))⟩,
    ⟨some 8, none, .slstr (.c (.str [48, 49, 50, 51, 52, 53, 54, 55, 56, 57, 97, 98, 99, 100, 101, 102, 103, 104, 105, 106, 107, 108, 109, 110, 111, 112, 113, 114, 115, 116, 117, 118, 119, 120, 121, 122])) (some (.t 5)) (some (.t 7))⟩,
    ⟨some 2, none, .mov (.t 8)⟩] [2])
  .ret)
  .skip))
  (.seq (.region [⟨some 9, none, .mov (.t 0)⟩,
    ⟨some 10, none, .bin .mul (.t 9) (.c (.int .i64 2))⟩,
    ⟨some 11, none, .mov (.t 0)⟩,
    ⟨some 12, none, .bin .mul (.t 11) (.c (.int .i64 2))⟩,
    ⟨some 13, none, .bin .add (.t 12) (.c (.int .i64 2))⟩,
    ⟨some 14, none, .slstr (.c (.str [48, 48, 48, 49, 48, 50, 48, 51, 48, 52, 48, 53, 48, 54, 48, 55, 48, 56, 48, 57, 49, 48, 49, 49, 49, 50, 49, 51, 49, 52, 49, 53, 49, 54, 49, 55, 49, 56, 49, 57, 50, 48, 50, 49, 50, 50, 50, 51, 50, 52, 50, 53, 50, 54, 50, 55, 50, 56, 50, 57, 51, 48, 51, 49, 51, 50, 51, 51, 51, 52, 51, 53, 51, 54, 51, 55, 51, 56, 51, 57, 52, 48, 52, 49, 52, 50, 52, 51, 52, 52, 52, 53, 52, 54, 52, 55, 52, 56, 52, 57, 53, 48, 53, 49, 53, 50, 53, 51, 53, 52, 53, 53, 53, 54, 53, 55, 53, 56, 53, 57, 54, 48, 54, 49, 54, 50, 54, 51, 54, 52, 54, 53, 54, 54, 54, 55, 54, 56, 54, 57, 55, 48, 55, 49, 55, 50, 55, 51, 55, 52, 55, 53, 55, 54, 55, 55, 55, 56, 55, 57, 56, 48, 56, 49, 56, 50, 56, 51, 56, 52, 56, 53, 56, 54, 56, 55, 56, 56, 56, 57, 57, 48, 57, 49, 57, 50, 57, 51, 57, 52, 57, 53, 57, 54, 57, 55, 57, 56, 57, 57])) (some (.t 10)) (some (.t 13))⟩,
    ⟨some 2, none, .mov (.t 14)⟩] [2])
  .ret)))⟩

/-- internal/strconv.numDigits -/
def i127 : AFunc := ⟨1, 15, [.tmp 2],
  (.seq (.region [⟨some 2, none, .mov (.c (.int .i64 0))⟩] [0])
  (.seq (.region [⟨some 4, none, .mov (.t 0)⟩,
    ⟨some 5, none, .call false 137 [(.t 4)]⟩,
    ⟨some 6, none, .call false 136 [(.t 5)]⟩,
    ⟨some 3, none, .mov (.t 6)⟩] [0, 3])
  (.seq (.region [⟨some 7, none, .mov (.t 3)⟩,
    ⟨some 8, none, .mov (.t 0)⟩,
    ⟨some 9, none, .mov (.t 3)⟩,
    ⟨some 10, none, .idxaa 20 1 (.g 4) (.t 9)⟩,
    ⟨some 11, none, .load none (.t 10)⟩,
    ⟨some 12, none, .bin .geq (.t 8) (.t 11)⟩,
    ⟨some 13, none, .call false 138 [(.t 12)]⟩,
    ⟨some 14, none, .bin .add (.t 7) (.t 13)⟩,
    ⟨some 2, none, .mov (.t 14)⟩] [2])
  .ret)))⟩

def i128_L0 : ACode :=
  (.seq (.seq (.region [⟨some 19, none, .mov (.t 4)⟩,
    ⟨some 20, none, .bin .geq (.t 19) (.c (.int .i64 8))⟩] [0, 1, 4, 20])
  (.cond (.t 20) .skip
  (.exit 0)))
  (.block 1 (.seq (.region [⟨some 21, none, .mov (.t 1)⟩,
    ⟨some 22, none, .bin .rem (.t 21) (.c (.int .u64 100000000))⟩,
    ⟨some 23, none, .cvi .u32 (.t 22)⟩,
    ⟨some 5, none, .mov (.t 23)⟩] [0, 1, 4, 5])
  (.seq (.region [⟨some 24, none, .mov (.t 1)⟩,
    ⟨some 25, none, .bin .quo (.t 24) (.c (.int .u64 100000000))⟩,
    ⟨some 1, none, .mov (.t 25)⟩] [0, 1, 4, 5])
  (.seq (.region [⟨some 26, none, .mov (.t 5)⟩,
    ⟨some 27, none, .bin .quo (.t 26) (.c (.int .u32 10000))⟩,
    ⟨some 28, none, .mov (.t 5)⟩,
    ⟨some 29, none, .bin .rem (.t 28) (.c (.int .u32 10000))⟩,
    ⟨some 6, none, .mov (.t 27)⟩,
    ⟨some 7, none, .mov (.t 29)⟩] [0, 1, 4, 6, 7])
  (.seq (.region [⟨some 30, none, .mov (.t 7)⟩,
    ⟨some 31, none, .bin .quo (.t 30) (.c (.int .u32 100))⟩,
    ⟨some 32, none, .bin .mul (.t 31) (.c (.int .u32 2))⟩,
    ⟨some 33, none, .mov (.t 7)⟩,
    ⟨some 34, none, .bin .rem (.t 33) (.c (.int .u32 100))⟩,
    ⟨some 35, none, .bin .mul (.t 34) (.c (.int .u32 2))⟩,
    ⟨some 8, none, .mov (.t 32)⟩,
    ⟨some 9, none, .mov (.t 35)⟩] [0, 1, 4, 6, 8, 9])
  (.seq (.region [⟨some 36, none, .mov (.t 6)⟩,
    ⟨some 37, none, .bin .quo (.t 36) (.c (.int .u32 100))⟩,
    ⟨some 38, none, .bin .mul (.t 37) (.c (.int .u32 2))⟩,
    ⟨some 39, none, .mov (.t 6)⟩,
    ⟨some 40, none, .bin .rem (.t 39) (.c (.int .u32 100))⟩,
    ⟨some 41, none, .bin .mul (.t 40) (.c (.int .u32 2))⟩,
    ⟨some 10, none, .mov (.t 38)⟩,
    ⟨some 11, none, .mov (.t 41)⟩] [0, 1, 4, 8, 9, 10, 11])
  (.seq (.draw [⟨some 42, none, .mov (.t 0)⟩,
    ⟨some 43, none, .mov (.t 4)⟩,
    ⟨some 44, none, .bin .sub (.t 43) (.c (.int .i64 1))⟩,
    ⟨some 45, none, .mov (.t 0)⟩,
    ⟨some 46, none, .mov (.t 4)⟩,
    ⟨some 47, none, .bin .sub (.t 46) (.c (.int .i64 2))⟩,
    ⟨some 48, none, .mov (.t 9)⟩,
    ⟨some 49, none, .bin .add (.t 48) (.c (.int .u32 1))⟩,
    ⟨some 50, none, .idxstr (.c (.str [48, 48, 48, 49, 48, 50, 48, 51, 48, 52, 48, 53, 48, 54, 48, 55, 48, 56, 48, 57, 49, 48, 49, 49, 49, 50, 49, 51, 49, 52, 49, 53, 49, 54, 49, 55, 49, 56, 49, 57, 50, 48, 50, 49, 50, 50, 50, 51, 50, 52, 50, 53, 50, 54, 50, 55, 50, 56, 50, 57, 51, 48, 51, 49, 51, 50, 51, 51, 51, 52, 51, 53, 51, 54, 51, 55, 51, 56, 51, 57, 52, 48, 52, 49, 52, 50, 52, 51, 52, 52, 52, 53, 52, 54, 52, 55, 52, 56, 52, 57, 53, 48, 53, 49, 53, 50, 53, 51, 53, 52, 53, 53, 53, 54, 53, 55, 53, 56, 53, 57, 54, 48, 54, 49, 54, 50, 54, 51, 54, 52, 54, 53, 54, 54, 54, 55, 54, 56, 54, 57, 55, 48, 55, 49, 55, 50, 55, 51, 55, 52, 55, 53, 55, 54, 55, 55, 55, 56, 55, 57, 56, 48, 56, 49, 56, 50, 56, 51, 56, 52, 56, 53, 56, 54, 56, 55, 56, 56, 56, 57, 57, 48, 57, 49, 57, 50, 57, 51, 57, 52, 57, 53, 57, 54, 57, 55, 57, 56, 57, 57])) (.t 49)⟩,
    ⟨some 51, none, .mov (.t 9)⟩,
    ⟨some 52, none, .idxstr (.c (.str [48, 48, 48, 49, 48, 50, 48, 51, 48, 52, 48, 53, 48, 54, 48, 55, 48, 56, 48, 57, 49, 48, 49, 49, 49, 50, 49, 51, 49, 52, 49, 53, 49, 54, 49, 55, 49, 56, 49, 57, 50, 48, 50, 49, 50, 50, 50, 51, 50, 52, 50, 53, 50, 54, 50, 55, 50, 56, 50, 57, 51, 48, 51, 49, 51, 50, 51, 51, 51, 52, 51, 53, 51, 54, 51, 55, 51, 56, 51, 57, 52, 48, 52, 49, 52, 50, 52, 51, 52, 52, 52, 53, 52, 54, 52, 55, 52, 56, 52, 57, 53, 48, 53, 49, 53, 50, 53, 51, 53, 52, 53, 53, 53, 54, 53, 55, 53, 56, 53, 57, 54, 48, 54, 49, 54, 50, 54, 51, 54, 52, 54, 53, 54, 54, 54, 55, 54, 56, 54, 57, 55, 48, 55, 49, 55, 50, 55, 51, 55, 52, 55, 53, 55, 54, 55, 55, 55, 56, 55, 57, 56, 48, 56, 49, 56, 50, 56, 51, 56, 52, 56, 53, 56, 54, 56, 55, 56, 56, 56, 57, 57, 48, 57, 49, 57, 50, 57, 51, 57, 52, 57, 53, 57, 54, 57, 55, 57, 56, 57, 57])) (.t 51)⟩,
    ⟨some 53, none, .idxas 1 (.t 42) (.t 44)⟩,
    ⟨none, none, .store 1 (.t 53) (.t 50)⟩,
    ⟨some 54, none, .idxas 1 (.t 45) (.t 47)⟩,
    ⟨none, none, .store 1 (.t 54) (.t 52)⟩] [[], [], [1], [], [], [4], [], [6], [6, 7], [], [9], [0, 1, 2, 6, 7], [0, 1, 2, 6, 7, 8, 11], [0, 1, 2, 3, 4, 5, 6, 7, 8, 9, 11, 12], [0, 1, 2, 3, 4, 5, 6, 7, 8, 9, 10, 11, 12, 13]] [0, 1, 4, 8, 10, 11])
  (.seq (.draw [⟨some 55, none, .mov (.t 0)⟩,
    ⟨some 56, none, .mov (.t 4)⟩,
    ⟨some 57, none, .bin .sub (.t 56) (.c (.int .i64 3))⟩,
    ⟨some 58, none, .mov (.t 0)⟩,
    ⟨some 59, none, .mov (.t 4)⟩,
    ⟨some 60, none, .bin .sub (.t 59) (.c (.int .i64 4))⟩,
    ⟨some 61, none, .mov (.t 8)⟩,
    ⟨some 62, none, .bin .add (.t 61) (.c (.int .u32 1))⟩,
    ⟨some 63, none, .idxstr (.c (.str [48, 48, 48, 49, 48, 50, 48, 51, 48, 52, 48, 53, 48, 54, 48, 55, 48, 56, 48, 57, 49, 48, 49, 49, 49, 50, 49, 51, 49, 52, 49, 53, 49, 54, 49, 55, 49, 56, 49, 57, 50, 48, 50, 49, 50, 50, 50, 51, 50, 52, 50, 53, 50, 54, 50, 55, 50, 56, 50, 57, 51, 48, 51, 49, 51, 50, 51, 51, 51, 52, 51, 53, 51, 54, 51, 55, 51, 56, 51, 57, 52, 48, 52, 49, 52, 50, 52, 51, 52, 52, 52, 53, 52, 54, 52, 55, 52, 56, 52, 57, 53, 48, 53, 49, 53, 50, 53, 51, 53, 52, 53, 53, 53, 54, 53, 55, 53, 56, 53, 57, 54, 48, 54, 49, 54, 50, 54, 51, 54, 52, 54, 53, 54, 54, 54, 55, 54, 56, 54, 57, 55, 48, 55, 49, 55, 50, 55, 51, 55, 52, 55, 53, 55, 54, 55, 55, 55, 56, 55, 57, 56, 48, 56, 49, 56, 50, 56, 51, 56, 52, 56, 53, 56, 54, 56, 55, 56, 56, 56, 57, 57, 48, 57, 49, 57, 50, 57, 51, 57, 52, 57, 53, 57, 54, 57, 55, 57, 56, 57, 57])) (.t 62)⟩,
    ⟨some 64, none, .mov (.t 8)⟩,
    ⟨some 65, none, .idxstr (.c (.str [48, 48, 48, 49, 48, 50, 48, 51, 48, 52, 48, 53, 48, 54, 48, 55, 48, 56, 48, 57, 49, 48, 49, 49, 49, 50, 49, 51, 49, 52, 49, 53, 49, 54, 49, 55, 49, 56, 49, 57, 50, 48, 50, 49, 50, 50, 50, 51, 50, 52, 50, 53, 50, 54, 50, 55, 50, 56, 50, 57, 51, 48, 51, 49, 51, 50, 51, 51, 51, 52, 51, 53, 51, 54, 51, 55, 51, 56, 51, 57, 52, 48, 52, 49, 52, 50, 52, 51, 52, 52, 52, 53, 52, 54, 52, 55, 52, 56, 52, 57, 53, 48, 53, 49, 53, 50, 53, 51, 53, 52, 53, 53, 53, 54, 53, 55, 53, 56, 53, 57, 54, 48, 54, 49, 54, 50, 54, 51, 54, 52, 54, 53, 54, 54, 54, 55, 54, 56, 54, 57, 55, 48, 55, 49, 55, 50, 55, 51, 55, 52, 55, 53, 55, 54, 55, 55, 55, 56, 55, 57, 56, 48, 56, 49, 56, 50, 56, 51, 56, 52, 56, 53, 56, 54, 56, 55, 56, 56, 56, 57, 57, 48, 57, 49, 57, 50, 57, 51, 57, 52, 57, 53, 57, 54, 57, 55, 57, 56, 57, 57])) (.t 64)⟩,
    ⟨some 66, none, .idxas 1 (.t 55) (.t 57)⟩,
    ⟨none, none, .store 1 (.t 66) (.t 63)⟩,
    ⟨some 67, none, .idxas 1 (.t 58) (.t 60)⟩,
    ⟨none, none, .store 1 (.t 67) (.t 65)⟩] [[], [], [1], [], [], [4], [], [6], [6, 7], [], [9], [0, 1, 2, 6, 7], [0, 1, 2, 6, 7, 8, 11], [0, 1, 2, 3, 4, 5, 6, 7, 8, 9, 11, 12], [0, 1, 2, 3, 4, 5, 6, 7, 8, 9, 10, 11, 12, 13]] [0, 1, 4, 10, 11])
  (.seq (.draw [⟨some 68, none, .mov (.t 0)⟩,
    ⟨some 69, none, .mov (.t 4)⟩,
    ⟨some 70, none, .bin .sub (.t 69) (.c (.int .i64 5))⟩,
    ⟨some 71, none, .mov (.t 0)⟩,
    ⟨some 72, none, .mov (.t 4)⟩,
    ⟨some 73, none, .bin .sub (.t 72) (.c (.int .i64 6))⟩,
    ⟨some 74, none, .mov (.t 11)⟩,
    ⟨some 75, none, .bin .add (.t 74) (.c (.int .u32 1))⟩,
    ⟨some 76, none, .idxstr (.c (.str [48, 48, 48, 49, 48, 50, 48, 51, 48, 52, 48, 53, 48, 54, 48, 55, 48, 56, 48, 57, 49, 48, 49, 49, 49, 50, 49, 51, 49, 52, 49, 53, 49, 54, 49, 55, 49, 56, 49, 57, 50, 48, 50, 49, 50, 50, 50, 51, 50, 52, 50, 53, 50, 54, 50, 55, 50, 56, 50, 57, 51, 48, 51, 49, 51, 50, 51, 51, 51, 52, 51, 53, 51, 54, 51, 55, 51, 56, 51, 57, 52, 48, 52, 49, 52, 50, 52, 51, 52, 52, 52, 53, 52, 54, 52, 55, 52, 56, 52, 57, 53, 48, 53, 49, 53, 50, 53, 51, 53, 52, 53, 53, 53, 54, 53, 55, 53, 56, 53, 57, 54, 48, 54, 49, 54, 50, 54, 51, 54, 52, 54, 53, 54, 54, 54, 55, 54, 56, 54, 57, 55, 48, 55, 49, 55, 50, 55, 51, 55, 52, 55, 53, 55, 54, 55, 55, 55, 56, 55, 57, 56, 48, 56, 49, 56, 50, 56, 51, 56, 52, 56, 53, 56, 54, 56, 55, 56, 56, 56, 57, 57, 48, 57, 49, 57, 50, 57, 51, 57, 52, 57, 53, 57, 54, 57, 55, 57, 56, 57, 57])) (.t 75)⟩,
    ⟨some 77, none, .mov (.t 11)⟩,
    ⟨some 78, none, .idxstr (.c (.str [48, 48, 48, 49, 48, 50, 48, 51, 48, 52, 48, 53, 48, 54, 48, 55, 48, 56, 48, 57, 49, 48, 49, 49, 49, 50, 49, 51, 49, 52, 49, 53, 49, 54, 49, 55, 49, 56, 49, 57, 50, 48, 50, 49, 50, 50, 50, 51, 50, 52, 50, 53, 50, 54, 50, 55, 50, 56, 50, 57, 51, 48, 51, 49, 51, 50, 51, 51, 51, 52, 51, 53, 51, 54, 51, 55, 51, 56, 51, 57, 52, 48, 52, 49, 52, 50, 52, 51, 52, 52, 52, 53, 52, 54, 52, 55, 52, 56, 52, 57, 53, 48, 53, 49, 53, 50, 53, 51, 53, 52, 53, 53, 53, 54, 53, 55, 53, 56, 53, 57, 54, 48, 54, 49, 54, 50, 54, 51, 54, 52, 54, 53, 54, 54, 54, 55, 54, 56, 54, 57, 55, 48, 55, 49, 55, 50, 55, 51, 55, 52, 55, 53, 55, 54, 55, 55, 55, 56, 55, 57, 56, 48, 56, 49, 56, 50, 56, 51, 56, 52, 56, 53, 56, 54, 56, 55, 56, 56, 56, 57, 57, 48, 57, 49, 57, 50, 57, 51, 57, 52, 57, 53, 57, 54, 57, 55, 57, 56, 57, 57])) (.t 77)⟩,
    ⟨some 79, none, .idxas 1 (.t 68) (.t 70)⟩,
    ⟨none, none, .store 1 (.t 79) (.t 76)⟩,
    ⟨some 80, none, .idxas 1 (.t 71) (.t 73)⟩,
    ⟨none, none, .store 1 (.t 80) (.t 78)⟩] [[], [], [1], [], [], [4], [], [6], [6, 7], [], [9], [0, 1, 2, 6, 7], [0, 1, 2, 6, 7, 8, 11], [0, 1, 2, 3, 4, 5, 6, 7, 8, 9, 11, 12], [0, 1, 2, 3, 4, 5, 6, 7, 8, 9, 10, 11, 12, 13]] [0, 1, 4, 10])
  (.seq (.draw [⟨some 81, none, .mov (.t 0)⟩,
    ⟨some 82, none, .mov (.t 4)⟩,
    ⟨some 83, none, .bin .sub (.t 82) (.c (.int .i64 7))⟩,
    ⟨some 84, none, .mov (.t 0)⟩,
    ⟨some 85, none, .mov (.t 4)⟩,
    ⟨some 86, none, .bin .sub (.t 85) (.c (.int .i64 8))⟩,
    ⟨some 87, none, .mov (.t 10)⟩,
    ⟨some 88, none, .bin .add (.t 87) (.c (.int .u32 1))⟩,
    ⟨some 89, none, .idxstr (.c (.str [48, 48, 48, 49, 48, 50, 48, 51, 48, 52, 48, 53, 48, 54, 48, 55, 48, 56, 48, 57, 49, 48, 49, 49, 49, 50, 49, 51, 49, 52, 49, 53, 49, 54, 49, 55, 49, 56, 49, 57, 50, 48, 50, 49, 50, 50, 50, 51, 50, 52, 50, 53, 50, 54, 50, 55, 50, 56, 50, 57, 51, 48, 51, 49, 51, 50, 51, 51, 51, 52, 51, 53, 51, 54, 51, 55, 51, 56, 51, 57, 52, 48, 52, 49, 52, 50, 52, 51, 52, 52, 52, 53, 52, 54, 52, 55, 52, 56, 52, 57, 53, 48, 53, 49, 53, 50, 53, 51, 53, 52, 53, 53, 53, 54, 53, 55, 53, 56, 53, 57, 54, 48, 54, 49, 54, 50, 54, 51, 54, 52, 54, 53, 54, 54, 54, 55, 54, 56, 54, 57, 55, 48, 55, 49, 55, 50, 55, 51, 55, 52, 55, 53, 55, 54, 55, 55, 55, 56, 55, 57, 56, 48, 56, 49, 56, 50, 56, 51, 56, 52, 56, 53, 56, 54, 56, 55, 56, 56, 56, 57, 57, 48, 57, 49, 57, 50, 57, 51, 57, 52, 57, 53, 57, 54, 57, 55, 57, 56, 57, 57])) (.t 88)⟩,
    ⟨some 90, none, .mov (.t 10)⟩,
    ⟨some 91, none, .idxstr (.c (.str [48, 48, 48, 49, 48, 50, 48, 51, 48, 52, 48, 53, 48, 54, 48, 55, 48, 56, 48, 57, 49, 48, 49, 49, 49, 50, 49, 51, 49, 52, 49, 53, 49, 54, 49, 55, 49, 56, 49, 57, 50, 48, 50, 49, 50, 50, 50, 51, 50, 52, 50, 53, 50, 54, 50, 55, 50, 56, 50, 57, 51, 48, 51, 49, 51, 50, 51, 51, 51, 52, 51, 53, 51, 54, 51, 55, 51, 56, 51, 57, 52, 48, 52, 49, 52, 50, 52, 51, 52, 52, 52, 53, 52, 54, 52, 55, 52, 56, 52, 57, 53, 48, 53, 49, 53, 50, 53, 51, 53, 52, 53, 53, 53, 54, 53, 55, 53, 56, 53, 57, 54, 48, 54, 49, 54, 50, 54, 51, 54, 52, 54, 53, 54, 54, 54, 55, 54, 56, 54, 57, 55, 48, 55, 49, 55, 50, 55, 51, 55, 52, 55, 53, 55, 54, 55, 55, 55, 56, 55, 57, 56, 48, 56, 49, 56, 50, 56, 51, 56, 52, 56, 53, 56, 54, 56, 55, 56, 56, 56, 57, 57, 48, 57, 49, 57, 50, 57, 51, 57, 52, 57, 53, 57, 54, 57, 55, 57, 56, 57, 57])) (.t 90)⟩,
    ⟨some 92, none, .idxas 1 (.t 81) (.t 83)⟩,
    ⟨none, none, .store 1 (.t 92) (.t 89)⟩,
    ⟨some 93, none, .idxas 1 (.t 84) (.t 86)⟩,
    ⟨none, none, .store 1 (.t 93) (.t 91)⟩] [[], [], [1], [], [], [4], [], [6], [6, 7], [], [9], [0, 1, 2, 6, 7], [0, 1, 2, 6, 7, 8, 11], [0, 1, 2, 3, 4, 5, 6, 7, 8, 9, 11, 12], [0, 1, 2, 3, 4, 5, 6, 7, 8, 9, 10, 11, 12, 13]] [0, 1, 4])
  (.region [⟨some 94, none, .mov (.t 4)⟩,
    ⟨some 95, none, .bin .sub (.t 94) (.c (.int .i64 8))⟩,
    ⟨some 4, none, .mov (.t 95)⟩] [0, 1, 4]))))))))))))

/-- internal/strconv.formatBase10 -/
def i128 : AFunc := ⟨2, 167, [],
  (.seq (.region [⟨some 17, none, .mov (.t 0)⟩,
    ⟨some 18, none, .lensl (.t 17)⟩,
    ⟨some 4, none, .mov (.t 18)⟩] [0, 1, 4])
  (.seq (.block 0 (.loop [0, 1, 4] i128_L0))
  (.seq (.region [⟨some 96, none, .mov (.t 1)⟩,
    ⟨some 97, none, .cvi .u32 (.t 96)⟩,
    ⟨some 12, none, .mov (.t 97)⟩] [0, 4, 12])
  (.seq (.seq (.region [⟨some 98, none, .mov (.t 4)⟩,
    ⟨some 99, none, .bin .geq (.t 98) (.c (.int .i64 4))⟩] [0, 4, 12, 99])
  (.cond (.t 99) (.seq (.region [⟨some 100, none, .mov (.t 12)⟩,
    ⟨some 101, none, .bin .rem (.t 100) (.c (.int .u32 10000))⟩,
    ⟨some 13, none, .mov (.t 101)⟩] [0, 4, 12, 13])
  (.seq (.region [⟨some 102, none, .mov (.t 12)⟩,
    ⟨some 103, none, .bin .quo (.t 102) (.c (.int .u32 10000))⟩,
    ⟨some 12, none, .mov (.t 103)⟩] [0, 4, 12, 13])
  (.seq (.region [⟨some 104, none, .mov (.t 13)⟩,
    ⟨some 105, none, .bin .quo (.t 104) (.c (.int .u32 100))⟩,
    ⟨some 106, none, .bin .mul (.t 105) (.c (.int .u32 2))⟩,
    ⟨some 107, none, .mov (.t 13)⟩,
    ⟨some 108, none, .bin .rem (.t 107) (.c (.int .u32 100))⟩,
    ⟨some 109, none, .bin .mul (.t 108) (.c (.int .u32 2))⟩,
    ⟨some 14, none, .mov (.t 106)⟩,
    ⟨some 15, none, .mov (.t 109)⟩] [0, 4, 12, 14, 15])
  (.seq (.draw [⟨some 110, none, .mov (.t 0)⟩,
    ⟨some 111, none, .mov (.t 4)⟩,
    ⟨some 112, none, .bin .sub (.t 111) (.c (.int .i64 1))⟩,
    ⟨some 113, none, .mov (.t 0)⟩,
    ⟨some 114, none, .mov (.t 4)⟩,
    ⟨some 115, none, .bin .sub (.t 114) (.c (.int .i64 2))⟩,
    ⟨some 116, none, .mov (.t 15)⟩,
    ⟨some 117, none, .bin .add (.t 116) (.c (.int .u32 1))⟩,
    ⟨some 118, none, .idxstr (.c (.str [48, 48, 48, 49, 48, 50, 48, 51, 48, 52, 48, 53, 48, 54, 48, 55, 48, 56, 48, 57, 49, 48, 49, 49, 49, 50, 49, 51, 49, 52, 49, 53, 49, 54, 49, 55, 49, 56, 49, 57, 50, 48, 50, 49, 50, 50, 50, 51, 50, 52, 50, 53, 50, 54, 50, 55, 50, 56, 50, 57, 51, 48, 51, 49, 51, 50, 51, 51, 51, 52, 51, 53, 51, 54, 51, 55, 51, 56, 51, 57, 52, 48, 52, 49, 52, 50, 52, 51, 52, 52, 52, 53, 52, 54, 52, 55, 52, 56, 52, 57, 53, 48, 53, 49, 53, 50, 53, 51, 53, 52, 53, 53, 53, 54, 53, 55, 53, 56, 53, 57, 54, 48, 54, 49, 54, 50, 54, 51, 54, 52, 54, 53, 54, 54, 54, 55, 54, 56, 54, 57, 55, 48, 55, 49, 55, 50, 55, 51, 55, 52, 55, 53, 55, 54, 55, 55, 55, 56, 55, 57, 56, 48, 56, 49, 56, 50, 56, 51, 56, 52, 56, 53, 56, 54, 56, 55, 56, 56, 56, 57, 57, 48, 57, 49, 57, 50, 57, 51, 57, 52, 57, 53, 57, 54, 57, 55, 57, 56, 57, 57])) (.t 117)⟩,
    ⟨some 119, none, .mov (.t 15)⟩,
    ⟨some 120, none, .idxstr (.c (.str [48, 48, 48, 49, 48, 50, 48, 51, 48, 52, 48, 53, 48, 54, 48, 55, 48, 56, 48, 57, 49, 48, 49, 49, 49, 50, 49, 51, 49, 52, 49, 53, 49, 54, 49, 55, 49, 56, 49, 57, 50, 48, 50, 49, 50, 50, 50, 51, 50, 52, 50, 53, 50, 54, 50, 55, 50, 56, 50, 57, 51, 48, 51, 49, 51, 50, 51, 51, 51, 52, 51, 53, 51, 54, 51, 55, 51, 56, 51, 57, 52, 48, 52, 49, 52, 50, 52, 51, 52, 52, 52, 53, 52, 54, 52, 55, 52, 56, 52, 57, 53, 48, 53, 49, 53, 50, 53, 51, 53, 52, 53, 53, 53, 54, 53, 55, 53, 56, 53, 57, 54, 48, 54, 49, 54, 50, 54, 51, 54, 52, 54, 53, 54, 54, 54, 55, 54, 56, 54, 57, 55, 48, 55, 49, 55, 50, 55, 51, 55, 52, 55, 53, 55, 54, 55, 55, 55, 56, 55, 57, 56, 48, 56, 49, 56, 50, 56, 51, 56, 52, 56, 53, 56, 54, 56, 55, 56, 56, 56, 57, 57, 48, 57, 49, 57, 50, 57, 51, 57, 52, 57, 53, 57, 54, 57, 55, 57, 56, 57, 57])) (.t 119)⟩,
    ⟨some 121, none, .idxas 1 (.t 110) (.t 112)⟩,
    ⟨none, none, .store 1 (.t 121) (.t 118)⟩,
    ⟨some 122, none, .idxas 1 (.t 113) (.t 115)⟩,
    ⟨none, none, .store 1 (.t 122) (.t 120)⟩] [[], [], [1], [], [], [4], [], [6], [6, 7], [], [9], [0, 1, 2, 6, 7], [0, 1, 2, 6, 7, 8, 11], [0, 1, 2, 3, 4, 5, 6, 7, 8, 9, 11, 12], [0, 1, 2, 3, 4, 5, 6, 7, 8, 9, 10, 11, 12, 13]] [0, 4, 12, 14])
  (.seq (.draw [⟨some 123, none, .mov (.t 0)⟩,
    ⟨some 124, none, .mov (.t 4)⟩,
    ⟨some 125, none, .bin .sub (.t 124) (.c (.int .i64 3))⟩,
    ⟨some 126, none, .mov (.t 0)⟩,
    ⟨some 127, none, .mov (.t 4)⟩,
    ⟨some 128, none, .bin .sub (.t 127) (.c (.int .i64 4))⟩,
    ⟨some 129, none, .mov (.t 14)⟩,
    ⟨some 130, none, .bin .add (.t 129) (.c (.int .u32 1))⟩,
    ⟨some 131, none, .idxstr (.c (.str [48, 48, 48, 49, 48, 50, 48, 51, 48, 52, 48, 53, 48, 54, 48, 55, 48, 56, 48, 57, 49, 48, 49, 49, 49, 50, 49, 51, 49, 52, 49, 53, 49, 54, 49, 55, 49, 56, 49, 57, 50, 48, 50, 49, 50, 50, 50, 51, 50, 52, 50, 53, 50, 54, 50, 55, 50, 56, 50, 57, 51, 48, 51, 49, 51, 50, 51, 51, 51, 52, 51, 53, 51, 54, 51, 55, 51, 56, 51, 57, 52, 48, 52, 49, 52, 50, 52, 51, 52, 52, 52, 53, 52, 54, 52, 55, 52, 56, 52, 57, 53, 48, 53, 49, 53, 50, 53, 51, 53, 52, 53, 53, 53, 54, 53, 55, 53, 56, 53, 57, 54, 48, 54, 49, 54, 50, 54, 51, 54, 52, 54, 53, 54, 54, 54, 55, 54, 56, 54, 57, 55, 48, 55, 49, 55, 50, 55, 51, 55, 52, 55, 53, 55, 54, 55, 55, 55, 56, 55, 57, 56, 48, 56, 49, 56, 50, 56, 51, 56, 52, 56, 53, 56, 54, 56, 55, 56, 56, 56, 57, 57, 48, 57, 49, 57, 50, 57, 51, 57, 52, 57, 53, 57, 54, 57, 55, 57, 56, 57, 57])) (.t 130)⟩,
    ⟨some 132, none, .mov (.t 14)⟩,
    ⟨some 133, none, .idxstr (.c (.str [48, 48, 48, 49, 48, 50, 48, 51, 48, 52, 48, 53, 48, 54, 48, 55, 48, 56, 48, 57, 49, 48, 49, 49, 49, 50, 49, 51, 49, 52, 49, 53, 49, 54, 49, 55, 49, 56, 49, 57, 50, 48, 50, 49, 50, 50, 50, 51, 50, 52, 50, 53, 50, 54, 50, 55, 50, 56, 50, 57, 51, 48, 51, 49, 51, 50, 51, 51, 51, 52, 51, 53, 51, 54, 51, 55, 51, 56, 51, 57, 52, 48, 52, 49, 52, 50, 52, 51, 52, 52, 52, 53, 52, 54, 52, 55, 52, 56, 52, 57, 53, 48, 53, 49, 53, 50, 53, 51, 53, 52, 53, 53, 53, 54, 53, 55, 53, 56, 53, 57, 54, 48, 54, 49, 54, 50, 54, 51, 54, 52, 54, 53, 54, 54, 54, 55, 54, 56, 54, 57, 55, 48, 55, 49, 55, 50, 55, 51, 55, 52, 55, 53, 55, 54, 55, 55, 55, 56, 55, 57, 56, 48, 56, 49, 56, 50, 56, 51, 56, 52, 56, 53, 56, 54, 56, 55, 56, 56, 56, 57, 57, 48, 57, 49, 57, 50, 57, 51, 57, 52, 57, 53, 57, 54, 57, 55, 57, 56, 57, 57])) (.t 132)⟩,
    ⟨some 134, none, .idxas 1 (.t 123) (.t 125)⟩,
    ⟨none, none, .store 1 (.t 134) (.t 131)⟩,
    ⟨some 135, none, .idxas 1 (.t 126) (.t 128)⟩,
    ⟨none, none, .store 1 (.t 135) (.t 133)⟩] [[], [], [1], [], [], [4], [], [6], [6, 7], [], [9], [0, 1, 2, 6, 7], [0, 1, 2, 6, 7, 8, 11], [0, 1, 2, 3, 4, 5, 6, 7, 8, 9, 11, 12], [0, 1, 2, 3, 4, 5, 6, 7, 8, 9, 10, 11, 12, 13]] [0, 4, 12])
  (.region [⟨some 136, none, .mov (.t 4)⟩,
    ⟨some 137, none, .bin .sub (.t 136) (.c (.int .i64 4))⟩,
    ⟨some 4, none, .mov (.t 137)⟩] [0, 4, 12]))))))
  .skip))
  (.seq (.seq (.region [⟨some 138, none, .mov (.t 4)⟩,
    ⟨some 139, none, .bin .geq (.t 138) (.c (.int .i64 2))⟩] [0, 4, 12, 139])
  (.cond (.t 139) (.seq (.region [⟨some 140, none, .mov (.t 12)⟩,
    ⟨some 141, none, .bin .rem (.t 140) (.c (.int .u32 100))⟩,
    ⟨some 142, none, .bin .mul (.t 141) (.c (.int .u32 2))⟩,
    ⟨some 16, none, .mov (.t 142)⟩] [0, 4, 12, 16])
  (.seq (.region [⟨some 143, none, .mov (.t 12)⟩,
    ⟨some 144, none, .bin .quo (.t 143) (.c (.int .u32 100))⟩,
    ⟨some 12, none, .mov (.t 144)⟩] [0, 4, 12, 16])
  (.seq (.draw [⟨some 145, none, .mov (.t 0)⟩,
    ⟨some 146, none, .mov (.t 4)⟩,
    ⟨some 147, none, .bin .sub (.t 146) (.c (.int .i64 1))⟩,
    ⟨some 148, none, .mov (.t 0)⟩,
    ⟨some 149, none, .mov (.t 4)⟩,
    ⟨some 150, none, .bin .sub (.t 149) (.c (.int .i64 2))⟩,
    ⟨some 151, none, .mov (.t 16)⟩,
    ⟨some 152, none, .bin .add (.t 151) (.c (.int .u32 1))⟩,
    ⟨some 153, none, .idxstr (.c (.str [48, 48, 48, 49, 48, 50, 48, 51, 48, 52, 48, 53, 48, 54, 48, 55, 48, 56, 48, 57, 49, 48, 49, 49, 49, 50, 49, 51, 49, 52, 49, 53, 49, 54, 49, 55, 49, 56, 49, 57, 50, 48, 50, 49, 50, 50, 50, 51, 50, 52, 50, 53, 50, 54, 50, 55, 50, 56, 50, 57, 51, 48, 51, 49, 51, 50, 51, 51, 51, 52, 51, 53, 51, 54, 51, 55, 51, 56, 51, 57, 52, 48, 52, 49, 52, 50, 52, 51, 52, 52, 52, 53, 52, 54, 52, 55, 52, 56, 52, 57, 53, 48, 53, 49, 53, 50, 53, 51, 53, 52, 53, 53, 53, 54, 53, 55, 53, 56, 53, 57, 54, 48, 54, 49, 54, 50, 54, 51, 54, 52, 54, 53, 54, 54, 54, 55, 54, 56, 54, 57, 55, 48, 55, 49, 55, 50, 55, 51, 55, 52, 55, 53, 55, 54, 55, 55, 55, 56, 55, 57, 56, 48, 56, 49, 56, 50, 56, 51, 56, 52, 56, 53, 56, 54, 56, 55, 56, 56, 56, 57, 57, 48, 57, 49, 57, 50, 57, 51, 57, 52, 57, 53, 57, 54, 57, 55, 57, 56, 57, 57])) (.t 152)⟩,
    ⟨some 154, none, .mov (.t 16)⟩,
    ⟨some 155, none, .idxstr (.c (.str [48, 48, 48, 49, 48, 50, 48, 51, 48, 52, 48, 53, 48, 54, 48, 55, 48, 56, 48, 57, 49, 48, 49, 49, 49, 50, 49, 51, 49, 52, 49, 53, 49, 54, 49, 55, 49, 56, 49, 57, 50, 48, 50, 49, 50, 50, 50, 51, 50, 52, 50, 53, 50, 54, 50, 55, 50, 56, 50, 57, 51, 48, 51, 49, 51, 50, 51, 51, 51, 52, 51, 53, 51, 54, 51, 55, 51, 56, 51, 57, 52, 48, 52, 49, 52, 50, 52, 51, 52, 52, 52, 53, 52, 54, 52, 55, 52, 56, 52, 57, 53, 48, 53, 49, 53, 50, 53, 51, 53, 52, 53, 53, 53, 54, 53, 55, 53, 56, 53, 57, 54, 48, 54, 49, 54, 50, 54, 51, 54, 52, 54, 53, 54, 54, 54, 55, 54, 56, 54, 57, 55, 48, 55, 49, 55, 50, 55, 51, 55, 52, 55, 53, 55, 54, 55, 55, 55, 56, 55, 57, 56, 48, 56, 49, 56, 50, 56, 51, 56, 52, 56, 53, 56, 54, 56, 55, 56, 56, 56, 57, 57, 48, 57, 49, 57, 50, 57, 51, 57, 52, 57, 53, 57, 54, 57, 55, 57, 56, 57, 57])) (.t 154)⟩,
    ⟨some 156, none, .idxas 1 (.t 145) (.t 147)⟩,
    ⟨none, none, .store 1 (.t 156) (.t 153)⟩,
    ⟨some 157, none, .idxas 1 (.t 148) (.t 150)⟩,
    ⟨none, none, .store 1 (.t 157) (.t 155)⟩] [[], [], [1], [], [], [4], [], [6], [6, 7], [], [9], [0, 1, 2, 6, 7], [0, 1, 2, 6, 7, 8, 11], [0, 1, 2, 3, 4, 5, 6, 7, 8, 9, 11, 12], [0, 1, 2, 3, 4, 5, 6, 7, 8, 9, 10, 11, 12, 13]] [0, 4, 12])
  (.region [⟨some 158, none, .mov (.t 4)⟩,
    ⟨some 159, none, .bin .sub (.t 158) (.c (.int .i64 2))⟩,
    ⟨some 4, none, .mov (.t 159)⟩] [0, 4, 12]))))
  .skip))
  (.seq (.region [⟨some 160, none, .mov (.t 4)⟩,
    ⟨some 161, none, .bin .gtr (.t 160) (.c (.int .i64 0))⟩] [0, 12, 161])
  (.cond (.t 161) (.region [⟨some 162, none, .mov (.t 0)⟩,
    ⟨some 163, none, .mov (.t 12)⟩,
    ⟨some 164, none, .bin .add (.c (.int .u32 48)) (.t 163)⟩,
    ⟨some 165, none, .cvi .u8 (.t 164)⟩,
    ⟨some 166, none, .idxas 1 (.t 162) (.c (.int .i64 0))⟩,
    ⟨none, none, .store 1 (.t 166) (.t 165)⟩] [])
  .skip)))))))⟩

def i129_L0 : ACode :=
  (.seq (.seq (.region [⟨some 44, none, .mov (.t 1)⟩,
    ⟨some 45, none, .mov (.t 15)⟩,
    ⟨some 46, none, .bin .geq (.t 44) (.t 45)⟩] [0, 1, 3, 4, 10, 11, 12, 13, 14, 15, 16, 46])
  (.cond (.t 46) .skip
  (.exit 0)))
  (.block 1 (.seq (.region [⟨some 47, none, .mov (.t 13)⟩,
    ⟨some 48, none, .bin .sub (.t 47) (.c (.int .i64 1))⟩,
    ⟨some 13, none, .mov (.t 48)⟩] [0, 1, 3, 4, 10, 11, 12, 13, 14, 15, 16])
  (.seq (.region [⟨some 49, none, .mov (.t 13)⟩,
    ⟨some 50, none, .mov (.t 1)⟩,
    ⟨some 51, none, .mov (.t 16)⟩,
    ⟨some 52, none, .bin .and (.t 50) (.t 51)⟩,
    ⟨some 53, none, .idxstr (.c (.str [48, 49, 50, 51, 52, 53, 54, 55, 56, 57, 97, 98, 99, 100, 101, 102, 103, 104, 105, 106, 107, 108, 109, 110, 111, 112, 113, 114, 115, 116, 117, 118, 119, 120, 121, 122])) (.t 52)⟩,
    ⟨some 54, none, .idxaa 65 1 (.t 12) (.t 49)⟩,
    ⟨none, none, .store 1 (.t 54) (.t 53)⟩] [0, 1, 3, 4, 10, 11, 12, 13, 14, 15, 16])
  (.region [⟨some 55, none, .mov (.t 1)⟩,
    ⟨some 56, none, .mov (.t 14)⟩,
    ⟨some 57, none, .bin .shr (.t 55) (.t 56)⟩,
    ⟨some 1, none, .mov (.t 57)⟩] [0, 1, 3, 4, 10, 11, 12, 13, 14, 15, 16])))))

def i129_L1 : ACode :=
  (.seq (.seq (.region [⟨some 66, none, .mov (.t 1)⟩,
    ⟨some 67, none, .mov (.t 17)⟩,
    ⟨some 68, none, .bin .geq (.t 66) (.t 67)⟩] [0, 1, 3, 4, 10, 11, 12, 13, 17, 68])
  (.cond (.t 68) .skip
  (.exit 2)))
  (.block 3 (.seq (.region [⟨some 69, none, .mov (.t 13)⟩,
    ⟨some 70, none, .bin .sub (.t 69) (.c (.int .i64 1))⟩,
    ⟨some 13, none, .mov (.t 70)⟩] [0, 1, 3, 4, 10, 11, 12, 13, 17])
  (.seq (.region [⟨some 71, none, .mov (.t 1)⟩,
    ⟨some 72, none, .mov (.t 17)⟩,
    ⟨some 73, none, .bin .quo (.t 71) (.t 72)⟩,
    ⟨some 18, none, .mov (.t 73)⟩] [0, 1, 3, 4, 10, 11, 12, 13, 17, 18])
  (.seq (.region [⟨some 74, none, .mov (.t 13)⟩,
    ⟨some 75, none, .mov (.t 1)⟩,
    ⟨some 76, none, .mov (.t 18)⟩,
    ⟨some 77, none, .mov (.t 17)⟩,
    ⟨some 78, none, .bin .mul (.t 76) (.t 77)⟩,
    ⟨some 79, none, .bin .sub (.t 75) (.t 78)⟩,
    ⟨some 80, none, .idxstr (.c (.str [48, 49, 50, 51, 52, 53, 54, 55, 56, 57, 97, 98, 99, 100, 101, 102, 103, 104, 105, 106, 107, 108, 109, 110, 111, 112, 113, 114, 115, 116, 117, 118, 119, 120, 121, 122])) (.t 79)⟩,
    ⟨some 81, none, .idxaa 65 1 (.t 12) (.t 74)⟩,
    ⟨none, none, .store 1 (.t 81) (.t 80)⟩] [0, 3, 4, 10, 11, 12, 13, 17, 18])
  (.region [⟨some 82, none, .mov (.t 18)⟩,
    ⟨some 1, none, .mov (.t 82)⟩] [0, 1, 3, 4, 10, 11, 12, 13, 17]))))))

/-- internal/strconv.formatBits -/
def i129 : AFunc := ⟨5, 102, [.tmp 10, .tmp 11],
  (.seq (.region [⟨some 10, none, .mov (.c (.sl 1 [] .exact))⟩,
    ⟨some 11, none, .mov (.c (.str []))⟩] [0, 1, 2, 3, 4, 10, 11])
  (.seq (.seq (.region [⟨some 19, none, .mov (.t 2)⟩,
    ⟨some 20, none, .bin .lss (.t 19) (.c (.int .i64 2))⟩,
    ⟨some 21, none, .mov (.t 20)⟩,
    ⟨some 22, (some (21, false)), .mov (.t 2)⟩,
    ⟨some 23, (some (21, false)), .bin .eql (.t 22) (.c (.int .i64 10))⟩,
    ⟨some 24, none, .pick (.t 21) (.c (.bool true)) (.t 23)⟩,
    ⟨some 25, none, .mov (.t 24)⟩,
    ⟨some 26, (some (25, false)), .mov (.t 2)⟩,
    ⟨some 27, (some (25, false)), .bin .gtr (.t 26) (.c (.int .i64 36))⟩,
    ⟨some 28, none, .pick (.t 25) (.c (.bool true)) (.t 27)⟩] [0, 1, 2, 3, 4, 10, 11, 28])
  (.cond (.t 28) (.region [⟨some 29, none, .mkif 9 (.c (.str [115, 116, 114, 99, 111, 110, 118, 58, 32, 105, 108, 108, 101, 103, 97, 108, 32, 65, 112, 112, 101, 110, 100, 73, 110, 116, 47, 70, 111, 114, 109, 97, 116, 73, 110, 116, 32, 98, 97, 115, 101]))⟩,
    ⟨none, none, .panic (.t 29)⟩] [0, 1, 2, 3, 4, 10, 11])
  .skip))
  (.seq (.region [⟨some 12, none, .alloc [(.int .u8 0), (.int .u8 0), (.int .u8 0), (.int .u8 0), (.int .u8 0), (.int .u8 0), (.int .u8 0), (.int .u8 0), (.int .u8 0), (.int .u8 0), (.int .u8 0), (.int .u8 0), (.int .u8 0), (.int .u8 0), (.int .u8 0), (.int .u8 0), (.int .u8 0), (.int .u8 0), (.int .u8 0), (.int .u8 0), (.int .u8 0), (.int .u8 0), (.int .u8 0), (.int .u8 0), (.int .u8 0), (.int .u8 0), (.int .u8 0), (.int .u8 0), (.int .u8 0), (.int .u8 0), (.int .u8 0), (.int .u8 0), (.int .u8 0), (.int .u8 0), (.int .u8 0), (.int .u8 0), (.int .u8 0), (.int .u8 0), (.int .u8 0), (.int .u8 0), (.int .u8 0), (.int .u8 0), (.int .u8 0), (.int .u8 0), (.int .u8 0), (.int .u8 0), (.int .u8 0), (.int .u8 0), (.int .u8 0), (.int .u8 0), (.int .u8 0), (.int .u8 0), (.int .u8 0), (.int .u8 0), (.int .u8 0), (.int .u8 0), (.int .u8 0), (.int .u8 0), (.int .u8 0), (.int .u8 0), (.int .u8 0), (.int .u8 0), (.int .u8 0), (.int .u8 0), (.int .u8 0)] 178⟩] [0, 1, 2, 3, 4, 10, 11, 12])
  (.seq (.region [⟨some 13, none, .mov (.c (.int .i64 65))⟩] [0, 1, 2, 3, 4, 10, 11, 12, 13])
  (.seq (.seq (.region [⟨some 30, none, .mov (.t 3)⟩] [0, 1, 2, 3, 4, 10, 11, 12, 13, 30])
  (.cond (.t 30) (.region [⟨some 31, none, .mov (.t 1)⟩,
    ⟨some 32, none, .un .neg (.t 31)⟩,
    ⟨some 1, none, .mov (.t 32)⟩] [0, 1, 2, 3, 4, 10, 11, 12, 13])
  .skip))
  (.seq (.seq (.region [⟨some 33, none, .mov (.t 2)⟩,
    ⟨some 34, none, .call false 139 [(.t 33)]⟩] [0, 1, 2, 3, 4, 10, 11, 12, 13, 34])
  (.cond (.t 34) (.seq (.region [⟨some 35, none, .mov (.t 2)⟩,
    ⟨some 36, none, .cvi .u64 (.t 35)⟩,
    ⟨some 37, none, .call false 140 [(.t 36)]⟩,
    ⟨some 38, none, .cvi .u64 (.t 37)⟩,
    ⟨some 14, none, .mov (.t 38)⟩] [0, 1, 2, 3, 4, 10, 11, 12, 13, 14])
  (.seq (.region [⟨some 39, none, .mov (.t 2)⟩,
    ⟨some 40, none, .cvi .u64 (.t 39)⟩,
    ⟨some 15, none, .mov (.t 40)⟩] [0, 1, 2, 3, 4, 10, 11, 12, 13, 14, 15])
  (.seq (.region [⟨some 41, none, .mov (.t 2)⟩,
    ⟨some 42, none, .cvi .u64 (.t 41)⟩,
    ⟨some 43, none, .bin .sub (.t 42) (.c (.int .u64 1))⟩,
    ⟨some 16, none, .mov (.t 43)⟩] [0, 1, 3, 4, 10, 11, 12, 13, 14, 15, 16])
  (.seq (.block 0 (.loop [0, 1, 3, 4, 10, 11, 12, 13, 14, 15, 16] i129_L0))
  (.seq (.region [⟨some 58, none, .mov (.t 13)⟩,
    ⟨some 59, none, .bin .sub (.t 58) (.c (.int .i64 1))⟩,
    ⟨some 13, none, .mov (.t 59)⟩] [0, 1, 3, 4, 10, 11, 12, 13])
  (.region [⟨some 60, none, .mov (.t 13)⟩,
    ⟨some 61, none, .mov (.t 1)⟩,
    ⟨some 62, none, .idxstr (.c (.str [48, 49, 50, 51, 52, 53, 54, 55, 56, 57, 97, 98, 99, 100, 101, 102, 103, 104, 105, 106, 107, 108, 109, 110, 111, 112, 113, 114, 115, 116, 117, 118, 119, 120, 121, 122])) (.t 61)⟩,
    ⟨some 63, none, .idxaa 65 1 (.t 12) (.t 60)⟩,
    ⟨none, none, .store 1 (.t 63) (.t 62)⟩] [0, 3, 4, 10, 11, 12, 13]))))))
  (.seq (.region [⟨some 64, none, .mov (.t 2)⟩,
    ⟨some 65, none, .cvi .u64 (.t 64)⟩,
    ⟨some 17, none, .mov (.t 65)⟩] [0, 1, 3, 4, 10, 11, 12, 13, 17])
  (.seq (.block 2 (.loop [0, 1, 3, 4, 10, 11, 12, 13, 17] i129_L1))
  (.seq (.region [⟨some 83, none, .mov (.t 13)⟩,
    ⟨some 84, none, .bin .sub (.t 83) (.c (.int .i64 1))⟩,
    ⟨some 13, none, .mov (.t 84)⟩] [0, 1, 3, 4, 10, 11, 12, 13])
  (.region [⟨some 85, none, .mov (.t 13)⟩,
    ⟨some 86, none, .mov (.t 1)⟩,
    ⟨some 87, none, .idxstr (.c (.str [48, 49, 50, 51, 52, 53, 54, 55, 56, 57, 97, 98, 99, 100, 101, 102, 103, 104, 105, 106, 107, 108, 109, 110, 111, 112, 113, 114, 115, 116, 117, 118, 119, 120, 121, 122])) (.t 86)⟩,
    ⟨some 88, none, .idxaa 65 1 (.t 12) (.t 85)⟩,
    ⟨none, none, .store 1 (.t 88) (.t 87)⟩] [0, 3, 4, 10, 11, 12, 13]))))))
  (.seq (.seq (.region [⟨some 89, none, .mov (.t 3)⟩] [0, 4, 10, 11, 12, 13, 89])
  (.cond (.t 89) (.seq (.region [⟨some 90, none, .mov (.t 13)⟩,
    ⟨some 91, none, .bin .sub (.t 90) (.c (.int .i64 1))⟩,
    ⟨some 13, none, .mov (.t 91)⟩] [0, 4, 10, 11, 12, 13])
  (.region [⟨some 92, none, .mov (.t 13)⟩,
    ⟨some 93, none, .idxaa 65 1 (.t 12) (.t 92)⟩,
    ⟨none, none, .store 1 (.t 93) (.c (.int .u8 45))⟩] [0, 4, 10, 11, 12, 13]))
  .skip))
  (.seq (.seq (.region [⟨some 94, none, .mov (.t 4)⟩] [0, 10, 11, 12, 13, 94])
  (.cond (.t 94) (.seq (.region [⟨some 95, none, .mov (.t 0)⟩,
    ⟨some 96, none, .mov (.t 13)⟩,
    ⟨some 97, none, .slarr 65 1 (.t 12) (some (.t 96)) none none⟩,
    ⟨some 98, none, .app 5 1 1 (.t 95) (.t 97)⟩,
    ⟨some 10, none, .mov (.t 98)⟩] [10, 11])
  .ret)
  .skip))
  (.seq (.region [⟨some 99, none, .mov (.t 13)⟩,
    ⟨some 100, none, .slarr 65 1 (.t 12) (some (.t 99)) none none⟩,
    ⟨some 101, none, .cvb2s (.t 100)⟩,
    ⟨some 11, none, .mov (.t 101)⟩] [10, 11])
  .ret)))))))))⟩

/-- troth/prog.call -/
def i130 : AFunc := ⟨2, 11, [.tmp 4],
  (.seq (.region [⟨some 4, none, .mov (.c (.str []))⟩] [0, 1])
  (.seq (.region [⟨some 5, none, .mov (.t 0)⟩,
    ⟨some 6, none, .bin .add (.t 5) (.c (.str [40]))⟩,
    ⟨some 7, none, .mov (.t 1)⟩,
    ⟨some 8, none, .call false 141 [(.t 7), (.c (.str [44, 32]))]⟩,
    ⟨some 9, none, .bin .add (.t 6) (.t 8)⟩,
    ⟨some 10, none, .bin .add (.t 9) (.c (.str [41]))⟩,
    ⟨some 4, none, .mov (.t 10)⟩] [4])
  .ret))⟩

/-- internal/strconv.FormatInt -/
def i131 : AFunc := ⟨2, 54, [.tmp 4],
  (.seq (.region [⟨some 4, none, .mov (.c (.str []))⟩] [0, 1])
  (.seq (.seq (.region [⟨some 10, none, .mov (.t 1)⟩,
    ⟨some 11, none, .bin .eql (.t 10) (.c (.int .i64 10))⟩] [0, 1, 11])
  (.cond (.t 11) (.seq (.seq (.region [⟨some 12, none, .mov (.t 0)⟩,
    ⟨some 13, none, .bin .leq (.c (.int .i64 0)) (.t 12)⟩,
    ⟨some 14, none, .mov (.t 13)⟩,
    ⟨some 15, (some (14, true)), .mov (.t 0)⟩,
    ⟨some 16, (some (14, true)), .bin .lss (.t 15) (.c (.int .i64 100))⟩,
    ⟨some 17, none, .pick (.t 14) (.t 16) (.c (.bool false))⟩] [0, 17])
  (.cond (.t 17) (.seq (.region [⟨some 18, none, .mov (.t 0)⟩,
    ⟨some 19, none, .call false 126 [(.t 18)]⟩,
    ⟨some 4, none, .mov (.t 19)⟩] [4])
  .ret)
  .skip))
  (.seq (.region [⟨some 5, none, .alloc [(.int .u8 0), (.int .u8 0), (.int .u8 0), (.int .u8 0), (.int .u8 0), (.int .u8 0), (.int .u8 0), (.int .u8 0), (.int .u8 0), (.int .u8 0), (.int .u8 0), (.int .u8 0), (.int .u8 0), (.int .u8 0), (.int .u8 0), (.int .u8 0), (.int .u8 0), (.int .u8 0), (.int .u8 0), (.int .u8 0), (.int .u8 0), (.int .u8 0), (.int .u8 0), (.int .u8 0)] 164⟩] [0, 5])
  (.seq (.region [⟨some 20, none, .mov (.t 0)⟩,
    ⟨some 21, none, .cvi .u64 (.t 20)⟩,
    ⟨some 6, none, .mov (.t 21)⟩] [0, 5, 6])
  (.seq (.seq (.region [⟨some 22, none, .mov (.t 0)⟩,
    ⟨some 23, none, .bin .lss (.t 22) (.c (.int .i64 0))⟩] [0, 5, 6, 23])
  (.cond (.t 23) (.region [⟨some 24, none, .mov (.t 6)⟩,
    ⟨some 25, none, .un .neg (.t 24)⟩,
    ⟨some 6, none, .mov (.t 25)⟩] [0, 5, 6])
  .skip))
  (.seq (.region [⟨some 26, none, .mov (.t 6)⟩,
    ⟨some 27, none, .call false 127 [(.t 26)]⟩,
    ⟨some 7, none, .mov (.t 27)⟩] [0, 5, 6, 7])
  (.seq (.region [⟨some 28, none, .mov (.t 7)⟩,
    ⟨some 29, none, .bin .add (.c (.int .i64 1)) (.t 28)⟩,
    ⟨some 30, none, .slarr 24 1 (.t 5) (some (.c (.int .i64 1))) (some (.t 29)) none⟩,
    ⟨some 31, none, .mov (.t 6)⟩,
    ⟨some 32, none, .call false 128 [(.t 30), (.t 31)]⟩] [0, 5, 7])
  (.seq (.seq (.region [⟨some 33, none, .mov (.t 0)⟩,
    ⟨some 34, none, .bin .lss (.t 33) (.c (.int .i64 0))⟩] [5, 7, 34])
  (.cond (.t 34) (.seq (.region [⟨some 35, none, .idxaa 24 1 (.t 5) (.c (.int .i64 0))⟩,
    ⟨none, none, .store 1 (.t 35) (.c (.int .u8 45))⟩] [5, 7])
  (.seq (.region [⟨some 36, none, .mov (.t 7)⟩,
    ⟨some 37, none, .bin .add (.c (.int .i64 1)) (.t 36)⟩,
    ⟨some 38, none, .slarr 24 1 (.t 5) none (some (.t 37)) none⟩,
    ⟨some 39, none, .cvb2s (.t 38)⟩,
    ⟨some 4, none, .mov (.t 39)⟩] [4])
  .ret))
  .skip))
  (.seq (.region [⟨some 40, none, .mov (.t 7)⟩,
    ⟨some 41, none, .bin .add (.c (.int .i64 1)) (.t 40)⟩,
    ⟨some 42, none, .slarr 24 1 (.t 5) (some (.c (.int .i64 1))) (some (.t 41)) none⟩,
    ⟨some 43, none, .cvb2s (.t 42)⟩,
    ⟨some 4, none, .mov (.t 43)⟩] [4])
  .ret))))))))
  .skip))
  (.seq (.region [⟨some 45, none, .mov (.t 0)⟩,
    ⟨some 46, none, .cvi .u64 (.t 45)⟩,
    ⟨some 47, none, .mov (.t 1)⟩,
    ⟨some 48, none, .mov (.t 0)⟩,
    ⟨some 49, none, .bin .lss (.t 48) (.c (.int .i64 0))⟩,
    ⟨some 50, none, .call false 129 [(.c (.sl 1 [] .exact)), (.t 46), (.t 47), (.t 49), (.c (.bool false))]⟩,
    ⟨some 44, none, .mov (.t 50)⟩,
    ⟨some 51, none, .ext (.t 44) 0⟩,
    ⟨some 52, none, .ext (.t 44) 1⟩,
    ⟨some 8, none, .mov (.t 51)⟩,
    ⟨some 9, none, .mov (.t 52)⟩] [9])
  (.seq (.region [⟨some 53, none, .mov (.t 9)⟩,
    ⟨some 4, none, .mov (.t 53)⟩] [4])
  .ret))))⟩

/-- errors.New -/
def i133 : AFunc := ⟨1, 7, [.tmp 2],
  (.seq (.region [⟨some 2, none, .mov (.c .nili)⟩] [0])
  (.seq (.region [⟨some 3, none, .mov (.t 0)⟩,
    ⟨some 4, none, .build [(.str [])] [(0, 1, (.t 3))]⟩,
    ⟨some 5, none, .ibox (.t 4)⟩,
    ⟨some 6, none, .mkif 182 (.t 5)⟩,
    ⟨some 2, none, .mov (.t 6)⟩] [2])
  .ret))⟩

/-- internal/strconv.log10Pow2 -/
def i136 : AFunc := ⟨1, 6, [.tmp 2],
  (.seq (.region [⟨some 2, none, .mov (.c (.int .i64 0))⟩] [0])
  (.seq (.region [⟨some 3, none, .mov (.t 0)⟩,
    ⟨some 4, none, .bin .mul (.t 3) (.c (.int .i64 78913))⟩,
    ⟨some 5, none, .bin .shr (.t 4) (.c (.int .u64 18))⟩,
    ⟨some 2, none, .mov (.t 5)⟩] [2])
  .ret))⟩

/-- math/bits.Len64 -/
def i137 : AFunc := ⟨1, 25, [.tmp 2],
  (.seq (.region [⟨some 2, none, .mov (.c (.int .i64 0))⟩] [0, 2])
  (.seq (.seq (.region [⟨some 3, none, .mov (.t 0)⟩,
    ⟨some 4, none, .bin .geq (.t 3) (.c (.int .u64 4294967296))⟩] [0, 2, 4])
  (.cond (.t 4) (.seq (.region [⟨some 5, none, .mov (.t 0)⟩,
    ⟨some 6, none, .bin .shr (.t 5) (.c (.int .u64 32))⟩,
    ⟨some 0, none, .mov (.t 6)⟩] [0])
  (.region [⟨some 2, none, .mov (.c (.int .i64 32))⟩] [0, 2]))
  .skip))
  (.seq (.seq (.region [⟨some 7, none, .mov (.t 0)⟩,
    ⟨some 8, none, .bin .geq (.t 7) (.c (.int .u64 65536))⟩] [0, 2, 8])
  (.cond (.t 8) (.seq (.region [⟨some 9, none, .mov (.t 0)⟩,
    ⟨some 10, none, .bin .shr (.t 9) (.c (.int .u64 16))⟩,
    ⟨some 0, none, .mov (.t 10)⟩] [0, 2])
  (.region [⟨some 11, none, .mov (.t 2)⟩,
    ⟨some 12, none, .bin .add (.t 11) (.c (.int .i64 16))⟩,
    ⟨some 2, none, .mov (.t 12)⟩] [0, 2]))
  .skip))
  (.seq (.seq (.region [⟨some 13, none, .mov (.t 0)⟩,
    ⟨some 14, none, .bin .geq (.t 13) (.c (.int .u64 256))⟩] [0, 2, 14])
  (.cond (.t 14) (.seq (.region [⟨some 15, none, .mov (.t 0)⟩,
    ⟨some 16, none, .bin .shr (.t 15) (.c (.int .u64 8))⟩,
    ⟨some 0, none, .mov (.t 16)⟩] [0, 2])
  (.region [⟨some 17, none, .mov (.t 2)⟩,
    ⟨some 18, none, .bin .add (.t 17) (.c (.int .i64 8))⟩,
    ⟨some 2, none, .mov (.t 18)⟩] [0, 2]))
  .skip))
  (.seq (.region [⟨some 19, none, .mov (.t 2)⟩,
    ⟨some 20, none, .mov (.t 0)⟩,
    ⟨some 21, none, .cvi .u8 (.t 20)⟩,
    ⟨some 22, none, .idxstr (.c (.str [0, 1, 2, 2, 3, 3, 3, 3, 4, 4, 4, 4, 4, 4, 4, 4, 5, 5, 5, 5, 5, 5, 5, 5, 5, 5, 5, 5, 5, 5, 5, 5, 6, 6, 6, 6, 6, 6, 6, 6, 6, 6, 6, 6, 6, 6, 6, 6, 6, 6, 6, 6, 6, 6, 6, 6, 6, 6, 6, 6, 6, 6, 6, 6, 7, 7, 7, 7, 7, 7, 7, 7, 7, 7, 7, 7, 7, 7, 7, 7, 7, 7, 7, 7, 7, 7, 7, 7, 7, 7, 7, 7, 7, 7, 7, 7, 7, 7, 7, 7, 7, 7, 7, 7, 7, 7, 7, 7, 7, 7, 7, 7, 7, 7, 7, 7, 7, 7, 7, 7, 7, 7, 7, 7, 7, 7, 7, 7, 8, 8, 8, 8, 8, 8, 8, 8, 8, 8, 8, 8, 8, 8, 8, 8, 8, 8, 8, 8, 8, 8, 8, 8, 8, 8, 8, 8, 8, 8, 8, 8, 8, 8, 8, 8, 8, 8, 8, 8, 8, 8, 8, 8, 8, 8, 8, 8, 8, 8, 8, 8, 8, 8, 8, 8, 8, 8, 8, 8, 8, 8, 8, 8, 8, 8, 8, 8, 8, 8, 8, 8, 8, 8, 8, 8, 8, 8, 8, 8, 8, 8, 8, 8, 8, 8, 8, 8, 8, 8, 8, 8, 8, 8, 8, 8, 8, 8, 8, 8, 8, 8, 8, 8, 8, 8, 8, 8, 8, 8, 8, 8, 8, 8, 8, 8, 8, 8, 8, 8, 8, 8, 8, 8, 8, 8, 8, 8])) (.t 21)⟩,
    ⟨some 23, none, .cvi .i64 (.t 22)⟩,
    ⟨some 24, none, .bin .add (.t 19) (.t 23)⟩,
    ⟨some 2, none, .mov (.t 24)⟩] [2])
  .ret)))))⟩

/-- internal/strconv.bool2[int] -/
def i138 : AFunc := ⟨1, 4, [.tmp 2],
  (.seq (.region [⟨some 2, none, .mov (.c (.int .i64 0))⟩] [0])
  (.seq (.seq (.region [⟨some 3, none, .mov (.t 0)⟩] [3])
  (.cond (.t 3) (.seq (.region [⟨some 2, none, .mov (.c (.int .i64 1))⟩] [2])
  .ret)
  .skip))
  (.seq (.region [⟨some 2, none, .mov (.c (.int .i64 0))⟩] [2])
  .ret)))⟩

/-- internal/strconv.isPowerOfTwo -/
def i139 : AFunc := ⟨1, 8, [.tmp 2],
  (.seq (.region [⟨some 2, none, .mov (.c (.bool false))⟩] [0])
  (.seq (.region [⟨some 3, none, .mov (.t 0)⟩,
    ⟨some 4, none, .mov (.t 0)⟩,
    ⟨some 5, none, .bin .sub (.t 4) (.c (.int .i64 1))⟩,
    ⟨some 6, none, .bin .and (.t 3) (.t 5)⟩,
    ⟨some 7, none, .bin .eql (.t 6) (.c (.int .i64 0))⟩,
    ⟨some 2, none, .mov (.t 7)⟩] [2])
  .ret))⟩

/-- math/bits.TrailingZeros -/
def i140 : AFunc := ⟨1, 8, [.tmp 2],
  (.seq (.region [⟨some 2, none, .mov (.c (.int .i64 0))⟩] [0])
  (.seq (.cond (.c (.bool false)) (.seq (.region [⟨some 3, none, .mov (.t 0)⟩,
    ⟨some 4, none, .cvi .u32 (.t 3)⟩,
    ⟨some 5, none, .call false 146 [(.t 4)]⟩,
    ⟨some 2, none, .mov (.t 5)⟩] [2])
  .ret)
  .skip)
  (.seq (.region [⟨some 6, none, .mov (.t 0)⟩,
    ⟨some 7, none, .call false 147 [(.t 6)]⟩,
    ⟨some 2, none, .mov (.t 7)⟩] [2])
  .ret)))⟩

def i141_L0 : ACode :=
  (.seq (.region [⟨some 42, none, .bin .lss (.t 41) (.t 40)⟩] [0, 1, 5, 39, 40, 41, 42])
  (.seq (.cond (.t 42) .skip
  (.exit 1))
  (.seq (.block 2 (.seq (.region [⟨some 43, none, .idxas 1 (.t 39) (.t 41)⟩,
    ⟨some 44, none, .load none (.t 43)⟩,
    ⟨some 7, none, .mov (.t 44)⟩] [0, 1, 5, 7, 39, 40, 41])
  (.seq (.seq (.region [⟨some 45, none, .mov (.t 7)⟩,
    ⟨some 46, none, .lenstr (.t 45)⟩,
    ⟨some 47, none, .mov (.t 5)⟩,
    ⟨some 48, none, .bin .sub (.c (.int .i64 9223372036854775807)) (.t 47)⟩,
    ⟨some 49, none, .bin .gtr (.t 46) (.t 48)⟩] [0, 1, 5, 7, 39, 40, 41, 49])
  (.cond (.t 49) (.region [⟨some 50, none, .mkif 9 (.c (.str [115, 116, 114, 105, 110, 103, 115, 58, 32, 74, 111, 105, 110, 32, 111, 117, 116, 112, 117, 116, 32, 108, 101, 110, 103, 116, 104, 32, 111, 118, 101, 114, 102, 108, 111, 119]))⟩,
    ⟨none, none, .panic (.t 50)⟩] [0, 1, 5, 7, 39, 40, 41])
  .skip))
  (.region [⟨some 51, none, .mov (.t 5)⟩,
    ⟨some 52, none, .mov (.t 7)⟩,
    ⟨some 53, none, .lenstr (.t 52)⟩,
    ⟨some 54, none, .bin .add (.t 51) (.t 53)⟩,
    ⟨some 5, none, .mov (.t 54)⟩] [0, 1, 5, 39, 40, 41]))))
  (.region [⟨some 55, none, .bin .add (.t 41) (.c (.int .i64 1))⟩,
    ⟨some 41, none, .mov (.t 55)⟩] [0, 1, 5, 39, 40, 41]))))

def i141_L1 : ACode :=
  (.seq (.region [⟨some 66, none, .bin .lss (.t 65) (.t 64)⟩] [1, 8, 63, 64, 65, 66])
  (.seq (.cond (.t 66) .skip
  (.exit 3))
  (.seq (.block 4 (.seq (.region [⟨some 67, none, .idxas 1 (.t 63) (.t 65)⟩,
    ⟨some 68, none, .load none (.t 67)⟩,
    ⟨some 10, none, .mov (.t 68)⟩] [1, 8, 10, 63, 64, 65])
  (.seq (.region [⟨some 69, none, .mov (.t 1)⟩,
    ⟨some 70, none, .call true 82 [(.t 8), (.t 69)]⟩] [1, 8, 10, 63, 64, 65])
  (.region [⟨some 71, none, .mov (.t 10)⟩,
    ⟨some 72, none, .call true 82 [(.t 8), (.t 71)]⟩] [1, 8, 63, 64, 65]))))
  (.region [⟨some 73, none, .bin .add (.t 65) (.c (.int .i64 1))⟩,
    ⟨some 65, none, .mov (.t 73)⟩] [1, 8, 63, 64, 65]))))

/-- strings.Join -/
def i141 : AFunc := ⟨2, 75, [.tmp 4],
  (.seq (.region [⟨some 4, none, .mov (.c (.str []))⟩] [0, 1])
  (.seq (.seq (.region [⟨some 11, none, .mov (.t 0)⟩,
    ⟨some 12, none, .lensl (.t 11)⟩] [0, 1, 12])
  (.block 0 (.seq (.region [⟨some 14, none, .bin .eql (.t 12) (.c (.int .i64 0))⟩,
    ⟨some 13, none, .mov (.t 14)⟩] [0, 1, 12, 13])
  (.cond (.t 13) (.seq (.region [⟨some 4, none, .mov (.c (.str []))⟩] [4])
  .ret)
  (.seq (.region [⟨some 16, none, .bin .eql (.t 12) (.c (.int .i64 1))⟩,
    ⟨some 15, none, .mov (.t 16)⟩] [0, 1, 15])
  (.cond (.t 15) (.seq (.region [⟨some 17, none, .mov (.t 0)⟩,
    ⟨some 18, none, .idxas 1 (.t 17) (.c (.int .i64 0))⟩,
    ⟨some 19, none, .load none (.t 18)⟩,
    ⟨some 4, none, .mov (.t 19)⟩] [4])
  .ret)
  .skip))))))
  (.seq (.region [⟨some 5, none, .mov (.c (.int .i64 0))⟩] [0, 1, 5])
  (.seq (.seq (.region [⟨some 20, none, .mov (.t 1)⟩,
    ⟨some 21, none, .lenstr (.t 20)⟩,
    ⟨some 22, none, .bin .gtr (.t 21) (.c (.int .i64 0))⟩] [0, 1, 5, 22])
  (.cond (.t 22) (.seq (.seq (.region [⟨some 23, none, .mov (.t 1)⟩,
    ⟨some 24, none, .lenstr (.t 23)⟩,
    ⟨some 25, none, .mov (.t 0)⟩,
    ⟨some 26, none, .lensl (.t 25)⟩,
    ⟨some 27, none, .bin .sub (.t 26) (.c (.int .i64 1))⟩,
    ⟨some 28, none, .bin .quo (.c (.int .i64 9223372036854775807)) (.t 27)⟩,
    ⟨some 29, none, .bin .geq (.t 24) (.t 28)⟩] [0, 1, 5, 29])
  (.cond (.t 29) (.region [⟨some 30, none, .mkif 9 (.c (.str [115, 116, 114, 105, 110, 103, 115, 58, 32, 74, 111, 105, 110, 32, 111, 117, 116, 112, 117, 116, 32, 108, 101, 110, 103, 116, 104, 32, 111, 118, 101, 114, 102, 108, 111, 119]))⟩,
    ⟨none, none, .panic (.t 30)⟩] [0, 1, 5])
  .skip))
  (.region [⟨some 31, none, .mov (.t 5)⟩,
    ⟨some 32, none, .mov (.t 1)⟩,
    ⟨some 33, none, .lenstr (.t 32)⟩,
    ⟨some 34, none, .mov (.t 0)⟩,
    ⟨some 35, none, .lensl (.t 34)⟩,
    ⟨some 36, none, .bin .sub (.t 35) (.c (.int .i64 1))⟩,
    ⟨some 37, none, .bin .mul (.t 33) (.t 36)⟩,
    ⟨some 38, none, .bin .add (.t 31) (.t 37)⟩,
    ⟨some 5, none, .mov (.t 38)⟩] [0, 1, 5]))
  .skip))
  (.seq (.seq (.region [⟨some 39, none, .mov (.t 0)⟩,
    ⟨some 40, none, .lensl (.t 39)⟩,
    ⟨some 41, none, .mov (.c (.int .i64 0))⟩] [0, 1, 5, 39, 40, 41])
  (.block 1 (.loop [0, 1, 5, 39, 40, 41] i141_L0)))
  (.seq (.region [⟨some 8, none, .alloc [.nilp, (.sl 1 [] .exact)] 128⟩] [0, 1, 5, 8])
  (.seq (.region [⟨some 56, none, .mov (.t 5)⟩,
    ⟨some 57, none, .call true 107 [(.t 8), (.t 56)]⟩] [0, 1, 8])
  (.seq (.region [⟨some 58, none, .mov (.t 0)⟩,
    ⟨some 59, none, .idxas 1 (.t 58) (.c (.int .i64 0))⟩,
    ⟨some 60, none, .load none (.t 59)⟩,
    ⟨some 61, none, .call true 82 [(.t 8), (.t 60)]⟩] [0, 1, 8])
  (.seq (.seq (.region [⟨some 62, none, .mov (.t 0)⟩,
    ⟨some 63, none, .slsl 1 (.t 62) (some (.c (.int .i64 1))) none none⟩,
    ⟨some 64, none, .lensl (.t 63)⟩,
    ⟨some 65, none, .mov (.c (.int .i64 0))⟩] [1, 8, 63, 64, 65])
  (.block 3 (.loop [1, 8, 63, 64, 65] i141_L1)))
  (.seq (.region [⟨some 74, none, .call true 86 [(.t 8)]⟩,
    ⟨some 4, none, .mov (.t 74)⟩] [4])
  .ret))))))))))⟩

/-- internal/bytealg.Cutover -/
def i144 : AFunc := ⟨1, 6, [.tmp 2],
  (.seq (.region [⟨some 2, none, .mov (.c (.int .i64 0))⟩] [0])
  (.seq (.region [⟨some 3, none, .mov (.t 0)⟩,
    ⟨some 4, none, .bin .add (.t 3) (.c (.int .i64 16))⟩,
    ⟨some 5, none, .bin .quo (.t 4) (.c (.int .i64 8))⟩,
    ⟨some 2, none, .mov (.t 5)⟩] [2])
  .ret))⟩

def i145_L0 : ACode :=
  (.seq (.seq (.region [⟨some 18, none, .mov (.t 9)⟩,
    ⟨some 19, none, .mov (.t 7)⟩,
    ⟨some 20, none, .bin .lss (.t 18) (.t 19)⟩] [0, 1, 5, 6, 7, 8, 9, 20])
  (.cond (.t 20) .skip
  (.exit 0)))
  (.seq (.block 1 (.region [⟨some 23, none, .mov (.t 8)⟩,
    ⟨some 24, none, .bin .mul (.t 23) (.c (.int .u32 16777619))⟩,
    ⟨some 25, none, .mov (.t 0)⟩,
    ⟨some 26, none, .mov (.t 9)⟩,
    ⟨some 27, none, .idxstr (.t 25) (.t 26)⟩,
    ⟨some 28, none, .cvi .u32 (.t 27)⟩,
    ⟨some 29, none, .bin .add (.t 24) (.t 28)⟩,
    ⟨some 8, none, .mov (.t 29)⟩] [0, 1, 5, 6, 7, 8, 9]))
  (.region [⟨some 21, none, .mov (.t 9)⟩,
    ⟨some 22, none, .bin .add (.t 21) (.c (.int .i64 1))⟩,
    ⟨some 9, none, .mov (.t 22)⟩] [0, 1, 5, 6, 7, 8, 9])))

def i145_L1 : ACode :=
  (.seq (.seq (.region [⟨some 41, none, .mov (.t 10)⟩,
    ⟨some 42, none, .mov (.t 0)⟩,
    ⟨some 43, none, .lenstr (.t 42)⟩,
    ⟨some 44, none, .bin .lss (.t 41) (.t 43)⟩] [0, 1, 5, 6, 7, 8, 10, 44])
  (.cond (.t 44) .skip
  (.exit 2)))
  (.block 3 (.seq (.region [⟨some 45, none, .mov (.t 8)⟩,
    ⟨some 46, none, .bin .mul (.t 45) (.c (.int .u32 16777619))⟩,
    ⟨some 8, none, .mov (.t 46)⟩] [0, 1, 5, 6, 7, 8, 10])
  (.seq (.region [⟨some 47, none, .mov (.t 8)⟩,
    ⟨some 48, none, .mov (.t 0)⟩,
    ⟨some 49, none, .mov (.t 10)⟩,
    ⟨some 50, none, .idxstr (.t 48) (.t 49)⟩,
    ⟨some 51, none, .cvi .u32 (.t 50)⟩,
    ⟨some 52, none, .bin .add (.t 47) (.t 51)⟩,
    ⟨some 8, none, .mov (.t 52)⟩] [0, 1, 5, 6, 7, 8, 10])
  (.seq (.region [⟨some 53, none, .mov (.t 8)⟩,
    ⟨some 54, none, .mov (.t 6)⟩,
    ⟨some 55, none, .mov (.t 0)⟩,
    ⟨some 56, none, .mov (.t 10)⟩,
    ⟨some 57, none, .mov (.t 7)⟩,
    ⟨some 58, none, .bin .sub (.t 56) (.t 57)⟩,
    ⟨some 59, none, .idxstr (.t 55) (.t 58)⟩,
    ⟨some 60, none, .cvi .u32 (.t 59)⟩,
    ⟨some 61, none, .bin .mul (.t 54) (.t 60)⟩,
    ⟨some 62, none, .bin .sub (.t 53) (.t 61)⟩,
    ⟨some 8, none, .mov (.t 62)⟩] [0, 1, 5, 6, 7, 8, 10])
  (.seq (.region [⟨some 63, none, .mov (.t 10)⟩,
    ⟨some 64, none, .bin .add (.t 63) (.c (.int .i64 1))⟩,
    ⟨some 10, none, .mov (.t 64)⟩] [0, 1, 5, 6, 7, 8, 10])
  (.seq (.region [⟨some 65, none, .mov (.t 8)⟩,
    ⟨some 66, none, .mov (.t 5)⟩,
    ⟨some 67, none, .bin .eql (.t 65) (.t 66)⟩,
    ⟨some 68, none, .mov (.t 67)⟩,
    ⟨some 69, (some (68, true)), .mov (.t 0)⟩,
    ⟨some 70, (some (68, true)), .mov (.t 10)⟩,
    ⟨some 71, (some (68, true)), .mov (.t 7)⟩,
    ⟨some 72, (some (68, true)), .bin .sub (.t 70) (.t 71)⟩,
    ⟨some 73, (some (68, true)), .mov (.t 10)⟩,
    ⟨some 74, (some (68, true)), .slstr (.t 69) (some (.t 72)) (some (.t 73))⟩,
    ⟨some 75, (some (68, true)), .mov (.t 1)⟩,
    ⟨some 76, (some (68, true)), .bin .eql (.t 74) (.t 75)⟩,
    ⟨some 77, none, .pick (.t 68) (.t 76) (.c (.bool false))⟩] [0, 1, 5, 6, 7, 8, 10, 77])
  (.cond (.t 77) (.seq (.region [⟨some 78, none, .mov (.t 10)⟩,
    ⟨some 79, none, .mov (.t 7)⟩,
    ⟨some 80, none, .bin .sub (.t 78) (.t 79)⟩,
    ⟨some 4, none, .mov (.t 80)⟩] [4])
  .ret)
  .skip))))))))

/-- internal/bytealg.IndexRabinKarp[string] -/
def i145 : AFunc := ⟨2, 81, [.tmp 4],
  (.seq (.region [⟨some 4, none, .mov (.c (.int .i64 0))⟩] [0, 1])
  (.seq (.region [⟨some 12, none, .mov (.t 1)⟩,
    ⟨some 13, none, .call false 149 [(.t 12)]⟩,
    ⟨some 11, none, .mov (.t 13)⟩,
    ⟨some 14, none, .ext (.t 11) 0⟩,
    ⟨some 15, none, .ext (.t 11) 1⟩,
    ⟨some 5, none, .mov (.t 14)⟩,
    ⟨some 6, none, .mov (.t 15)⟩] [0, 1, 5, 6])
  (.seq (.region [⟨some 16, none, .mov (.t 1)⟩,
    ⟨some 17, none, .lenstr (.t 16)⟩,
    ⟨some 7, none, .mov (.t 17)⟩] [0, 1, 5, 6, 7])
  (.seq (.region [⟨some 8, none, .mov (.c (.int .u32 0))⟩] [0, 1, 5, 6, 7, 8])
  (.seq (.seq (.region [⟨some 9, none, .mov (.c (.int .i64 0))⟩] [0, 1, 5, 6, 7, 8, 9])
  (.block 0 (.loop [0, 1, 5, 6, 7, 8, 9] i145_L0)))
  (.seq (.seq (.region [⟨some 30, none, .mov (.t 8)⟩,
    ⟨some 31, none, .mov (.t 5)⟩,
    ⟨some 32, none, .bin .eql (.t 30) (.t 31)⟩,
    ⟨some 33, none, .mov (.t 32)⟩,
    ⟨some 34, (some (33, true)), .mov (.t 0)⟩,
    ⟨some 35, (some (33, true)), .mov (.t 7)⟩,
    ⟨some 36, (some (33, true)), .slstr (.t 34) none (some (.t 35))⟩,
    ⟨some 37, (some (33, true)), .mov (.t 1)⟩,
    ⟨some 38, (some (33, true)), .bin .eql (.t 36) (.t 37)⟩,
    ⟨some 39, none, .pick (.t 33) (.t 38) (.c (.bool false))⟩] [0, 1, 5, 6, 7, 8, 39])
  (.cond (.t 39) (.seq (.region [⟨some 4, none, .mov (.c (.int .i64 0))⟩] [4])
  .ret)
  .skip))
  (.seq (.seq (.region [⟨some 40, none, .mov (.t 7)⟩,
    ⟨some 10, none, .mov (.t 40)⟩] [0, 1, 5, 6, 7, 8, 10])
  (.block 2 (.loop [0, 1, 5, 6, 7, 8, 10] i145_L1)))
  (.seq (.region [⟨some 4, none, .mov (.c (.int .i64 (-1)))⟩] [4])
  .ret))))))))⟩

/-- math/bits.TrailingZeros32 -/
def i146 : AFunc := ⟨1, 14, [.tmp 2],
  (.seq (.region [⟨some 2, none, .mov (.c (.int .i64 0))⟩] [0])
  (.seq (.seq (.region [⟨some 3, none, .mov (.t 0)⟩,
    ⟨some 4, none, .bin .eql (.t 3) (.c (.int .u32 0))⟩] [0, 4])
  (.cond (.t 4) (.seq (.region [⟨some 2, none, .mov (.c (.int .i64 32))⟩] [2])
  .ret)
  .skip))
  (.seq (.region [⟨some 5, none, .mov (.t 0)⟩,
    ⟨some 6, none, .mov (.t 0)⟩,
    ⟨some 7, none, .un .neg (.t 6)⟩,
    ⟨some 8, none, .bin .and (.t 5) (.t 7)⟩,
    ⟨some 9, none, .bin .mul (.t 8) (.c (.int .u32 125613361))⟩,
    ⟨some 10, none, .bin .shr (.t 9) (.c (.int .u64 27))⟩,
    ⟨some 11, none, .idxaa 32 1 (.g 6) (.t 10)⟩,
    ⟨some 12, none, .load none (.t 11)⟩,
    ⟨some 13, none, .cvi .i64 (.t 12)⟩,
    ⟨some 2, none, .mov (.t 13)⟩] [2])
  .ret)))⟩

/-- math/bits.TrailingZeros64 -/
def i147 : AFunc := ⟨1, 14, [.tmp 2],
  (.seq (.region [⟨some 2, none, .mov (.c (.int .i64 0))⟩] [0])
  (.seq (.seq (.region [⟨some 3, none, .mov (.t 0)⟩,
    ⟨some 4, none, .bin .eql (.t 3) (.c (.int .u64 0))⟩] [0, 4])
  (.cond (.t 4) (.seq (.region [⟨some 2, none, .mov (.c (.int .i64 64))⟩] [2])
  .ret)
  .skip))
  (.seq (.region [⟨some 5, none, .mov (.t 0)⟩,
    ⟨some 6, none, .mov (.t 0)⟩,
    ⟨some 7, none, .un .neg (.t 6)⟩,
    ⟨some 8, none, .bin .and (.t 5) (.t 7)⟩,
    ⟨some 9, none, .bin .mul (.t 8) (.c (.int .u64 285870213051353865))⟩,
    ⟨some 10, none, .bin .shr (.t 9) (.c (.int .u64 58))⟩,
    ⟨some 11, none, .idxaa 64 1 (.g 7) (.t 10)⟩,
    ⟨some 12, none, .load none (.t 11)⟩,
    ⟨some 13, none, .cvi .i64 (.t 12)⟩,
    ⟨some 2, none, .mov (.t 13)⟩] [2])
  .ret)))⟩

def i149_L0 : ACode :=
  (.seq (.seq (.region [⟨some 9, none, .mov (.t 5)⟩,
    ⟨some 10, none, .mov (.t 0)⟩,
    ⟨some 11, none, .lenstr (.t 10)⟩,
    ⟨some 12, none, .bin .lss (.t 9) (.t 11)⟩] [0, 4, 5, 12])
  (.cond (.t 12) .skip
  (.exit 0)))
  (.seq (.block 1 (.region [⟨some 15, none, .mov (.t 4)⟩,
    ⟨some 16, none, .bin .mul (.t 15) (.c (.int .u32 16777619))⟩,
    ⟨some 17, none, .mov (.t 0)⟩,
    ⟨some 18, none, .mov (.t 5)⟩,
    ⟨some 19, none, .idxstr (.t 17) (.t 18)⟩,
    ⟨some 20, none, .cvi .u32 (.t 19)⟩,
    ⟨some 21, none, .bin .add (.t 16) (.t 20)⟩,
    ⟨some 4, none, .mov (.t 21)⟩] [0, 4, 5]))
  (.region [⟨some 13, none, .mov (.t 5)⟩,
    ⟨some 14, none, .bin .add (.t 13) (.c (.int .i64 1))⟩,
    ⟨some 5, none, .mov (.t 14)⟩] [0, 4, 5])))

def i149_L1 : ACode :=
  (.seq (.seq (.region [⟨some 24, none, .mov (.t 8)⟩,
    ⟨some 25, none, .bin .gtr (.t 24) (.c (.int .i64 0))⟩] [4, 6, 7, 8, 25])
  (.cond (.t 25) .skip
  (.exit 2)))
  (.seq (.block 3 (.seq (.seq (.region [⟨some 28, none, .mov (.t 8)⟩,
    ⟨some 29, none, .bin .and (.t 28) (.c (.int .i64 1))⟩,
    ⟨some 30, none, .bin .neq (.t 29) (.c (.int .i64 0))⟩] [4, 6, 7, 8, 30])
  (.cond (.t 30) (.region [⟨some 31, none, .mov (.t 6)⟩,
    ⟨some 32, none, .mov (.t 7)⟩,
    ⟨some 33, none, .bin .mul (.t 31) (.t 32)⟩,
    ⟨some 6, none, .mov (.t 33)⟩] [4, 6, 7, 8])
  .skip))
  (.region [⟨some 34, none, .mov (.t 7)⟩,
    ⟨some 35, none, .mov (.t 7)⟩,
    ⟨some 36, none, .bin .mul (.t 34) (.t 35)⟩,
    ⟨some 7, none, .mov (.t 36)⟩] [4, 6, 7, 8])))
  (.region [⟨some 26, none, .mov (.t 8)⟩,
    ⟨some 27, none, .bin .shr (.t 26) (.c (.int .u64 1))⟩,
    ⟨some 8, none, .mov (.t 27)⟩] [4, 6, 7, 8])))

/-- internal/bytealg.hashStr[string] -/
def i149 : AFunc := ⟨1, 39, [.tmp 2, .tmp 3],
  (.seq (.region [⟨some 2, none, .mov (.c (.int .u32 0))⟩,
    ⟨some 3, none, .mov (.c (.int .u32 0))⟩] [0])
  (.seq (.region [⟨some 4, none, .mov (.c (.int .u32 0))⟩] [0, 4])
  (.seq (.seq (.region [⟨some 5, none, .mov (.c (.int .i64 0))⟩] [0, 4, 5])
  (.block 0 (.loop [0, 4, 5] i149_L0)))
  (.seq (.region [⟨some 6, none, .mov (.c (.int .u32 1))⟩,
    ⟨some 7, none, .mov (.c (.int .u32 16777619))⟩] [0, 4, 6, 7])
  (.seq (.seq (.region [⟨some 22, none, .mov (.t 0)⟩,
    ⟨some 23, none, .lenstr (.t 22)⟩,
    ⟨some 8, none, .mov (.t 23)⟩] [4, 6, 7, 8])
  (.block 2 (.loop [4, 6, 7, 8] i149_L1)))
  (.seq (.region [⟨some 37, none, .mov (.t 4)⟩,
    ⟨some 38, none, .mov (.t 6)⟩,
    ⟨some 2, none, .mov (.t 37)⟩,
    ⟨some 3, none, .mov (.t 38)⟩] [2, 3])
  .ret))))))⟩

/-- gosem.cut.vars -/
def i180 : AFunc := ⟨0, 7, [],
  (.seq (.region [⟨some 0, none, .build [(.int .u8 0), (.int .u8 0), (.int .u8 0), (.int .u8 0), (.int .u8 0), (.int .u8 0), (.int .u8 0), (.int .u8 0), (.int .u8 0), (.int .u8 0), (.int .u8 0), (.int .u8 0), (.int .u8 0), (.int .u8 0), (.int .u8 0), (.int .u8 0), (.int .u8 0), (.int .u8 0), (.int .u8 0), (.int .u8 0), (.int .u8 0), (.int .u8 0), (.int .u8 0), (.int .u8 0), (.int .u8 0), (.int .u8 0), (.int .u8 0), (.int .u8 0), (.int .u8 0), (.int .u8 0), (.int .u8 0), (.int .u8 0)] [(0, 1, (.c (.int .u8 0))), (1, 1, (.c (.int .u8 1))), (2, 1, (.c (.int .u8 28))), (3, 1, (.c (.int .u8 2))), (4, 1, (.c (.int .u8 29))), (5, 1, (.c (.int .u8 14))), (6, 1, (.c (.int .u8 24))), (7, 1, (.c (.int .u8 3))), (8, 1, (.c (.int .u8 30))), (9, 1, (.c (.int .u8 22))), (10, 1, (.c (.int .u8 20))), (11, 1, (.c (.int .u8 15))), (12, 1, (.c (.int .u8 25))), (13, 1, (.c (.int .u8 17))), (14, 1, (.c (.int .u8 4))), (15, 1, (.c (.int .u8 8))), (16, 1, (.c (.int .u8 31))), (17, 1, (.c (.int .u8 27))), (18, 1, (.c (.int .u8 13))), (19, 1, (.c (.int .u8 23))), (20, 1, (.c (.int .u8 21))), (21, 1, (.c (.int .u8 19))), (22, 1, (.c (.int .u8 16))), (23, 1, (.c (.int .u8 7))), (24, 1, (.c (.int .u8 26))), (25, 1, (.c (.int .u8 12))), (26, 1, (.c (.int .u8 18))), (27, 1, (.c (.int .u8 6))), (28, 1, (.c (.int .u8 11))), (29, 1, (.c (.int .u8 5))), (30, 1, (.c (.int .u8 10))), (31, 1, (.c (.int .u8 9)))]⟩,
    ⟨none, none, .store 32 (.g 6) (.t 0)⟩] [])
  (.seq (.region [⟨some 1, none, .build [(.int .u8 0), (.int .u8 0), (.int .u8 0), (.int .u8 0), (.int .u8 0), (.int .u8 0), (.int .u8 0), (.int .u8 0), (.int .u8 0), (.int .u8 0), (.int .u8 0), (.int .u8 0), (.int .u8 0), (.int .u8 0), (.int .u8 0), (.int .u8 0), (.int .u8 0), (.int .u8 0), (.int .u8 0), (.int .u8 0), (.int .u8 0), (.int .u8 0), (.int .u8 0), (.int .u8 0), (.int .u8 0), (.int .u8 0), (.int .u8 0), (.int .u8 0), (.int .u8 0), (.int .u8 0), (.int .u8 0), (.int .u8 0), (.int .u8 0), (.int .u8 0), (.int .u8 0), (.int .u8 0), (.int .u8 0), (.int .u8 0), (.int .u8 0), (.int .u8 0), (.int .u8 0), (.int .u8 0), (.int .u8 0), (.int .u8 0), (.int .u8 0), (.int .u8 0), (.int .u8 0), (.int .u8 0), (.int .u8 0), (.int .u8 0), (.int .u8 0), (.int .u8 0), (.int .u8 0), (.int .u8 0), (.int .u8 0), (.int .u8 0), (.int .u8 0), (.int .u8 0), (.int .u8 0), (.int .u8 0), (.int .u8 0), (.int .u8 0), (.int .u8 0), (.int .u8 0)] [(0, 1, (.c (.int .u8 0))), (1, 1, (.c (.int .u8 1))), (2, 1, (.c (.int .u8 56))), (3, 1, (.c (.int .u8 2))), (4, 1, (.c (.int .u8 57))), (5, 1, (.c (.int .u8 49))), (6, 1, (.c (.int .u8 28))), (7, 1, (.c (.int .u8 3))), (8, 1, (.c (.int .u8 61))), (9, 1, (.c (.int .u8 58))), (10, 1, (.c (.int .u8 42))), (11, 1, (.c (.int .u8 50))), (12, 1, (.c (.int .u8 38))), (13, 1, (.c (.int .u8 29))), (14, 1, (.c (.int .u8 17))), (15, 1, (.c (.int .u8 4))), (16, 1, (.c (.int .u8 62))), (17, 1, (.c (.int .u8 47))), (18, 1, (.c (.int .u8 59))), (19, 1, (.c (.int .u8 36))), (20, 1, (.c (.int .u8 45))), (21, 1, (.c (.int .u8 43))), (22, 1, (.c (.int .u8 51))), (23, 1, (.c (.int .u8 22))), (24, 1, (.c (.int .u8 53))), (25, 1, (.c (.int .u8 39))), (26, 1, (.c (.int .u8 33))), (27, 1, (.c (.int .u8 30))), (28, 1, (.c (.int .u8 24))), (29, 1, (.c (.int .u8 18))), (30, 1, (.c (.int .u8 12))), (31, 1, (.c (.int .u8 5))), (32, 1, (.c (.int .u8 63))), (33, 1, (.c (.int .u8 55))), (34, 1, (.c (.int .u8 48))), (35, 1, (.c (.int .u8 27))), (36, 1, (.c (.int .u8 60))), (37, 1, (.c (.int .u8 41))), (38, 1, (.c (.int .u8 37))), (39, 1, (.c (.int .u8 16))), (40, 1, (.c (.int .u8 46))), (41, 1, (.c (.int .u8 35))), (42, 1, (.c (.int .u8 44))), (43, 1, (.c (.int .u8 21))), (44, 1, (.c (.int .u8 52))), (45, 1, (.c (.int .u8 32))), (46, 1, (.c (.int .u8 23))), (47, 1, (.c (.int .u8 11))), (48, 1, (.c (.int .u8 54))), (49, 1, (.c (.int .u8 26))), (50, 1, (.c (.int .u8 40))), (51, 1, (.c (.int .u8 15))), (52, 1, (.c (.int .u8 34))), (53, 1, (.c (.int .u8 20))), (54, 1, (.c (.int .u8 31))), (55, 1, (.c (.int .u8 10))), (56, 1, (.c (.int .u8 25))), (57, 1, (.c (.int .u8 14))), (58, 1, (.c (.int .u8 19))), (59, 1, (.c (.int .u8 9))), (60, 1, (.c (.int .u8 13))), (61, 1, (.c (.int .u8 8))), (62, 1, (.c (.int .u8 7))), (63, 1, (.c (.int .u8 6)))]⟩,
    ⟨none, none, .store 64 (.g 7) (.t 1)⟩] [])
  (.seq (.region [⟨some 2, none, .build [(.int .u64 0), (.int .u64 0), (.int .u64 0), (.int .u64 0), (.int .u64 0), (.int .u64 0), (.int .u64 0), (.int .u64 0), (.int .u64 0), (.int .u64 0), (.int .u64 0), (.int .u64 0), (.int .u64 0), (.int .u64 0), (.int .u64 0), (.int .u64 0), (.int .u64 0), (.int .u64 0), (.int .u64 0), (.int .u64 0)] [(0, 1, (.c (.int .u64 1))), (1, 1, (.c (.int .u64 10))), (2, 1, (.c (.int .u64 100))), (3, 1, (.c (.int .u64 1000))), (4, 1, (.c (.int .u64 10000))), (5, 1, (.c (.int .u64 100000))), (6, 1, (.c (.int .u64 1000000))), (7, 1, (.c (.int .u64 10000000))), (8, 1, (.c (.int .u64 100000000))), (9, 1, (.c (.int .u64 1000000000))), (10, 1, (.c (.int .u64 10000000000))), (11, 1, (.c (.int .u64 100000000000))), (12, 1, (.c (.int .u64 1000000000000))), (13, 1, (.c (.int .u64 10000000000000))), (14, 1, (.c (.int .u64 100000000000000))), (15, 1, (.c (.int .u64 1000000000000000))), (16, 1, (.c (.int .u64 10000000000000000))), (17, 1, (.c (.int .u64 100000000000000000))), (18, 1, (.c (.int .u64 1000000000000000000))), (19, 1, (.c (.int .u64 10000000000000000000)))]⟩,
    ⟨none, none, .store 20 (.g 4) (.t 2)⟩] [])
  (.seq (.region [⟨some 3, none, .call false 133 [(.c (.str [118, 97, 108, 117, 101, 32, 111, 117, 116, 32, 111, 102, 32, 114, 97, 110, 103, 101]))]⟩,
    ⟨none, none, .store 1 (.g 3) (.t 3)⟩] [])
  (.seq (.region [⟨some 4, none, .call false 133 [(.c (.str [105, 110, 118, 97, 108, 105, 100, 32, 115, 121, 110, 116, 97, 120]))]⟩,
    ⟨none, none, .store 1 (.g 2) (.t 4)⟩] [])
  (.seq (.region [⟨some 5, none, .build [(.str []), (.str []), (.str []), (.str []), (.str []), (.str []), (.str []), (.str []), (.str []), (.str []), (.str []), (.str []), (.str []), (.str []), (.str [])] [(0, 1, (.c (.str []))), (1, 1, (.c (.str [61, 61]))), (2, 1, (.c (.str [33, 61]))), (3, 1, (.c (.str [60]))), (4, 1, (.c (.str [60, 61]))), (5, 1, (.c (.str [43]))), (6, 1, (.c (.str [45]))), (7, 1, (.c (.str [124]))), (8, 1, (.c (.str [94]))), (9, 1, (.c (.str [42]))), (10, 1, (.c (.str [47]))), (11, 1, (.c (.str [37]))), (12, 1, (.c (.str [38]))), (13, 1, (.c (.str [33]))), (14, 1, (.c (.str [45])))]⟩,
    ⟨none, none, .store 15 (.g 1) (.t 5)⟩] [])
  (.region [⟨some 6, none, .build [(.str []), (.str []), (.str []), (.str []), (.str []), (.str []), (.str [])] [(0, 1, (.c (.str []))), (1, 1, (.c (.str [112, 108, 110]))), (2, 1, (.c (.str [114, 108, 120]))), (3, 1, (.c (.str [97, 99, 113]))), (4, 1, (.c (.str [114, 101, 108]))), (5, 1, (.c (.str [97, 114]))), (6, 1, (.c (.str [115, 99])))]⟩,
    ⟨none, none, .store 7 (.g 0) (.t 6)⟩] [])))))))⟩


end Go.Pm
end

section
set_option linter.unusedSimpArgs false
set_option linter.unusedVariables false
set_option linter.unusedSectionVars false
/- The code, all of it, and the package-level variables that are known. -/
set_option maxRecDepth 100000
namespace Go.Pm
def lookI (f : Nat) : List (Nat × AFunc) → Option AFunc
  | [] => none
  | (n, a) :: r => if n = f then some a else lookI f r
def glb (m : Int) : List (Option (List AV)) := [some [(.str []), (.str [112, 108, 110]), (.str [114, 108, 120]), (.str [97, 99, 113]), (.str [114, 101, 108]), (.str [97, 114]), (.str [115, 99])],
  some [(.str []), (.str [61, 61]), (.str [33, 61]), (.str [60]), (.str [60, 61]), (.str [43]), (.str [45]), (.str [124]), (.str [94]), (.str [42]), (.str [47]), (.str [37]), (.str [38]), (.str [33]), (.str [45])],
  some [(.iface 182 (.ip 1 [.agg [(.str [105, 110, 118, 97, 108, 105, 100, 32, 115, 121, 110, 116, 97, 120])]] 0 0))],
  some [(.iface 182 (.ip 1 [.agg [(.str [118, 97, 108, 117, 101, 32, 111, 117, 116, 32, 111, 102, 32, 114, 97, 110, 103, 101])]] 0 0))],
  some [(.int .u64 1), (.int .u64 10), (.int .u64 100), (.int .u64 1000), (.int .u64 10000), (.int .u64 100000), (.int .u64 1000000), (.int .u64 10000000), (.int .u64 100000000), (.int .u64 1000000000), (.int .u64 10000000000), (.int .u64 100000000000), (.int .u64 1000000000000), (.int .u64 10000000000000), (.int .u64 100000000000000), (.int .u64 1000000000000000), (.int .u64 10000000000000000), (.int .u64 100000000000000000), (.int .u64 1000000000000000000), (.int .u64 10000000000000000000)],
  some [(.int .i64 m)],
  some [(.int .u8 0), (.int .u8 1), (.int .u8 28), (.int .u8 2), (.int .u8 29), (.int .u8 14), (.int .u8 24), (.int .u8 3), (.int .u8 30), (.int .u8 22), (.int .u8 20), (.int .u8 15), (.int .u8 25), (.int .u8 17), (.int .u8 4), (.int .u8 8), (.int .u8 31), (.int .u8 27), (.int .u8 13), (.int .u8 23), (.int .u8 21), (.int .u8 19), (.int .u8 16), (.int .u8 7), (.int .u8 26), (.int .u8 12), (.int .u8 18), (.int .u8 6), (.int .u8 11), (.int .u8 5), (.int .u8 10), (.int .u8 9)],
  some [(.int .u8 0), (.int .u8 1), (.int .u8 56), (.int .u8 2), (.int .u8 57), (.int .u8 49), (.int .u8 28), (.int .u8 3), (.int .u8 61), (.int .u8 58), (.int .u8 42), (.int .u8 50), (.int .u8 38), (.int .u8 29), (.int .u8 17), (.int .u8 4), (.int .u8 62), (.int .u8 47), (.int .u8 59), (.int .u8 36), (.int .u8 45), (.int .u8 43), (.int .u8 51), (.int .u8 22), (.int .u8 53), (.int .u8 39), (.int .u8 33), (.int .u8 30), (.int .u8 24), (.int .u8 18), (.int .u8 12), (.int .u8 5), (.int .u8 63), (.int .u8 55), (.int .u8 48), (.int .u8 27), (.int .u8 60), (.int .u8 41), (.int .u8 37), (.int .u8 16), (.int .u8 46), (.int .u8 35), (.int .u8 44), (.int .u8 21), (.int .u8 52), (.int .u8 32), (.int .u8 23), (.int .u8 11), (.int .u8 54), (.int .u8 26), (.int .u8 40), (.int .u8 15), (.int .u8 34), (.int .u8 20), (.int .u8 31), (.int .u8 10), (.int .u8 25), (.int .u8 14), (.int .u8 19), (.int .u8 9), (.int .u8 13), (.int .u8 8), (.int .u8 7), (.int .u8 6)]]
def irL : List (Nat × AFunc) := [(3, i3), (4, i4), (5, i5), (6, i6), (7, i7), (8, i8), (9, i9), (10, i10), (11, i11), (12, i12), (13, i13), (14, i14), (15, i15), (16, i16), (17, i17), (18, i18), (19, i19), (20, i20), (21, i21), (22, i22), (23, i23), (24, i24), (25, i25), (26, i26), (27, i27), (28, i28), (29, i29), (30, i30), (31, i31), (32, i32), (33, i33), (34, i34), (35, i35), (36, i36), (37, i37), (38, i38), (39, i39), (40, i40), (41, i41), (42, i42), (43, i43), (44, i44), (45, i45), (46, i46), (47, i47), (48, i48), (49, i49), (50, i50), (51, i51), (52, i52), (53, i53), (54, i54), (55, i55), (56, i56), (57, i57), (58, i58), (59, i59), (60, i60), (61, i61), (62, i62), (63, i63), (64, i64), (65, i65), (66, i66), (67, i67), (68, i68), (69, i69), (70, i70), (71, i71), (72, i72), (73, i73), (74, i74), (75, i75), (76, i76), (77, i77), (78, i78), (79, i79), (80, i80), (81, i81), (82, i82), (83, i83), (84, i84), (85, i85), (87, i87), (88, i88), (89, i89), (90, i90), (91, i91), (92, i92), (93, i93), (94, i94), (95, i95), (96, i96), (97, i97), (98, i98), (99, i99), (101, i101), (102, i102), (103, i103), (105, i105), (106, i106), (108, i108), (109, i109), (110, i110), (111, i111), (112, i112), (113, i113), (114, i114), (115, i115), (116, i116), (117, i117), (118, i118), (119, i119), (120, i120), (122, i122), (123, i123), (124, i124), (126, i126), (127, i127), (128, i128), (129, i129), (130, i130), (131, i131), (133, i133), (136, i136), (137, i137), (138, i138), (139, i139), (140, i140), (141, i141), (144, i144), (145, i145), (146, i146), (147, i147), (149, i149), (180, i180)]
def irOf : FuncId → Option AFunc := fun f => lookI f irL
def glOf (m : Int) : Globals := fun g => match (glb m)[g]? with | some (some c) => some c | _ => none
end Go.Pm
end

section
set_option linter.unusedSimpArgs false
set_option linter.unusedVariables false
set_option linter.unusedSectionVars false
/- The code that the pure machine has is the program's: function by function. -/
set_option maxRecDepth 1000000
namespace Go.Pm
open Go.Proofs
theorem ok3 : okAt Tryd.prog 3 i3 = true := by kernel_rfl
theorem ok4 : okAt Tryd.prog 4 i4 = true := by kernel_rfl
theorem ok5 : okAt Tryd.prog 5 i5 = true := by kernel_rfl
theorem ok6 : okAt Tryd.prog 6 i6 = true := by kernel_rfl
theorem ok7 : okAt Tryd.prog 7 i7 = true := by kernel_rfl
theorem ok8 : okAt Tryd.prog 8 i8 = true := by kernel_rfl
theorem ok9 : okAt Tryd.prog 9 i9 = true := by kernel_rfl
theorem ok10 : okAt Tryd.prog 10 i10 = true := by kernel_rfl
theorem ok11 : okAt Tryd.prog 11 i11 = true := by kernel_rfl
theorem ok12 : okAt Tryd.prog 12 i12 = true := by kernel_rfl
theorem ok13 : okAt Tryd.prog 13 i13 = true := by kernel_rfl
theorem ok14 : okAt Tryd.prog 14 i14 = true := by kernel_rfl
theorem ok15 : okAt Tryd.prog 15 i15 = true := by kernel_rfl
theorem ok16 : okAt Tryd.prog 16 i16 = true := by kernel_rfl
theorem ok17 : okAt Tryd.prog 17 i17 = true := by kernel_rfl
theorem ok18 : okAt Tryd.prog 18 i18 = true := by kernel_rfl
theorem ok19 : okAt Tryd.prog 19 i19 = true := by kernel_rfl
theorem ok20 : okAt Tryd.prog 20 i20 = true := by kernel_rfl
theorem ok21 : okAt Tryd.prog 21 i21 = true := by kernel_rfl
theorem ok22 : okAt Tryd.prog 22 i22 = true := by kernel_rfl
theorem ok23 : okAt Tryd.prog 23 i23 = true := by kernel_rfl
theorem ok24 : okAt Tryd.prog 24 i24 = true := by kernel_rfl
theorem ok25 : okAt Tryd.prog 25 i25 = true := by kernel_rfl
theorem ok26 : okAt Tryd.prog 26 i26 = true := by kernel_rfl
theorem ok27 : okAt Tryd.prog 27 i27 = true := by kernel_rfl
theorem ok28 : okAt Tryd.prog 28 i28 = true := by kernel_rfl
theorem ok29 : okAt Tryd.prog 29 i29 = true := by kernel_rfl
theorem ok30 : okAt Tryd.prog 30 i30 = true := by kernel_rfl
theorem ok31 : okAt Tryd.prog 31 i31 = true := by kernel_rfl
theorem ok32 : okAt Tryd.prog 32 i32 = true := by kernel_rfl
theorem ok33 : okAt Tryd.prog 33 i33 = true := by kernel_rfl
theorem ok34 : okAt Tryd.prog 34 i34 = true := by kernel_rfl
theorem ok35 : okAt Tryd.prog 35 i35 = true := by kernel_rfl
theorem ok36 : okAt Tryd.prog 36 i36 = true := by kernel_rfl
theorem ok37 : okAt Tryd.prog 37 i37 = true := by kernel_rfl
theorem ok38 : okAt Tryd.prog 38 i38 = true := by kernel_rfl
theorem ok39 : okAt Tryd.prog 39 i39 = true := by kernel_rfl
theorem ok40 : okAt Tryd.prog 40 i40 = true := by kernel_rfl
theorem ok41 : okAt Tryd.prog 41 i41 = true := by kernel_rfl
theorem ok42 : okAt Tryd.prog 42 i42 = true := by kernel_rfl
theorem ok43 : okAt Tryd.prog 43 i43 = true := by kernel_rfl
theorem ok44 : okAt Tryd.prog 44 i44 = true := by kernel_rfl
theorem ok45 : okAt Tryd.prog 45 i45 = true := by kernel_rfl
theorem ok46 : okAt Tryd.prog 46 i46 = true := by kernel_rfl
theorem ok47 : okAt Tryd.prog 47 i47 = true := by kernel_rfl
theorem ok48 : okAt Tryd.prog 48 i48 = true := by kernel_rfl
theorem ok49 : okAt Tryd.prog 49 i49 = true := by kernel_rfl
theorem ok50 : okAt Tryd.prog 50 i50 = true := by kernel_rfl
theorem ok51 : okAt Tryd.prog 51 i51 = true := by kernel_rfl
theorem ok52 : okAt Tryd.prog 52 i52 = true := by kernel_rfl
theorem ok53 : okAt Tryd.prog 53 i53 = true := by kernel_rfl
theorem ok54 : okAt Tryd.prog 54 i54 = true := by kernel_rfl
theorem ok55 : okAt Tryd.prog 55 i55 = true := by kernel_rfl
theorem ok56 : okAt Tryd.prog 56 i56 = true := by kernel_rfl
theorem ok57 : okAt Tryd.prog 57 i57 = true := by kernel_rfl
theorem ok58 : okAt Tryd.prog 58 i58 = true := by kernel_rfl
theorem ok59 : okAt Tryd.prog 59 i59 = true := by kernel_rfl
theorem ok60 : okAt Tryd.prog 60 i60 = true := by kernel_rfl
theorem ok61 : okAt Tryd.prog 61 i61 = true := by kernel_rfl
theorem ok62 : okAt Tryd.prog 62 i62 = true := by kernel_rfl
theorem ok63 : okAt Tryd.prog 63 i63 = true := by kernel_rfl
theorem ok64 : okAt Tryd.prog 64 i64 = true := by kernel_rfl
theorem ok65 : okAt Tryd.prog 65 i65 = true := by kernel_rfl
theorem ok66 : okAt Tryd.prog 66 i66 = true := by kernel_rfl
theorem ok67 : okAt Tryd.prog 67 i67 = true := by kernel_rfl
theorem ok68 : okAt Tryd.prog 68 i68 = true := by kernel_rfl
theorem ok69 : okAt Tryd.prog 69 i69 = true := by kernel_rfl
theorem ok70 : okAt Tryd.prog 70 i70 = true := by kernel_rfl
theorem ok71 : okAt Tryd.prog 71 i71 = true := by kernel_rfl
theorem ok72 : okAt Tryd.prog 72 i72 = true := by kernel_rfl
theorem ok73 : okAt Tryd.prog 73 i73 = true := by kernel_rfl
theorem ok74 : okAt Tryd.prog 74 i74 = true := by kernel_rfl
theorem ok75 : okAt Tryd.prog 75 i75 = true := by kernel_rfl
theorem ok76 : okAt Tryd.prog 76 i76 = true := by kernel_rfl
theorem ok77 : okAt Tryd.prog 77 i77 = true := by kernel_rfl
theorem ok78 : okAt Tryd.prog 78 i78 = true := by kernel_rfl
theorem ok79 : okAt Tryd.prog 79 i79 = true := by kernel_rfl
theorem ok80 : okAt Tryd.prog 80 i80 = true := by kernel_rfl
theorem ok81 : okAt Tryd.prog 81 i81 = true := by kernel_rfl
theorem ok82 : okAt Tryd.prog 82 i82 = true := by kernel_rfl
theorem ok83 : okAt Tryd.prog 83 i83 = true := by kernel_rfl
theorem ok84 : okAt Tryd.prog 84 i84 = true := by kernel_rfl
theorem ok85 : okAt Tryd.prog 85 i85 = true := by kernel_rfl
theorem ok87 : okAt Tryd.prog 87 i87 = true := by kernel_rfl
theorem ok88 : okAt Tryd.prog 88 i88 = true := by kernel_rfl
theorem ok89 : okAt Tryd.prog 89 i89 = true := by kernel_rfl
theorem ok90 : okAt Tryd.prog 90 i90 = true := by kernel_rfl
theorem ok91 : okAt Tryd.prog 91 i91 = true := by kernel_rfl
theorem ok92 : okAt Tryd.prog 92 i92 = true := by kernel_rfl
theorem ok93 : okAt Tryd.prog 93 i93 = true := by kernel_rfl
theorem ok94 : okAt Tryd.prog 94 i94 = true := by kernel_rfl
theorem ok95 : okAt Tryd.prog 95 i95 = true := by kernel_rfl
theorem ok96 : okAt Tryd.prog 96 i96 = true := by kernel_rfl
theorem ok97 : okAt Tryd.prog 97 i97 = true := by kernel_rfl
theorem ok98 : okAt Tryd.prog 98 i98 = true := by kernel_rfl
theorem ok99 : okAt Tryd.prog 99 i99 = true := by kernel_rfl
theorem ok101 : okAt Tryd.prog 101 i101 = true := by kernel_rfl
theorem ok102 : okAt Tryd.prog 102 i102 = true := by kernel_rfl
theorem ok103 : okAt Tryd.prog 103 i103 = true := by kernel_rfl
theorem ok105 : okAt Tryd.prog 105 i105 = true := by kernel_rfl
theorem ok106 : okAt Tryd.prog 106 i106 = true := by kernel_rfl
theorem ok108 : okAt Tryd.prog 108 i108 = true := by kernel_rfl
theorem ok109 : okAt Tryd.prog 109 i109 = true := by kernel_rfl
theorem ok110 : okAt Tryd.prog 110 i110 = true := by kernel_rfl
theorem ok111 : okAt Tryd.prog 111 i111 = true := by kernel_rfl
theorem ok112 : okAt Tryd.prog 112 i112 = true := by kernel_rfl
theorem ok113 : okAt Tryd.prog 113 i113 = true := by kernel_rfl
theorem ok114 : okAt Tryd.prog 114 i114 = true := by kernel_rfl
theorem ok115 : okAt Tryd.prog 115 i115 = true := by kernel_rfl
theorem ok116 : okAt Tryd.prog 116 i116 = true := by kernel_rfl
theorem ok117 : okAt Tryd.prog 117 i117 = true := by kernel_rfl
theorem ok118 : okAt Tryd.prog 118 i118 = true := by kernel_rfl
theorem ok119 : okAt Tryd.prog 119 i119 = true := by kernel_rfl
theorem ok120 : okAt Tryd.prog 120 i120 = true := by kernel_rfl
theorem ok122 : okAt Tryd.prog 122 i122 = true := by kernel_rfl
theorem ok123 : okAt Tryd.prog 123 i123 = true := by kernel_rfl
theorem ok124 : okAt Tryd.prog 124 i124 = true := by kernel_rfl
theorem ok126 : okAt Tryd.prog 126 i126 = true := by kernel_rfl
theorem ok127 : okAt Tryd.prog 127 i127 = true := by kernel_rfl
theorem ok128 : okAt Tryd.prog 128 i128 = true := by kernel_rfl
theorem ok129 : okAt Tryd.prog 129 i129 = true := by kernel_rfl
theorem ok130 : okAt Tryd.prog 130 i130 = true := by kernel_rfl
theorem ok131 : okAt Tryd.prog 131 i131 = true := by kernel_rfl
theorem ok133 : okAt Tryd.prog 133 i133 = true := by kernel_rfl
theorem ok136 : okAt Tryd.prog 136 i136 = true := by kernel_rfl
theorem ok137 : okAt Tryd.prog 137 i137 = true := by kernel_rfl
theorem ok138 : okAt Tryd.prog 138 i138 = true := by kernel_rfl
theorem ok139 : okAt Tryd.prog 139 i139 = true := by kernel_rfl
theorem ok140 : okAt Tryd.prog 140 i140 = true := by kernel_rfl
theorem ok141 : okAt Tryd.prog 141 i141 = true := by kernel_rfl
theorem ok144 : okAt Tryd.prog 144 i144 = true := by kernel_rfl
theorem ok145 : okAt Tryd.prog 145 i145 = true := by kernel_rfl
theorem ok146 : okAt Tryd.prog 146 i146 = true := by kernel_rfl
theorem ok147 : okAt Tryd.prog 147 i147 = true := by kernel_rfl
theorem ok149 : okAt Tryd.prog 149 i149 = true := by kernel_rfl
theorem ok180 : okAt Tryd.prog 180 i180 = true := by kernel_rfl
theorem lookI_ok {P : Program} : ∀ {l : List (Nat × AFunc)}, (∀ p ∈ l, okAt P p.1 p.2 = true) → ∀ {f : Nat} {af : AFunc}, lookI f l = some af → okAt P f af = true
  | [], _, f, af, h => by cases h
  | (n, a) :: r, hl, f, af, h => by
    simp only [lookI] at h
    split at h
    · rename_i e; subst e; cases h; exact hl (n, a) (by simp)
    · exact lookI_ok (fun p hp => hl p (by simp [hp])) h
theorem ok_all (f : FuncId) (af : AFunc) (h : irOf f = some af) : okAt Tryd.prog f af = true := by
  refine lookI_ok (l := irL) ?_ h
  unfold irL
  simp only [List.forall_mem_cons]
  exact ⟨ok3, ok4, ok5, ok6, ok7, ok8, ok9, ok10, ok11, ok12, ok13, ok14, ok15, ok16, ok17, ok18, ok19, ok20, ok21, ok22, ok23, ok24, ok25, ok26, ok27, ok28, ok29, ok30, ok31, ok32, ok33, ok34, ok35, ok36, ok37, ok38, ok39, ok40, ok41, ok42, ok43, ok44, ok45, ok46, ok47, ok48, ok49, ok50, ok51, ok52, ok53, ok54, ok55, ok56, ok57, ok58, ok59, ok60, ok61, ok62, ok63, ok64, ok65, ok66, ok67, ok68, ok69, ok70, ok71, ok72, ok73, ok74, ok75, ok76, ok77, ok78, ok79, ok80, ok81, ok82, ok83, ok84, ok85, ok87, ok88, ok89, ok90, ok91, ok92, ok93, ok94, ok95, ok96, ok97, ok98, ok99, ok101, ok102, ok103, ok105, ok106, ok108, ok109, ok110, ok111, ok112, ok113, ok114, ok115, ok116, ok117, ok118, ok119, ok120, ok122, ok123, ok124, ok126, ok127, ok128, ok129, ok130, ok131, ok133, ok136, ok137, ok138, ok139, ok140, ok141, ok144, ok145, ok146, ok147, ok149, ok180, by simp⟩
end Go.Pm
end

section
set_option linter.unusedSimpArgs false
set_option linter.unusedVariables false
set_option linter.unusedSectionVars false
/- Contracts of the library, laid at this program by the kit's shelf (its plain mode), those that are needed. -/
namespace Go.Proofs
open Go.Shelf
def Tryd.laysPu14_ren : Go.Shelf.Ren := ⟨fun | 14 => 60 | 16 => 99 | 17 => 100 | 19 => 114 | 20 => 115 | 21 => 116 | 22 => 117 | 23 => 118 | 24 => 119 | 25 => 132 | 27 => 87 | 26 => 133 | 28 => 111 | 29 => 131 | 30 => 126 | 31 => 127 | 32 => 128 | 33 => 129 | 35 => 137 | 34 => 136 | 36 => 138 | 37 => 139 | 38 => 140 | 39 => 146 | 40 => 147 | n => n, fun | 9 => 9 | 3 => 3 | 22 => 30 | 24 => 98 | 25 => 99 | 4 => 4 | 34 => 151 | 5 => 5 | 36 => 145 | 37 => 67 | 0 => 0 | 39 => 153 | 21 => 21 | 44 => 173 | 47 => 149 | 50 => 184 | 48 => 182 | 2 => 2 | 52 => 164 | 55 => 167 | 59 => 177 | 60 => 159 | 20 => 20 | 61 => 178 | 65 => 188 | 66 => 189 | 67 => 34 | n => n, fun | 0 => 2 | 1 => 3 | 2 => 4 | 3 => 6 | 4 => 7 | n => n⟩
theorem Tryd.laysPu14 : Go.Proofs.LaysPu.n14 Tryd.prog Tryd.laysPu14_ren := {
  mixed := by kernel_rfl
  f14 := Tryd.func60.trans (congrArg some (by kernel_rfl))
  f16 := Tryd.func99.trans (congrArg some (by kernel_rfl))
  f17 := Tryd.func100.trans (congrArg some (by kernel_rfl))
  f19 := Tryd.func114.trans (congrArg some (by kernel_rfl))
  f20 := Tryd.func115.trans (congrArg some (by kernel_rfl))
  f21 := Tryd.func116.trans (congrArg some (by kernel_rfl))
  f22 := Tryd.func117.trans (congrArg some (by kernel_rfl))
  f23 := Tryd.func118.trans (congrArg some (by kernel_rfl))
  f24 := Tryd.func119.trans (congrArg some (by kernel_rfl))
  f25 := Tryd.func132.trans (congrArg some (by kernel_rfl))
  f26 := Tryd.func133.trans (congrArg some (by kernel_rfl))
  f27 := Tryd.func87.trans (congrArg some (by kernel_rfl))
  f28 := Tryd.func111.trans (congrArg some (by kernel_rfl))
  f29 := Tryd.func131.trans (congrArg some (by kernel_rfl))
  f30 := Tryd.func126.trans (congrArg some (by kernel_rfl))
  f31 := Tryd.func127.trans (congrArg some (by kernel_rfl))
  f32 := Tryd.func128.trans (congrArg some (by kernel_rfl))
  f33 := Tryd.func129.trans (congrArg some (by kernel_rfl))
  f34 := Tryd.func136.trans (congrArg some (by kernel_rfl))
  f35 := Tryd.func137.trans (congrArg some (by kernel_rfl))
  f36 := Tryd.func138.trans (congrArg some (by kernel_rfl))
  f37 := Tryd.func139.trans (congrArg some (by kernel_rfl))
  f38 := Tryd.func140.trans (congrArg some (by kernel_rfl))
  f39 := Tryd.func146.trans (congrArg some (by kernel_rfl))
  f40 := Tryd.func147.trans (congrArg some (by kernel_rfl))
  t0 := Tryd.underlying0
  a0 := Tryd.isAgg0
  z0 := Tryd.sizeOf0
  v0 := Tryd.zeroValue0
  i0 := by kernel_rfl
  t2 := Tryd.underlying2
  a2 := Tryd.isAgg2
  z2 := Tryd.sizeOf2
  v2 := Tryd.zeroValue2
  i2 := by kernel_rfl
  t3 := Tryd.underlying3
  a3 := Tryd.isAgg3
  z3 := Tryd.sizeOf3
  v3 := Tryd.zeroValue3
  i3 := by kernel_rfl
  t4 := Tryd.underlying4
  a4 := Tryd.isAgg4
  z4 := Tryd.sizeOf4
  v4 := Tryd.zeroValue4
  i4 := by kernel_rfl
  t5 := Tryd.underlying5
  a5 := Tryd.isAgg5
  z5 := Tryd.sizeOf5
  v5 := Tryd.zeroValue5
  i5 := by kernel_rfl
  t9 := Tryd.underlying9
  a9 := Tryd.isAgg9
  z9 := Tryd.sizeOf9
  v9 := Tryd.zeroValue9
  i9 := by kernel_rfl
  t20 := Tryd.underlying20
  a20 := Tryd.isAgg20
  z20 := Tryd.sizeOf20
  v20 := Tryd.zeroValue20
  i20 := by kernel_rfl
  t21 := Tryd.underlying21
  a21 := Tryd.isAgg21
  z21 := Tryd.sizeOf21
  v21 := Tryd.zeroValue21
  i21 := by kernel_rfl
  t22 := Tryd.underlying30
  a22 := Tryd.isAgg30
  z22 := Tryd.sizeOf30
  v22 := Tryd.zeroValue30
  i22 := by kernel_rfl
  t24 := Tryd.underlying98
  a24 := Tryd.isAgg98
  z24 := Tryd.sizeOf98
  v24 := Tryd.zeroValue98
  i24 := by kernel_rfl
  t25 := Tryd.underlying99
  a25 := Tryd.isAgg99
  z25 := Tryd.sizeOf99
  v25 := Tryd.zeroValue99
  i25 := by kernel_rfl
  t34 := Tryd.underlying151
  a34 := Tryd.isAgg151
  z34 := Tryd.sizeOf151
  v34 := Tryd.zeroValue151
  i34 := by kernel_rfl
  c34 := by kernel_rfl
  t36 := Tryd.underlying145
  a36 := Tryd.isAgg145
  z36 := Tryd.sizeOf145
  v36 := Tryd.zeroValue145
  i36 := by kernel_rfl
  t37 := Tryd.underlying67
  a37 := Tryd.isAgg67
  z37 := Tryd.sizeOf67
  v37 := Tryd.zeroValue67
  i37 := by kernel_rfl
  t39 := Tryd.underlying153
  a39 := Tryd.isAgg153
  z39 := Tryd.sizeOf153
  v39 := Tryd.zeroValue153
  i39 := by kernel_rfl
  t44 := Tryd.underlying173
  a44 := Tryd.isAgg173
  z44 := Tryd.sizeOf173
  v44 := Tryd.zeroValue173
  i44 := by kernel_rfl
  t47 := Tryd.underlying149
  a47 := Tryd.isAgg149
  z47 := Tryd.sizeOf149
  v47 := Tryd.zeroValue149
  i47 := by kernel_rfl
  t48 := Tryd.underlying182
  a48 := Tryd.isAgg182
  z48 := Tryd.sizeOf182
  v48 := Tryd.zeroValue182
  i48 := by kernel_rfl
  t50 := Tryd.underlying184
  a50 := Tryd.isAgg184
  z50 := Tryd.sizeOf184
  v50 := Tryd.zeroValue184
  i50 := by kernel_rfl
  t52 := Tryd.underlying164
  a52 := Tryd.isAgg164
  z52 := Tryd.sizeOf164
  v52 := Tryd.zeroValue164
  i52 := by kernel_rfl
  t55 := Tryd.underlying167
  a55 := Tryd.isAgg167
  z55 := Tryd.sizeOf167
  v55 := Tryd.zeroValue167
  i55 := by kernel_rfl
  t59 := Tryd.underlying177
  a59 := Tryd.isAgg177
  z59 := Tryd.sizeOf177
  v59 := Tryd.zeroValue177
  i59 := by kernel_rfl
  t60 := Tryd.underlying159
  a60 := Tryd.isAgg159
  z60 := Tryd.sizeOf159
  v60 := Tryd.zeroValue159
  i60 := by kernel_rfl
  t61 := Tryd.underlying178
  a61 := Tryd.isAgg178
  z61 := Tryd.sizeOf178
  t65 := Tryd.underlying188
  a65 := Tryd.isAgg188
  z65 := Tryd.sizeOf188
  v65 := Tryd.zeroValue188
  i65 := by kernel_rfl
  t66 := Tryd.underlying189
  a66 := Tryd.isAgg189
  z66 := Tryd.sizeOf189
  v66 := Tryd.zeroValue189
  i66 := by kernel_rfl
  t67 := Tryd.underlying34
  a67 := Tryd.isAgg34
  z67 := Tryd.sizeOf34
  v67 := Tryd.zeroValue34
  i67 := by kernel_rfl
  g0 := by kernel_rfl
  m0 := by kernel_rfl
  g1 := by kernel_rfl
  m1 := by kernel_rfl
  g2 := by kernel_rfl
  m2 := by kernel_rfl
  g3 := by kernel_rfl
  m3 := by kernel_rfl
  g4 := by kernel_rfl
  m4 := by kernel_rfl }
open Go.RowKit in
/-- strconv.ParseUint(s, 10, 64), AT EVERY STRING THAT SPELLS A uint64 ('Lib.parseUintB 64 s.data.toList = .ok u'): u, AND NO ERROR. (LAID: no walk: one application.) -/
theorem Tryd.strconv_ParseUint_10_at64_ok (s : ByteArray) (hmax : s.size ≤ 9223372036854775806) (u : Nat) (h : Lib.parseUintB 64 s.data.toList = .ok u) (w : World) :
    Calls Tryd.prog 60 #[.string s, .int .i64 10, .int .i64 64] w fun e w' => e = .returned (.tuple #[.int .u64 u, .nilIface]) ∧ (w' = w ∨ w' = Lib.bytesWorld w 5 s) := Any.strconv_ParseUint_10_at64_ok Tryd.laysPu14 s hmax u h w
open Go.RowKit in
/-- strconv.ParseUint(s, 10, 64), AT EVERY NUMERAL THAT NO uint64 HOLDS: THE GREATEST uint64, AND AN ERROR THAT IS NOT nil: a *NumError in a new block N: {Func: "ParseUint", Num: s's bytes, Err: what the variable ErrRange holds}. Of what was there nothing has turned. (LAID: no walk: one application.) -/
theorem Tryd.strconv_ParseUint_10_at64_range (s : ByteArray) (hlim : s.size ≤ 281474976710656) (h : Lib.parseUintB 64 s.data.toList = .range) (ev : Value) (w : World) (hv : w.cell? ⟨3, 0, none⟩ = some ev) (hev : ev = .nilIface ∨ ∃ te pe, ev = .iface te pe) :
    Calls Tryd.prog 60 #[.string s, .int .i64 10, .int .i64 64] w fun e w' => ∃ N, e = .returned (.tuple #[.int .u64 18446744073709551615, .iface 153 (.pointer (some ⟨N, 0, none⟩))]) ∧ w.heap.size ≤ N ∧ w'.heap[N]? = some (.cells #[.string ⟨#[80, 97, 114, 115, 101, 85, 105, 110, 116]⟩, .string s, ev] 173 (0, 0)) ∧ Below w.heap.size w w' := Any.strconv_ParseUint_10_at64_range Tryd.laysPu14 s hlim h ev w hv hev
def Tryd.lays144_ren : Go.Shelf.Ren := ⟨fun | 144 => 101 | 143 => 120 | 219 => 134 | 217 => 142 | 225 => 143 | 224 => 144 | 267 => 145 | 266 => 148 | 314 => 149 | n => n, fun | 9 => 9 | 4 => 4 | 3 => 3 | 5 => 5 | 46 => 145 | 146 => 160 | 51 => 159 | n => n, fun | 1 => 5 | n => n⟩
theorem Tryd.lays144 : Go.Proofs.Lays.n144 Tryd.prog Tryd.lays144_ren := {
  mixed := by kernel_rfl
  f143 := Tryd.func120.trans (congrArg some (by kernel_rfl))
  f144 := Tryd.func101.trans (congrArg some (by kernel_rfl))
  f217 := Tryd.func142.trans (congrArg some (by kernel_rfl))
  f219 := Tryd.func134.trans (congrArg some (by kernel_rfl))
  f224 := Tryd.func144.trans (congrArg some (by kernel_rfl))
  f225 := Tryd.func143.trans (congrArg some (by kernel_rfl))
  f266 := Tryd.func148.trans (congrArg some (by kernel_rfl))
  f267 := Tryd.func145.trans (congrArg some (by kernel_rfl))
  f314 := Tryd.func149.trans (congrArg some (by kernel_rfl))
  t3 := Tryd.underlying3
  a3 := Tryd.isAgg3
  z3 := Tryd.sizeOf3
  v3 := Tryd.zeroValue3
  t4 := Tryd.underlying4
  a4 := Tryd.isAgg4
  z4 := Tryd.sizeOf4
  v4 := Tryd.zeroValue4
  t5 := Tryd.underlying5
  a5 := Tryd.isAgg5
  z5 := Tryd.sizeOf5
  v5 := Tryd.zeroValue5
  t9 := Tryd.underlying9
  a9 := Tryd.isAgg9
  z9 := Tryd.sizeOf9
  v9 := Tryd.zeroValue9
  t46 := Tryd.underlying145
  a46 := Tryd.isAgg145
  z46 := Tryd.sizeOf145
  v46 := Tryd.zeroValue145
  t51 := Tryd.underlying159
  a51 := Tryd.isAgg159
  z51 := Tryd.sizeOf159
  v51 := Tryd.zeroValue159
  t146 := Tryd.underlying160
  a146 := Tryd.isAgg160
  z146 := Tryd.sizeOf160
  v146 := Tryd.zeroValue160
  g1 := by kernel_rfl }
open Go.RowKit Go.Lib in
/-- strings.Contains: "Contains reports whether substr is within s.": IT RETURNS 'Lib.contains s substr'; the world is as it was. (LAID: no walk: one application.) -/
theorem Tryd.strings_Contains (s sub : ByteArray) (m : Int) (w : World) (hs : s.size < 4294967281) (hm : w.cell? ⟨5, 0, none⟩ = some (.int .i64 m)) :
    Calls Tryd.prog 101 #[.string s, .string sub] w fun e w' => e = .returned (.bool (Lib.contains s.data.toList sub.data.toList)) ∧ w' = w := Any.strings_Contains Tryd.lays144 s sub m w hs hm
end Go.Proofs
end

section
set_option linter.unusedSimpArgs false
set_option linter.unusedVariables false
set_option linter.unusedSectionVars false
/- Contracts of the library, laid at this program by the kit's shelf (its plain mode), those that are needed. -/
namespace Go.Proofs
open Go.Shelf
def Tryd.lays156_ren : Go.Shelf.Ren := ⟨fun | 156 => 141 | 165 => 107 | 166 => 82 | 169 => 86 | 240 => 104 | 241 => 125 | 276 => 121 | 277 => 135 | n => n, fun | 31 => 64 | 9 => 9 | 3 => 3 | 4 => 4 | 0 => 0 | 20 => 20 | 72 => 128 | 76 => 129 | 70 => 126 | 37 => 67 | 75 => 98 | 127 => 149 | 164 => 157 | 5 => 5 | 80 => 34 | n => n, fun | n => n⟩
theorem Tryd.lays156 : Go.Proofs.Lays.n156 Tryd.prog Tryd.lays156_ren := {
  mixed := by kernel_rfl
  f156 := Tryd.func141.trans (congrArg some (by kernel_rfl))
  f165 := Tryd.func107.trans (congrArg some (by kernel_rfl))
  f166 := Tryd.func82.trans (congrArg some (by kernel_rfl))
  f169 := Tryd.func86.trans (congrArg some (by kernel_rfl))
  f240 := Tryd.func104.trans (congrArg some (by kernel_rfl))
  f241 := Tryd.func125.trans (congrArg some (by kernel_rfl))
  f276 := Tryd.func121.trans (congrArg some (by kernel_rfl))
  f277 := Tryd.func135.trans (congrArg some (by kernel_rfl))
  t0 := Tryd.underlying0
  a0 := Tryd.isAgg0
  z0 := Tryd.sizeOf0
  v0 := Tryd.zeroValue0
  t3 := Tryd.underlying3
  a3 := Tryd.isAgg3
  z3 := Tryd.sizeOf3
  v3 := Tryd.zeroValue3
  t4 := Tryd.underlying4
  a4 := Tryd.isAgg4
  z4 := Tryd.sizeOf4
  v4 := Tryd.zeroValue4
  t9 := Tryd.underlying9
  a9 := Tryd.isAgg9
  z9 := Tryd.sizeOf9
  v9 := Tryd.zeroValue9
  t20 := Tryd.underlying20
  a20 := Tryd.isAgg20
  z20 := Tryd.sizeOf20
  v20 := Tryd.zeroValue20
  t31 := Tryd.underlying64
  a31 := Tryd.isAgg64
  z31 := Tryd.sizeOf64
  v31 := Tryd.zeroValue64
  t37 := Tryd.underlying67
  a37 := Tryd.isAgg67
  z37 := Tryd.sizeOf67
  v37 := Tryd.zeroValue67
  t70 := Tryd.underlying126
  a70 := Tryd.isAgg126
  z70 := Tryd.sizeOf126
  v70 := Tryd.zeroValue126
  t72 := Tryd.underlying128
  a72 := Tryd.isAgg128
  z72 := Tryd.sizeOf128
  v72 := Tryd.zeroValue128
  t75 := Tryd.underlying98
  a75 := Tryd.isAgg98
  z75 := Tryd.sizeOf98
  v75 := Tryd.zeroValue98
  t76 := Tryd.underlying129
  a76 := Tryd.isAgg129
  z76 := Tryd.sizeOf129
  v76 := Tryd.zeroValue129
  t127 := Tryd.underlying149
  a127 := Tryd.isAgg149
  z127 := Tryd.sizeOf149
  v127 := Tryd.zeroValue149
  t164 := Tryd.underlying157
  a164 := Tryd.isAgg157
  z164 := Tryd.sizeOf157
  v164 := Tryd.zeroValue157 }
theorem Tryd.Builder_Extra_156 : Builder.Extra Tryd.prog Tryd.lays156_ren := {
  sizeBuilder := by kernel_rfl
  liesBuilder := by kernel_rfl
  t5 := Tryd.underlying5
  a5 := Tryd.isAgg5
  z5 := Tryd.sizeOf5
  v5 := Tryd.zeroValue5
  infoByte := by kernel_rfl
  cellsByte := by kernel_rfl
  sizeByte := by kernel_rfl
  neB5 := by decide }
open Go.RowKit in
/-- No element: the empty string; the world is as it was. (Whatever the slice's address and capacity: a nil slice too.) (LAID: no walk: one application.) -/
theorem Tryd.strings_Join_none (a : Option Addr) (c : Nat) (sep : ByteArray) (w : World) :
    Calls Tryd.prog 141 #[.slice a 0 c, .string sep] w fun e w' => e = .returned (.string ⟨#[]⟩) ∧ w' = w := Any.strings_Join_none Tryd.lays156 Tryd.Builder_Extra_156 a c sep w
open Go.RowKit in
/-- strings.Join: "Join concatenates the elements of its first argument to create a single string. The separator string sep is placed between elements in the resulting string.": HOWEVER MANY ELEMENTS. Below the heap's end the world is as it was. (LAID: no walk: one application.) -/
theorem Tryd.strings_Join (bk o c : Nat) (xs : List ByteArray) (sep : ByteArray) (w : World) (hcells : ∀ (j : Nat) x, xs[j]? = some x → w.cell? ⟨bk, o + j, none⟩ = some (.string x)) (hbk : bk < w.heap.size) (hN : xs.length ≤ 140737488355328) (hcap : xs.length ≤ c) (hlen : (Lib.join (xs.map (·.data.toList)) sep.data.toList).length ≤ 140737488355328) :
    Calls Tryd.prog 141 #[.slice (some ⟨bk, o, none⟩) xs.length c, .string sep] w fun e w' => e = .returned (.string ⟨(Lib.join (xs.map (·.data.toList)) sep.data.toList).toArray⟩) ∧ Below w.heap.size w w' := Any.strings_Join Tryd.lays156 Tryd.Builder_Extra_156 bk o c xs sep w hcells hbk hN hcap hlen
def Tryd.lays105_ren : Go.Shelf.Ren := ⟨fun | 105 => 83 | 212 => 105 | 99 => 106 | 165 => 107 | 166 => 82 | 170 => 108 | 169 => 86 | 263 => 122 | 264 => 123 | 206 => 124 | 240 => 104 | 241 => 125 | 276 => 121 | 277 => 135 | n => n, fun | 9 => 9 | 3 => 3 | 4 => 4 | 20 => 20 | 0 => 0 | 46 => 145 | 109 => 146 | 5 => 5 | 72 => 128 | 76 => 129 | 51 => 159 | 146 => 160 | 53 => 30 | 148 => 162 | 70 => 126 | 37 => 67 | 75 => 98 | 127 => 149 | 164 => 157 | 80 => 34 | n => n, fun | n => n⟩
theorem Tryd.lays105 : Go.Proofs.Lays.n105 Tryd.prog Tryd.lays105_ren := {
  mixed := by kernel_rfl
  f99 := Tryd.func106.trans (congrArg some (by kernel_rfl))
  f105 := Tryd.func83.trans (congrArg some (by kernel_rfl))
  f165 := Tryd.func107.trans (congrArg some (by kernel_rfl))
  f166 := Tryd.func82.trans (congrArg some (by kernel_rfl))
  f169 := Tryd.func86.trans (congrArg some (by kernel_rfl))
  f170 := Tryd.func108.trans (congrArg some (by kernel_rfl))
  f206 := Tryd.func124.trans (congrArg some (by kernel_rfl))
  f212 := Tryd.func105.trans (congrArg some (by kernel_rfl))
  f240 := Tryd.func104.trans (congrArg some (by kernel_rfl))
  f241 := Tryd.func125.trans (congrArg some (by kernel_rfl))
  f263 := Tryd.func122.trans (congrArg some (by kernel_rfl))
  f264 := Tryd.func123.trans (congrArg some (by kernel_rfl))
  f276 := Tryd.func121.trans (congrArg some (by kernel_rfl))
  f277 := Tryd.func135.trans (congrArg some (by kernel_rfl))
  t0 := Tryd.underlying0
  a0 := Tryd.isAgg0
  z0 := Tryd.sizeOf0
  v0 := Tryd.zeroValue0
  t3 := Tryd.underlying3
  a3 := Tryd.isAgg3
  z3 := Tryd.sizeOf3
  v3 := Tryd.zeroValue3
  t4 := Tryd.underlying4
  a4 := Tryd.isAgg4
  z4 := Tryd.sizeOf4
  v4 := Tryd.zeroValue4
  t5 := Tryd.underlying5
  a5 := Tryd.isAgg5
  z5 := Tryd.sizeOf5
  v5 := Tryd.zeroValue5
  t9 := Tryd.underlying9
  a9 := Tryd.isAgg9
  z9 := Tryd.sizeOf9
  v9 := Tryd.zeroValue9
  t20 := Tryd.underlying20
  a20 := Tryd.isAgg20
  z20 := Tryd.sizeOf20
  v20 := Tryd.zeroValue20
  t37 := Tryd.underlying67
  a37 := Tryd.isAgg67
  z37 := Tryd.sizeOf67
  v37 := Tryd.zeroValue67
  t46 := Tryd.underlying145
  a46 := Tryd.isAgg145
  z46 := Tryd.sizeOf145
  v46 := Tryd.zeroValue145
  t51 := Tryd.underlying159
  a51 := Tryd.isAgg159
  z51 := Tryd.sizeOf159
  v51 := Tryd.zeroValue159
  t53 := Tryd.underlying30
  a53 := Tryd.isAgg30
  z53 := Tryd.sizeOf30
  v53 := Tryd.zeroValue30
  t70 := Tryd.underlying126
  a70 := Tryd.isAgg126
  z70 := Tryd.sizeOf126
  v70 := Tryd.zeroValue126
  t72 := Tryd.underlying128
  a72 := Tryd.isAgg128
  z72 := Tryd.sizeOf128
  v72 := Tryd.zeroValue128
  t75 := Tryd.underlying98
  a75 := Tryd.isAgg98
  z75 := Tryd.sizeOf98
  v75 := Tryd.zeroValue98
  t76 := Tryd.underlying129
  a76 := Tryd.isAgg129
  z76 := Tryd.sizeOf129
  v76 := Tryd.zeroValue129
  t109 := Tryd.underlying146
  a109 := Tryd.isAgg146
  z109 := Tryd.sizeOf146
  v109 := Tryd.zeroValue146
  t127 := Tryd.underlying149
  a127 := Tryd.isAgg149
  z127 := Tryd.sizeOf149
  v127 := Tryd.zeroValue149
  t146 := Tryd.underlying160
  a146 := Tryd.isAgg160
  z146 := Tryd.sizeOf160
  v146 := Tryd.zeroValue160
  t148 := Tryd.underlying162
  a148 := Tryd.isAgg162
  z148 := Tryd.sizeOf162
  v148 := Tryd.zeroValue162
  t164 := Tryd.underlying157
  a164 := Tryd.isAgg157
  z164 := Tryd.sizeOf157
  v164 := Tryd.zeroValue157 }
theorem Tryd.Builder_Extra_105 : Builder.Extra Tryd.prog Tryd.lays105_ren := {
  sizeBuilder := by kernel_rfl
  liesBuilder := by kernel_rfl
  t5 := Tryd.underlying5
  a5 := Tryd.isAgg5
  z5 := Tryd.sizeOf5
  v5 := Tryd.zeroValue5
  infoByte := by kernel_rfl
  cellsByte := by kernel_rfl
  sizeByte := by kernel_rfl
  neB5 := by decide }
open Go.RowKit Go.Lib in
/-- **strings.Repeat: count ≥ 0, the result within one allocation: count copies of s.** (LAID: no walk: one application.) -/
theorem Tryd.strings_Repeat (s : ByteArray) (c : Nat) (w : World) (hc : c ≤ 9223372036854775807) (hlen : s.size * c ≤ 140737488355328) :
    Calls Tryd.prog 83 #[.string s, .int .i64 c] w fun e w' => e = .returned (.string ⟨(Lib.repeatL s.data.toList c).toArray⟩) ∧ Below w.heap.size w w' := Any.strings_Repeat Tryd.lays105 Tryd.Builder_Extra_105 s c w hc hlen
end Go.Proofs
end

section
set_option linter.unusedSimpArgs false
set_option linter.unusedVariables false
set_option linter.unusedSectionVars false
/- Functions of the library: copyCheck. -/
set_option linter.unusedVariables false
namespace Go.Proofs
open Go.RowKit

set_option maxHeartbeats 1000000 in
set_option maxRecDepth 100000 in
theorem Tryd.copyCheck_used (b : Nat) (w : World) (h0 : w.cell? ⟨b, 0, none⟩ = some (.pointer (some ⟨b, 0, none⟩))) :
    Calls Tryd.prog 104 #[.pointer (some ⟨b, 0, none⟩)] w fun e w' => e = .returned (.tuple #[]) ∧ w' = w := by
  obtain ⟨j, hj, _⟩ := Option.map_eq_some_iff.1 (show (Tryd.prog.info? 128).map (·.size) = some 2 by kernel_rfl)
  have mixed : Tryd.prog.follows .mixedOrders = true := by kernel_rfl
  have u128 := run_underlying Tryd.underlying128
  have u126 := run_underlying Tryd.underlying126
  have u4 := run_underlying Tryd.underlying4
  have u157 := run_underlying Tryd.underlying157
  go_enter Tryd.func104, Tryd.ntmps104
  go_wp2
  rw [Lib.run_neq_ptr_same w _ Tryd.underlying126 hj]
  go_wp2
  go_end0
  exact ⟨rfl, rfl⟩

set_option maxHeartbeats 1000000 in
set_option maxRecDepth 100000 in
theorem Tryd.copyCheck_fresh (b : Nat) (w : World) (h0 : w.cell? ⟨b, 0, none⟩ = some (.pointer none)) (hsh : w.shape? b = some (128, 2)) (hfz : w.frozen? ⟨b, 0, none⟩ = false) :
    Calls Tryd.prog 104 #[.pointer (some ⟨b, 0, none⟩)] w fun e w' => e = .returned (.tuple #[]) ∧ w' = w.setCell ⟨b, 0, none⟩ (.pointer (some ⟨b, 0, none⟩)) := by
  obtain ⟨j, hj, hjs⟩ := Option.map_eq_some_iff.1 (show (Tryd.prog.info? 128).map (·.size) = some 2 by kernel_rfl)
  have mixed : Tryd.prog.follows .mixedOrders = true := by kernel_rfl
  have u128 := run_underlying Tryd.underlying128
  have u126 := run_underlying Tryd.underlying126
  have u4 := run_underlying Tryd.underlying4
  have u157 := run_underlying Tryd.underlying157
  go_enter Tryd.func104, Tryd.ntmps104
  go_wp2
  rw [Lib.run_to_unsafe w ⟨b, 0, none⟩ Tryd.underlying126 Tryd.underlying157 hj (by rw [hjs]; decide) hsh (Nat.zero_lt_succ 1)]
  simp only [Result.andThen]
  rw [Oper.upon_value]
  go_wp2
  rw [run_callFunc_extern Tryd.func121 (by kernel_rfl) (by kernel_rfl) (by kernel_rfl) (e := Extern.AbiNoEscape.same) (by kernel_rfl)]
  rw [Lib.run_noEscape]
  simp only [Result.andThen]
  rw [Oper.upon_value]
  go_wp2
  rw [Lib.run_from_unsafe w ⟨b, 0, none⟩ Tryd.underlying157 Tryd.underlying126 hj hsh (by kernel_rfl)]
  simp only [Result.andThen]
  rw [Oper.upon_value]
  go_wp2
  go_end0
  exact ⟨rfl, rfl⟩
end Go.Proofs
end

section
set_option linter.unusedSimpArgs false
set_option linter.unusedVariables false
set_option linter.unusedSectionVars false
/- Functions of the library: Builder.String. -/
set_option linter.unusedVariables false
namespace Go.Proofs
open Go.RowKit

theorem liesAt_bytes_off {P : Program} {e : TypeId} (hc : P.cellsOf e = 1) (count off n : Nat) (hn : off + n ≤ count) : liesAt P P.depth e count off e n = true := by
  have hd : P.depth = (2 * (P.types.size + Made.depth) + 1) + 1 := rfl
  rw [hd]
  simp only [liesAt, Bool.or_eq_true]
  left
  rw [hd]
  simp [rowAt, hc, hn, sameLayout, Nat.mod_one]

theorem run_unsafeString_off {P : Program} (w : World) (pt it ty e : TypeId) (hp : P.underlying pt = some (.pointer e)) (hc : P.cellsOf e = 1) (g o cells : Nat) (hsh : w.shape? g = some (e, cells)) (l : List UInt8) (h0 : l ≠ []) (hn : o + l.length ≤ cells) (h63 : l.length ≤ 9223372036854775807)
    (hcell : ∀ j x, l[j]? = some x → w.cell? ((⟨g, o, none⟩ : Addr).add j) = some (.int .u8 x.toNat)) :
    (Builtin.unsafeString_ #[pt, it] ty #[.pointer (some ⟨g, o, none⟩), .int .i64 l.length]).run P w = .ok (.string ⟨l.toArray⟩) (w.freeze ⟨g, o, none⟩ l.length) := by
  have hl : l.length ≠ 0 := by simpa using h0
  have hlb := Lib.run_loadBytes (P := P) w l ⟨g, o, none⟩ .empty hcell
  have hlies := liesAt_bytes_off (P := P) hc (cells / P.cellsOf e) o l.length (by rw [hc]; simpa using hn)
  have h63' : ¬ (9223372036854775807 : Int) < (l.length : Int) := by omega
  have hdef : Builtin.unsafeString_ #[pt, it] ty #[.pointer (some ⟨g, o, none⟩), .int .i64 l.length] =
      (do
        let n ← asInt (.int .i64 l.length)
        if n < 0 then runtimePanic (.error "unsafe.String: len out of range")
        if n > IntKind.i64.max then unsupported (.unsafePointer "String: a length above the largest int")
        if n = 0 then pure (.string .empty)
        else if ← variablesAt ⟨g, o, none⟩ (← elemOf pt) n.toNat then do
          let s ← loadBytes ⟨g, o, none⟩ .empty n.toNat
          freeze ⟨g, o, none⟩ n.toNat
          pure (.string s)
        else unsupported (.unsafePointer "String: not so many bytes at ptr")) := rfl
  rw [hdef]
  have hmax : IntKind.i64.max = 9223372036854775807 := rfl
  have hneg : ¬ (l.length : Int) < 0 := by omega
  simp [asInt, asIntOf, hmax, h63', hneg, hl, variablesAt, hsh, elemOf, run_underlying hp, hlies, hlb]

set_option maxHeartbeats 2000000 in
set_option maxRecDepth 100000 in
theorem Tryd.builder_String (g o b cap cells : Nat) (l : List UInt8) (w : World) (h0 : l ≠ []) (c1 : w.cell? ⟨b, 1, none⟩ = some (.slice (some ⟨g, o, none⟩) l.length cap)) (hsh : w.shape? g = some (5, cells)) (hn : o + l.length ≤ cells) (hnc : l.length ≤ cap) (h63 : l.length ≤ 9223372036854775807)
    (hcell : ∀ j x, l[j]? = some x → w.cell? ((⟨g, o, none⟩ : Addr).add j) = some (.int .u8 x.toNat)) :
    Calls Tryd.prog 86 #[.pointer (some ⟨b, 0, none⟩)] w fun e w' => e = .returned (.string ⟨l.toArray⟩) ∧ w' = w.drew.freeze ⟨g, o, none⟩ l.length := by
  have hl0 : l.length ≠ 0 := by simpa using h0
  have c1' : w.drew.cell? ⟨b, 1, none⟩ = some (.slice (some ⟨g, o, none⟩) l.length cap) := c1
  have hUS : (Builtin.unsafeString_ #[149, 3] 9 #[.pointer (some ⟨g, o, none⟩), .int .i64 l.length]).run Tryd.prog w.drew = .ok (.string ⟨l.toArray⟩) (w.drew.freeze ⟨g, o, none⟩ l.length) :=
    run_unsafeString_off w.drew 149 3 9 5 Tryd.underlying149 (by kernel_rfl) g o cells hsh l h0 hn h63 hcell
  have hSD : (Builtin.unsafeSliceData_ #[67] 149 #[.slice (some ⟨g, o, none⟩) l.length cap]).run Tryd.prog w.drew = .ok (.pointer (some ⟨g, o, none⟩)) w.drew :=
    Lib.run_unsafeSliceData_row _ _ _ _ _ _ (by omega)
  have mixed : Tryd.prog.follows .mixedOrders = true := by kernel_rfl
  go_enter Tryd.func86, Tryd.ntmps86
  go_wp2
  go_region_o
  all_goals (go_wp2; go_ret; exact ⟨rfl, rfl⟩)
end Go.Proofs
end

section
set_option linter.unusedSimpArgs false
set_option linter.unusedVariables false
set_option linter.unusedSectionVars false
/- Functions of the library, as the machine's answers: copyCheck, Builder.String, Join, Repeat. -/
set_option linter.unusedVariables false
namespace Go.Pm
open Go.Proofs
open Go.RowKit (Below)

def copySpec : Spec := fun args σ => match args with
  | [.bp id off] => match storeOf σ id with
    | some ([.nilp, c1], some T) => if T = 128 ∧ off = 0 then some (.ret (.tup []), σ.set id (.cells [.bp id 0, c1] (some T))) else none
    | some ([.bp id' off', c1], some T) => if id' = id ∧ off' = 0 ∧ T = 128 ∧ off = 0 then some (.ret (.tup []), σ) else none
    | _ => none
  | _ => none

theorem storeOf_some {σ : Store} {id : Nat} {c : List AV} {e : Option TypeId} (h : storeOf σ id = some (c, e)) : σ[id]? = some (.cells c e) := by
  unfold storeOf at h
  split at h
  · cases h; assumption
  · cases h

theorem copy_sound {G : Globals} : CallS Tryd.prog G (atF 104 copySpec) := by
  intro f args σ r σ' h
  unfold atF at h
  split at h
  case isFalse => cases h
  rename_i e
  subst e
  unfold copySpec at h
  split at h
  case h_2 => cases h
  rename_i id off
  refine ⟨⟨Tryd.f104, Tryd.func104, by kernel_rfl, by kernel_rfl⟩, ?_⟩
  intro B C w vs sr gr ha
  obtain ⟨v, us, rfl, h1, h2⟩ := ha.cons_inv
  obtain rfl := h2.nil_inv
  cases h1
  rename_i b hb
  split at h
  · rename_i c1 T hst
    split at h
    case isFalse => cases h
    rename_i hT
    obtain ⟨rfl, rfl⟩ := hT
    cases h
    have hg := storeOf_some hst
    obtain ⟨b', c, fr, e0, k1, k2, k3, k4, k5, k6, k7⟩ := sr.cells id _ _ hg
    obtain rfl := Option.some.inj (hb.symm.trans k1)
    obtain ⟨rfl, hsz⟩ := k7 128 rfl
    have hsz2 : c.size = 2 := by simpa using hsz
    obtain ⟨v0, vr, e1, e2, e3⟩ := k4.cons_inv
    cases e2
    have hc0 : c[0]? = some (.pointer none) := by
      have : (c.toList.take 2)[0]? = some (Value.pointer none) := by
        simp only [List.length_cons, List.length_nil, Nat.zero_add, Nat.reduceAdd] at e1
        rw [e1]; rfl
      rw [List.getElem?_take] at this
      simpa using this
    have c0 : w.cell? ⟨b, 0, none⟩ = some (.pointer none) := by rw [cell_of_row k2]; exact hc0
    refine (Tryd.copyCheck_fresh b w c0 (by simp [World.shape?, k2, hsz2]) ?_).mono fun e w' ⟨he, hw⟩ => ?_
    · have := k6 0 (by simp)
      simp only [World.frozen?, k2]
      simpa using this
    · subst he; subst hw
      have hW := setCell_row (o := 0) (v := .pointer (some ⟨b, 0, none⟩)) k2
      have hbp : VR C (.bp id 0) (.pointer (some ⟨b, 0, none⟩)) := .bp hb
      refine ⟨C, .refl _ _, ?_, (Below.refl B w).setCell (p := ⟨b, 0, none⟩) (sr.low id b (by simp [own, hg, hb])) _, _, rfl, .tup rfl (by simp)⟩
      have := sr.write (off := 0) (asl := [.bp id 0]) (vs := [.pointer (some ⟨b, 0, none⟩)]) hg hb k2 (.cons hbp (.nil _)) (by simp) hW (fun k => by
        rw [Array.getElem?_setIfInBounds]
        cases k with
        | zero => simp [hsz2]
        | succ k => simp)
      simpa [putAt] using this
  · rename_i id' off' c1 T hst
    split at h
    case isFalse => cases h
    rename_i hT
    obtain ⟨rfl, rfl, rfl, rfl⟩ := hT
    cases h
    have hg := storeOf_some hst
    obtain ⟨b', c, fr, e0, k1, k2, k3, k4, k5, k6, k7⟩ := sr.cells _ _ _ hg
    obtain rfl := Option.some.inj (hb.symm.trans k1)
    obtain ⟨rfl, hsz⟩ := k7 128 rfl
    have hsz2 : c.size = 2 := by simpa using hsz
    obtain ⟨v0, vr, e1, e2, e3⟩ := k4.cons_inv
    cases e2
    rename_i b2 hb2
    obtain rfl := Option.some.inj (hb.symm.trans hb2)
    have hc0 : c[0]? = some (.pointer (some ⟨b, 0, none⟩)) := by
      have : (c.toList.take 2)[0]? = some (Value.pointer (some ⟨b, 0, none⟩)) := by
        simp only [List.length_cons, List.length_nil, Nat.zero_add, Nat.reduceAdd] at e1
        rw [e1]; rfl
      rw [List.getElem?_take] at this
      simpa using this
    have c0 : w.cell? ⟨b, 0, none⟩ = some (.pointer (some ⟨b, 0, none⟩)) := by rw [cell_of_row k2]; exact hc0
    refine (Tryd.copyCheck_used b w c0).mono fun e w' ⟨he, hw⟩ => ?_
    subst he; subst hw
    exact ⟨C, .refl _ _, sr, .refl _ _, _, rfl, .tup rfl (by simp)⟩
  · cases h

theorem repB_eq (s : List UInt8) : ∀ n, repB s n = Lib.repeatL s n
  | 0 => rfl
  | n + 1 => by simp [repB, Lib.repeatL, repB_eq s n]

def repSpec : Spec := fun args σ => match args with
  | [.str s, .int .i64 n] => if 0 ≤ n ∧ n ≤ 1000 ∧ s.length ≤ 1000 then some (.ret (.str (repB s n.toNat)), σ) else none
  | _ => none

theorem rep_sound {G : Globals} : CallS Tryd.prog G (atF 83 repSpec) := by
  intro f args σ r σ' h
  unfold atF at h
  split at h
  case isFalse => cases h
  rename_i e
  subst e
  unfold repSpec at h
  split at h
  case h_2 => cases h
  rename_i s n
  split at h
  case isFalse => cases h
  rename_i hn
  cases h
  refine ⟨⟨Tryd.f83, Tryd.func83, by kernel_rfl, by kernel_rfl⟩, ?_⟩
  intro B C w vs sr gr ha
  obtain ⟨v, us, rfl, h1, h2⟩ := ha.cons_inv
  obtain ⟨u, us', rfl, h3, h4⟩ := h2.cons_inv
  obtain rfl := h4.nil_inv
  cases h1
  cases h3
  obtain ⟨m, rfl⟩ : ∃ m : Nat, n = m := ⟨n.toNat, by omega⟩
  have hsz : (⟨s.toArray⟩ : ByteArray).size = s.length := by simp [ByteArray.size]
  have hlim : (⟨s.toArray⟩ : ByteArray).size * m ≤ 140737488355328 := by
    rw [hsz]
    have : s.length * m ≤ 1000 * 1000 := Nat.mul_le_mul hn.2.2 (by omega)
    omega
  refine (Tryd.strings_Repeat ⟨s.toArray⟩ m w (by omega) hlim).mono fun e w' ⟨he, hb⟩ => ?_
  subst he
  refine ⟨C, .refl _ _, sr.of_below hb, hb.mono sr.hB, _, rfl, ?_⟩
  rw [repB_eq, Int.toNat_natCast]
  exact .str

theorem joinB_eq (sep : List UInt8) : ∀ l, joinB sep l = Lib.join l sep
  | [] => rfl
  | [x] => by simp [joinB, Lib.join_one]
  | x :: y :: r => by
    have ih := joinB_eq sep (y :: r)
    rw [joinB, ih]
    simp [Lib.join, List.intercalate, List.intersperse]
    intro h; cases h

theorem strsOf_get : ∀ {row : List AV} {l : List (List UInt8)}, strsOf row = some l → row = l.map .str
  | [], l, h => by cases h; rfl
  | .str s :: r, l, h => by
    simp only [strsOf] at h
    split at h
    · rename_i l' hl
      cases h
      rw [strsOf_get hl]; rfl
    · cases h
  | .bool _ :: _, l, h | .int .. :: _, l, h | .flt .. :: _, l, h | .cplx .. :: _, l, h | .nilp :: _, l, h | .ip .. :: _, l, h | .bp .. :: _, l, h | .sl .. :: _, l, h | .bs .. :: _, l, h | .nilm :: _, l, h | .map _ :: _, l, h | .fn .. :: _, l, h
  | .nilf :: _, l, h | .iface .. :: _, l, h | .nili :: _, l, h | .agg _ :: _, l, h | .tup _ :: _, l, h => by simp [strsOf] at h

def joinSpec : Spec := fun args σ => match args with
  | [.sl sz row cap, .str sep] => match strsOf row with
    | some l => if sz = 1 ∧ l.length ≤ 1000 ∧ (joinB sep l).length ≤ 1000000 then some (.ret (.str (joinB sep l)), σ) else none
    | none => none
  | _ => none

theorem flat_strs : ∀ l : List (List UInt8), flat (l.map AV.str) = l.map AV.str
  | [] => rfl
  | x :: r => by rw [List.map_cons, flat_cons, flat_strs r]; rfl

theorem join_sound {G : Globals} : CallS Tryd.prog G (atF 141 joinSpec) := by
  intro f args σ r σ' h
  unfold atF at h
  split at h
  case isFalse => cases h
  rename_i e
  subst e
  unfold joinSpec at h
  split at h
  case h_2 => cases h
  rename_i sz row cap sep
  split at h
  case h_2 => cases h
  rename_i l hl
  split at h
  case isFalse => cases h
  rename_i hn
  cases h
  obtain rfl := strsOf_get hl
  obtain ⟨rfl, hn1, hn2⟩ := hn
  refine ⟨⟨Tryd.f141, Tryd.func141, by kernel_rfl, by kernel_rfl⟩, ?_⟩
  intro B C w vs sr gr ha
  obtain ⟨v, us, rfl, h1, h2⟩ := ha.cons_inv
  obtain ⟨u, us', rfl, h3, h4⟩ := h2.cons_inv
  obtain rfl := h4.nil_inv
  cases h3
  have none_ : ∀ (base : Option Addr) (c : Nat), l = [] → Calls Tryd.prog 141 #[.slice base 0 c, .string ⟨sep.toArray⟩] w fun e w' => ∃ C', Ctx.le B C C' ∧ SR B C' σ w' ∧ Below B w w' ∧ OutR C' (.ret (.str (joinB sep l))) e := fun base c hl0 =>
    (Tryd.strings_Join_none base c ⟨sep.toArray⟩ w).mono fun e w' ⟨he, hw⟩ => by
      subst he; subst hw; subst hl0
      exact ⟨C, .refl _ _, sr, .refl _ _, _, rfl, .str⟩
  have hflat := flat_strs l
  have hrow : (l.map AV.str).length = l.length := by simp
  have hget : ∀ (j : Nat) (s : List UInt8), l[j]? = some s → (l.map AV.str)[j]? = some (.str s) := fun j s h => by simp [h]
  have hnil : l.map AV.str = [] → l = [] := by simp
  generalize hR : l.map AV.str = R at *
  cases h1 with
  | sl0 => exact none_ _ _ (hnil rfl)
  | sl hsz hll him hv hc =>
    rename_i b o c vs
    by_cases hl0 : l = []
    · have hR0 : R.length = 0 := by rw [hrow, hl0]; rfl
      rw [hR0]
      exact none_ _ _ hl0
    · rw [hflat] at hll hv
      have hcell : ∀ (j : Nat) x, (l.map fun s : List UInt8 => (⟨s.toArray⟩ : ByteArray))[j]? = some x → w.cell? ⟨b, o + j, none⟩ = some (.string x) := by
        intro j x hx
        rw [List.getElem?_map, Option.map_eq_some_iff] at hx
        obtain ⟨s, hs, rfl⟩ := hx
        have hj : j < vs.length := by rw [← hll, hrow]; exact (List.getElem?_eq_some_iff.1 hs).1
        obtain ⟨v, hvj⟩ : ∃ v, vs[j]? = some v := ⟨_, List.getElem?_eq_getElem hj⟩
        have hr := hv j (.str s) v (hget j s hs) hvj
        cases hr
        exact sr.cell (him j _ hvj)
      have hb0 : b < w.heap.size := by
        have hj : 0 < vs.length := by rw [← hll, hrow]; exact List.length_pos_iff.2 hl0
        exact im_lt sr (him 0 _ (List.getElem?_eq_getElem hj))
      have hmap : (l.map fun s : List UInt8 => (⟨s.toArray⟩ : ByteArray)).map (·.data.toList) = l := by
        rw [List.map_map]; conv => rhs; rw [← List.map_id l]
        rfl
      have hlen : (l.map fun s : List UInt8 => (⟨s.toArray⟩ : ByteArray)).length = R.length := by rw [hrow]; simp
      have hcap : R.length ≤ c := hc.le
      have := Tryd.strings_Join b o c (l.map fun s : List UInt8 => (⟨s.toArray⟩ : ByteArray)) ⟨sep.toArray⟩ w hcell hb0 (by rw [hlen, hrow]; omega) (by rw [hlen]; exact hcap) (by rw [hmap, ← joinB_eq]; show (joinB sep l).length ≤ _; omega)
      rw [hlen, hmap, ← joinB_eq] at this
      refine this.mono fun e w' ⟨he, hb⟩ => ?_
      subst he
      exact ⟨C, .refl _ _, sr.of_below hb, hb.mono sr.hB, _, rfl, .str⟩

/-- What is told of a buffer is frozen, as far as it is filled. -/
theorem SR.freeze {B : Nat} {C : Ctx} {σ : Store} {w : World} (sr : SR B C σ w) {k g s e o n : Nat} {t : TypeId} (hk : σ[k]? = some (.tok t)) (htk : C.tk k = some (g, s, e)) (ho : o + n ≤ s) (hn : n ≠ 0) : SR B C σ (w.freeze ⟨g, o, none⟩ n) := by
  obtain ⟨b', s', e', c0, fr0, q1, q2, q3, q4, q5⟩ := sr.tok k t hk
  obtain ⟨rfl, rfl, rfl⟩ : b' = g ∧ s' = s ∧ e' = e := by
    have := q1.symm.trans htk
    simpa using this
  have hown : own C σ k = some b' := by simp [own, hk, htk]
  have hW : ∀ i, (w.freeze ⟨b', o, none⟩ n).heap[i]? = if i = b' then some (.cells c0 t (if fr0.1 == fr0.2 then (o, o + n) else (min fr0.1 o, max fr0.2 (o + n)))) else w.heap[i]? := by
    intro i
    unfold World.freeze
    rw [if_neg hn]
    simp only [Array.getElem?_modify]
    by_cases hi : b' = i
    · subst hi
      simp [q2]
    · rw [if_neg hi, if_neg (fun h => hi h.symm)]
  have hsz : (w.freeze ⟨b', o, none⟩ n).heap.size = w.heap.size := by
    unfold World.freeze; rw [if_neg hn]; simp
  refine ⟨by rw [hsz]; exact sr.hB, ?_, sr.fresh, ?_, sr.map, ?_, sr.uniq, sr.low⟩
  · intro b o' v hi
    obtain ⟨c, e, fr, k1, k2⟩ := sr.im b o' v hi
    rw [hW]
    by_cases hb : b = b'
    · subst hb
      rw [q2] at k1; cases k1
      exact ⟨c0, t, _, if_pos rfl, k2⟩
    · exact ⟨c, e, fr, by rw [if_neg hb]; exact k1, k2⟩
  · intro id cs el hid
    obtain ⟨b, c, fr, e0, k1, k2, k3⟩ := sr.cells id cs el hid
    have hb : b ≠ b' := by
      rintro rfl
      have := sr.uniq id k _ (by simp [own, hid, k1]) hown
      subst this
      rw [hid] at hk; cases hk
    exact ⟨b, c, fr, e0, k1, by rw [hW, if_neg hb]; exact k2, k3⟩
  · intro id t' hid
    obtain ⟨b, s2, e2, c, fr, k1, k2, k3, k4, k5⟩ := sr.tok id t' hid
    by_cases hb : b = b'
    · subst hb
      have := sr.uniq id k _ (by simp [own, hid, k1]) hown
      subst this
      obtain ⟨rfl, rfl⟩ : s2 = s' ∧ e2 = e' := by
        have := k1.symm.trans q1
        simpa using this
      rw [hk] at hid; cases hid
      refine ⟨b, s2, e2, c0, _, k1, by rw [hW, if_pos rfl], q3, k4, ?_⟩
      by_cases hf : fr0.1 = fr0.2
      · simp [hf, ho]
      · have h2 : fr0.2 ≤ s2 := q5.resolve_left hf
        right
        have : (fr0.1 == fr0.2) = false := by simpa using hf
        simp only [this, Bool.false_eq_true, if_false]
        exact Nat.max_le.2 ⟨h2, ho⟩
    · exact ⟨b, s2, e2, c, fr, k1, by rw [hW, if_neg hb]; exact k2, k3, k4, k5⟩

def bytesR : List AV → Option (List UInt8)
  | [] => some []
  | .int .u8 n :: r => match bytesR r with
    | some s => if 0 ≤ n ∧ n < 256 then some (UInt8.ofNat n.toNat :: s) else none
    | none => none
  | _ => none

theorem bytesR_get : ∀ {row : List AV} {l : List UInt8}, bytesR row = some l → row = l.map fun b => .int .u8 b.toNat
  | [], l, h => by cases h; rfl
  | .int k n :: r, l, h => by
    cases k <;> simp only [bytesR, reduceCtorEq] at h
    split at h
    · rename_i s hs
      split at h
      · rename_i hn
        cases h
        rw [bytesR_get hs, List.map_cons]
        congr 2
        rw [UInt8.toNat_ofNat', Nat.mod_eq_of_lt (by omega)]
        omega
      · cases h
    · cases h
  | .bool _ :: _, l, h | .str _ :: _, l, h | .flt .. :: _, l, h | .cplx .. :: _, l, h | .nilp :: _, l, h | .ip .. :: _, l, h | .bp .. :: _, l, h | .sl .. :: _, l, h | .bs .. :: _, l, h | .nilm :: _, l, h | .map _ :: _, l, h | .fn .. :: _, l, h
  | .nilf :: _, l, h | .iface .. :: _, l, h | .nili :: _, l, h | .agg _ :: _, l, h | .tup _ :: _, l, h => by simp [bytesR] at h

def strSpec : Spec := fun args σ => match args with
  | [.bp id off] => match storeOf σ id with
    | some ([_, .sl sz row (.tok k)], some T) => match σ[k]?, bytesR row with
      | some (.tok e), some l => if off = 0 ∧ sz = 1 ∧ T = 128 ∧ e = 5 ∧ l ≠ [] ∧ l.length ≤ 1000000 then some (.ret (.str l), σ) else none
      | _, _ => none
    | _ => none
  | _ => none

theorem flat_bytes : ∀ l : List UInt8, flat (l.map fun b => AV.int .u8 b.toNat) = l.map fun b => AV.int .u8 b.toNat
  | [] => rfl
  | x :: r => by rw [List.map_cons, flat_cons, flat_bytes r]; rfl

theorem str_sound {G : Globals} : CallS Tryd.prog G (atF 86 strSpec) := by
  intro f args σ r σ' h
  unfold atF at h
  split at h
  case isFalse => cases h
  rename_i e
  subst e
  unfold strSpec at h
  split at h
  case h_2 => cases h
  rename_i id off
  split at h
  case h_2 => cases h
  rename_i c1 sz row k T hst
  split at h
  case h_2 => cases h
  rename_i e l hk hl
  split at h
  case isFalse => cases h
  rename_i hc
  obtain ⟨rfl, rfl, rfl, rfl, hl0, hl1⟩ := hc
  cases h
  obtain rfl := bytesR_get hl
  refine ⟨⟨Tryd.f86, Tryd.func86, by kernel_rfl, by kernel_rfl⟩, ?_⟩
  intro B C w vs sr gr ha
  obtain ⟨v, us, rfl, h1, h2⟩ := ha.cons_inv
  obtain rfl := h2.nil_inv
  cases h1
  rename_i b hb
  have hg := storeOf_some hst
  obtain ⟨b', c, fr, e0, k1, k2, k3, k4, k5, k6, k7⟩ := sr.cells id _ _ hg
  obtain rfl := Option.some.inj (hb.symm.trans k1)
  obtain ⟨rfl, hsz⟩ := k7 128 rfl
  have hsz2 : c.size = 2 := by simpa using hsz
  obtain ⟨v0, vr, e1, e2, e3⟩ := k4.cons_inv
  obtain ⟨v1, vr', e4, e5, e6⟩ := e3.cons_inv
  have hc1 : c[1]? = some v1 := by
    have : (c.toList.take 2)[1]? = some v1 := by
      simp only [List.length_cons, List.length_nil, Nat.zero_add, Nat.reduceAdd] at e1
      rw [e1, e4]; rfl
    rw [List.getElem?_take] at this
    simpa using this
  have cell1 : w.cell? ⟨b, 1, none⟩ = some v1 := by rw [cell_of_row k2]; exact hc1
  have hflat := flat_bytes l
  have hlen : (l.map fun b => AV.int .u8 (b.toNat : Int)).length = l.length := by simp
  have hget : ∀ (j : Nat) (x : UInt8), l[j]? = some x → (l.map fun b => AV.int .u8 (b.toNat : Int))[j]? = some (.int .u8 x.toNat) := fun j s h => by simp [h]
  have hnil : (l.map fun b => AV.int .u8 (b.toNat : Int)) = [] → l = [] := by simp
  clear e1 e3 k4 hst hg
  generalize hR : (l.map fun b => AV.int .u8 (b.toNat : Int)) = R at *
  cases e5 with
  | sl0 => exact absurd (hnil rfl) hl0
  | sl hs2 hll him hv hcap =>
    rename_i g o cp vs
    rw [hflat] at hll hv
    obtain ⟨hcl, htk⟩ := hcap
    obtain ⟨b2, s2, e2', c2, fr2, q1, q2, q3, q4, q5⟩ := sr.tok k 5 hk
    rw [hlen] at htk hcl cell1
    obtain ⟨rfl, rfl, rfl⟩ : b2 = g ∧ s2 = o + l.length * 1 ∧ e2' = o + l.length * 1 + (cp - l.length) * 1 := by
      have := q1.symm.trans htk
      simpa using this
    have hcell : ∀ (j : Nat) x, l[j]? = some x → w.cell? ((⟨b2, o, none⟩ : Addr).add j) = some (.int .u8 x.toNat) := by
      intro j x hx
      have hj : j < vs.length := by rw [← hll, hlen]; exact (List.getElem?_eq_some_iff.1 hx).1
      obtain ⟨v, hvj⟩ : ∃ v, vs[j]? = some v := ⟨_, List.getElem?_eq_getElem hj⟩
      have hr := hv j (.int .u8 x.toNat) v (hget j x hx) hvj
      cases hr
      have := sr.cell (him j _ hvj)
      rw [add_plain]
      exact this
    have hne : l.length ≠ 0 := by simpa using hl0
    refine (Tryd.builder_String b2 o b cp c2.size l w hl0 cell1 (by simp [World.shape?, q2]) (by omega) hcl (by omega) hcell).mono fun e w' ⟨he, hw⟩ => ?_
    subst he; subst hw
    refine ⟨C, .refl _ _, SR.freeze sr.drew hk htk (by omega) hne, ?_, _, rfl, .str⟩
    exact Lib.below_freeze (Below.drew (Below.refl B w)) (p := ⟨b2, o, none⟩) (sr.low k b2 (by simp [own, hk, htk])) _
end Go.Pm
end

section
set_option linter.unusedSimpArgs false
set_option linter.unusedVariables false
set_option linter.unusedSectionVars false
/- The rows of this seat: what all of them need. -/
set_option maxRecDepth 100000
namespace Go.Proofs.YtehcekeccnlboaaDoor
open Go.Pm

theorem own : ownKnob Tryd.prog.godebug = none := by kernel_rfl
theorem laidOut : laidOutB Tryd.prog = true := by kernel_rfl
theorem mixed : Tryd.prog.follows .mixedOrders = true := by kernel_rfl

theorem shaped_maxLen {W : World} (h : W.ShapedOpen Tryd.prog) : ∃ m, GRAt (wctx W) 5 [.int .i64 m] :=
  shaped_int h 5 3 .i64 #[.int .i64 0] (of_decide_eq_true (by kernel_rfl)) (by kernel_rfl) rfl (by kernel_rfl) (by kernel_rfl) (by kernel_rfl)

theorem errRow : ∀ u, Tryd.prog.typeName? 3 u = some "*errors.errorString" → u = 182 :=
  typeName_ptr_named (nm := "errors.errorString") (by kernel_rfl) (by kernel_rfl) (by decide)

theorem laid_range {W : World} {laid : List (String × DataW Unit)} (h : laidMet Tryd.prog laid W) (hm : ("strconv.ErrRange", Rows.laid_strconv_ErrRange) ∈ laid) :
    GRAt (wctx W) 3 [.iface 182 (.ip 1 [.agg [.str [118, 97, 108, 117, 101, 32, 111, 117, 116, 32, 111, 102, 32, 114, 97, 110, 103, 101]]] 0 0)] :=
  laid_err h hm 3 98 182 184 9 #[("Error", 34)] { name := "s", type := 9, offset := 0, embedded := false, tag := "", pkgPath := "errors", byteOffset := 0 } (by kernel_rfl) (by kernel_rfl) (by kernel_rfl) errRow (by kernel_rfl) (by kernel_rfl) rfl rfl (by kernel_rfl) (by kernel_rfl) (by kernel_rfl)

/-- What the lexer's laws lean on. -/
def lexGl (m : Int) : List (Nat × List AV) := [(3, [.iface 182 (.ip 1 [.agg [.str [118, 97, 108, 117, 101, 32, 111, 117, 116, 32, 111, 102, 32, 114, 97, 110, 103, 101]]] 0 0)]), (5, [.int .i64 m])]
theorem lexGl_pure (m : Int) : GPure (lookG (lexGl m)) := GPure_of (by simp [lexGl, puress, AV.pure, stripWs, stripW])
theorem lexGl_met {W : World} {laid : List (String × DataW Unit)} (h : laidMet Tryd.prog laid W) (hm : ("strconv.ErrRange", Rows.laid_strconv_ErrRange) ∈ laid) (hs : W.ShapedOpen Tryd.prog) : ∃ m, GR (lookG (lexGl m)) (wctx W) := by
  obtain ⟨m, hm'⟩ := shaped_maxLen hs
  exact ⟨m, GR_of (by simpa [lexGl] using ⟨laid_range h hm, hm'⟩)⟩
end Go.Proofs.YtehcekeccnlboaaDoor
end

section
set_option linter.unusedSimpArgs false
set_option linter.unusedVariables false
set_option linter.unusedSectionVars false
/- The listed tables of this seat; the library's answers of its laws on expressions and tests. -/
set_option maxRecDepth 100000
namespace Go.Proofs.YtehcekeccnlboaaDoor
open Go.Pm

def glAt (g : Nat) : List AV := match (glb 0)[g]? with | some (some c) => c | _ => []

theorem laid_texts {W : World} {laid : List (String × DataW Unit)} (h : laidMet Tryd.prog laid W) (hm : ("troth/num.texts", Rows.laid_troth_num_texts) ∈ laid) : GRAt (wctx W) 1 (glAt 1) :=
  laid_tab h hm 1 150 9 15 _ (by kernel_rfl) (by kernel_rfl) (by kernel_rfl) (.inl (by kernel_rfl)) (by kernel_rfl) (by kernel_rfl) (by kernel_rfl)
theorem laid_modes {W : World} {laid : List (String × DataW Unit)} (h : laidMet Tryd.prog laid W) (hm : ("troth/prog.modes", Rows.laid_troth_prog_modes) ∈ laid) : GRAt (wctx W) 0 (glAt 0) :=
  laid_tab h hm 0 107 9 7 _ (by kernel_rfl) (by kernel_rfl) (by kernel_rfl) (.inl (by kernel_rfl)) (by kernel_rfl) (by kernel_rfl) (by kernel_rfl)
theorem laid_pow10 {W : World} {laid : List (String × DataW Unit)} (h : laidMet Tryd.prog laid W) (hm : ("internal/strconv.uint64pow10", Rows.laid_internal_strconv_uint64pow10) ∈ laid) : GRAt (wctx W) 4 (glAt 4) :=
  laid_tab h hm 4 177 30 20 _ (by kernel_rfl) (by kernel_rfl) (by kernel_rfl) (.inr ⟨.u64, by kernel_rfl⟩) (by kernel_rfl) (by kernel_rfl) (by kernel_rfl)
theorem laid_32tab {W : World} {laid : List (String × DataW Unit)} (h : laidMet Tryd.prog laid W) (hm : ("math/bits.deBruijn32tab", Rows.laid_math_bits_deBruijn32tab) ∈ laid) : GRAt (wctx W) 6 (glAt 6) :=
  laid_tab h hm 6 188 5 32 _ (by kernel_rfl) (by kernel_rfl) (by kernel_rfl) (.inr ⟨.u8, by kernel_rfl⟩) (by kernel_rfl) (by kernel_rfl) (by kernel_rfl)
theorem laid_64tab {W : World} {laid : List (String × DataW Unit)} (h : laidMet Tryd.prog laid W) (hm : ("math/bits.deBruijn64tab", Rows.laid_math_bits_deBruijn64tab) ∈ laid) : GRAt (wctx W) 7 (glAt 7) :=
  laid_tab h hm 7 189 5 64 _ (by kernel_rfl) (by kernel_rfl) (by kernel_rfl) (.inr ⟨.u8, by kernel_rfl⟩) (by kernel_rfl) (by kernel_rfl) (by kernel_rfl)

def exprGl : List (Nat × List AV) := [(1, glAt 1), (4, glAt 4), (6, glAt 6), (7, glAt 7)]
def progGl : List (Nat × List AV) := [(0, glAt 0), (1, glAt 1), (4, glAt 4), (6, glAt 6), (7, glAt 7)]

theorem exprGl_pure : GPure (lookG exprGl) := GPure_of (by
  unfold exprGl
  simp only [List.forall_mem_cons]
  exact ⟨⟨rfl, rfl⟩, ⟨rfl, rfl⟩, ⟨rfl, rfl⟩, ⟨rfl, rfl⟩, by simp⟩)
theorem progGl_pure : GPure (lookG progGl) := GPure_of (by
  unfold progGl
  simp only [List.forall_mem_cons]
  exact ⟨⟨rfl, rfl⟩, ⟨rfl, rfl⟩, ⟨rfl, rfl⟩, ⟨rfl, rfl⟩, ⟨rfl, rfl⟩, by simp⟩)

/-- What the library answers. -/
def libP : CallA := orC (atF 104 copySpec) (orC (atF 86 strSpec) (orC (atF 141 joinSpec) (atF 83 repSpec)))
theorem libP_sound {G : Globals} : CallS Tryd.prog G libP := copy_sound.or (str_sound.or (join_sound.or rep_sound))

theorem runP_sound {G : Globals} (hG : GPure G) (n : Nat) : CallS Tryd.prog G (runA irOf libP G n) :=
  run_sound mixed ok_all libP_sound hG n

/-- A closed call that comes to true. -/
def isTrue : Option (AOut × Store) → Bool
  | some (.ret (.bool true), _) => true
  | _ => false
theorem isTrue_some {x : Option (AOut × Store)} (h : isTrue x = true) : ∃ σ', x = some (.ret (.bool true), σ') := by
  unfold isTrue at h
  split at h
  · exact ⟨_, rfl⟩
  · cases h

theorem wakes35 : isTrue (runA irOf libP (lookG progGl) 200 35 [] []) = true := by kernel_rfl
theorem wakes10 : isTrue (runA irOf libP (lookG exprGl) 200 10 [] []) = true := by kernel_rfl
end Go.Proofs.YtehcekeccnlboaaDoor
end
