/- A machine on plain data, proved sound for the model, for the proofs of this seat; its conditions stand at each theorem. Here: DIr0 -/
import Derived.Test.YtehcekeccnlboaaDoorB1

section
set_option linter.unusedSimpArgs false
set_option linter.unusedVariables false
set_option linter.unusedSectionVars false
/- The code of the functions, as the pure machine has it: by a program of this session out of the loaded translation; PmxOk holds it to the model's. -/
set_option maxRecDepth 100000
namespace Go.Pm
def i3_L0 : ACode :=
  (.seq (.seq (.region [⟨some 54, none, .mov (.t 14)⟩,
    ⟨some 55, none, .mov (.t 5)⟩,
    ⟨some 56, none, .bin .lss (.t 54) (.t 55)⟩,
    ⟨some 57, none, .mov (.t 56)⟩,
    ⟨some 58, (some (57, true)), .mov (.t 13)⟩,
    ⟨some 59, none, .pick (.t 57) (.t 58) (.c (.bool false))⟩] [0, 1, 5, 9, 11, 13, 14, 59])
  (.cond (.t 59) .skip
  (.exit 0)))
  (.seq (.block 1 (.draw [⟨some 62, none, .mov (.t 0)⟩,
    ⟨some 63, none, .mov (.t 14)⟩,
    ⟨some 64, none, .idxas 6 (.t 62) (.t 63)⟩,
    ⟨some 65, none, .load (some 6) (.t 64)⟩,
    ⟨some 66, none, .mov (.t 1)⟩,
    ⟨some 67, none, .mov (.t 14)⟩,
    ⟨some 68, none, .idxas 6 (.t 66) (.t 67)⟩,
    ⟨some 69, none, .load (some 6) (.t 68)⟩,
    ⟨some 70, none, .call false 13 [(.t 65), (.t 69)]⟩,
    ⟨some 13, none, .mov (.t 70)⟩] [[], [], [0, 1], [0, 1, 2], [], [], [4, 5], [4, 5, 6], [0, 1, 2, 3, 4, 5, 6, 7], [0, 1, 2, 3, 4, 5, 6, 7, 8]] [0, 1, 5, 9, 11, 13, 14]))
  (.region [⟨some 60, none, .mov (.t 14)⟩,
    ⟨some 61, none, .bin .add (.t 60) (.c (.int .i64 1))⟩,
    ⟨some 14, none, .mov (.t 61)⟩] [0, 1, 5, 9, 11, 13, 14])))

/-- troth/trothlaw03.ExprSame -/
def i3 : AFunc := ⟨2, 88, [.tmp 4],
  (.seq (.region [⟨some 4, none, .mov (.c (.bool false))⟩] [0, 1])
  (.seq (.seq (.region [⟨some 15, none, .mov (.t 0)⟩,
    ⟨some 16, none, .lensl (.t 15)⟩,
    ⟨some 17, none, .bin .gtr (.t 16) (.c (.int .i64 60))⟩,
    ⟨some 18, none, .mov (.t 17)⟩,
    ⟨some 19, (some (18, false)), .mov (.t 1)⟩,
    ⟨some 20, (some (18, false)), .lensl (.t 19)⟩,
    ⟨some 21, (some (18, false)), .bin .gtr (.t 20) (.c (.int .i64 60))⟩,
    ⟨some 22, none, .pick (.t 18) (.c (.bool true)) (.t 21)⟩] [0, 1, 22])
  (.cond (.t 22) (.seq (.region [⟨some 23, none, .call false 10 []⟩,
    ⟨some 4, none, .mov (.t 23)⟩] [4])
  .ret)
  .skip))
  (.seq (.region [⟨some 25, none, .mov (.t 0)⟩,
    ⟨some 26, none, .call false 11 [(.t 25)]⟩,
    ⟨some 24, none, .mov (.t 26)⟩,
    ⟨some 27, none, .ext (.t 24) 0⟩,
    ⟨some 28, none, .ext (.t 24) 1⟩,
    ⟨some 5, none, .mov (.t 27)⟩,
    ⟨some 6, none, .mov (.t 28)⟩] [0, 1, 5, 6])
  (.seq (.region [⟨some 30, none, .mov (.t 1)⟩,
    ⟨some 31, none, .call false 11 [(.t 30)]⟩,
    ⟨some 29, none, .mov (.t 31)⟩,
    ⟨some 32, none, .ext (.t 29) 0⟩,
    ⟨some 33, none, .ext (.t 29) 1⟩,
    ⟨some 7, none, .mov (.t 32)⟩,
    ⟨some 8, none, .mov (.t 33)⟩] [0, 1, 5, 6, 7, 8])
  (.seq (.seq (.region [⟨some 34, none, .mov (.t 6)⟩,
    ⟨some 35, none, .un .not (.t 34)⟩,
    ⟨some 36, none, .mov (.t 35)⟩,
    ⟨some 37, (some (36, false)), .mov (.t 8)⟩,
    ⟨some 38, (some (36, false)), .un .not (.t 37)⟩,
    ⟨some 39, none, .pick (.t 36) (.c (.bool true)) (.t 38)⟩] [0, 1, 5, 7, 39])
  (.cond (.t 39) (.seq (.region [⟨some 40, none, .call false 10 []⟩,
    ⟨some 4, none, .mov (.t 40)⟩] [4])
  .ret)
  .skip))
  (.seq (.region [⟨some 42, none, .mov (.t 0)⟩,
    ⟨some 43, none, .call false 12 [(.t 42), (.c (.int .i64 0)), (.c (.int .i64 20))]⟩,
    ⟨some 41, none, .mov (.t 43)⟩,
    ⟨some 44, none, .ext (.t 41) 0⟩,
    ⟨some 45, none, .ext (.t 41) 1⟩,
    ⟨some 9, none, .mov (.t 44)⟩,
    ⟨some 10, none, .mov (.t 45)⟩] [0, 1, 5, 7, 9])
  (.seq (.region [⟨some 47, none, .mov (.t 1)⟩,
    ⟨some 48, none, .call false 12 [(.t 47), (.c (.int .i64 0)), (.c (.int .i64 20))]⟩,
    ⟨some 46, none, .mov (.t 48)⟩,
    ⟨some 49, none, .ext (.t 46) 0⟩,
    ⟨some 50, none, .ext (.t 46) 1⟩,
    ⟨some 11, none, .mov (.t 49)⟩,
    ⟨some 12, none, .mov (.t 50)⟩] [0, 1, 5, 7, 9, 11])
  (.seq (.region [⟨some 51, none, .mov (.t 5)⟩,
    ⟨some 52, none, .mov (.t 7)⟩,
    ⟨some 53, none, .bin .eql (.t 51) (.t 52)⟩,
    ⟨some 13, none, .mov (.t 53)⟩] [0, 1, 5, 9, 11, 13])
  (.seq (.seq (.region [⟨some 14, none, .mov (.c (.int .i64 0))⟩] [0, 1, 5, 9, 11, 13, 14])
  (.block 0 (.loop [0, 1, 5, 9, 11, 13, 14] i3_L0)))
  (.seq (.region [⟨some 71, none, .mov (.t 9)⟩,
    ⟨some 72, none, .mov (.t 11)⟩,
    ⟨some 73, none, .call false 14 [(.t 71), (.t 72)]⟩,
    ⟨some 74, none, .mov (.t 13)⟩,
    ⟨some 75, none, .eqb false (.scalar .b) (.t 73) (.t 74)⟩,
    ⟨some 76, none, .mov (.t 75)⟩,
    ⟨some 77, (some (76, true)), .mov (.t 9)⟩,
    ⟨some 78, (some (76, true)), .call false 15 [(.t 77)]⟩,
    ⟨some 79, (some (76, true)), .mov (.t 11)⟩,
    ⟨some 80, (some (76, true)), .call false 15 [(.t 79)]⟩,
    ⟨some 81, (some (76, true)), .bin .eql (.t 78) (.t 80)⟩,
    ⟨some 82, (some (76, true)), .mov (.t 13)⟩,
    ⟨some 83, (some (76, true)), .eqb false (.scalar .b) (.t 81) (.t 82)⟩,
    ⟨some 84, none, .pick (.t 76) (.t 83) (.c (.bool false))⟩,
    ⟨some 85, none, .mov (.t 84)⟩,
    ⟨some 86, (some (85, true)), .call false 10 []⟩,
    ⟨some 87, none, .pick (.t 85) (.t 86) (.c (.bool false))⟩,
    ⟨some 4, none, .mov (.t 87)⟩] [4])
  .ret))))))))))⟩

def i4_L0 : ACode :=
  (.seq (.seq (.region [⟨some 89, none, .mov (.t 22)⟩,
    ⟨some 90, none, .mov (.t 7)⟩,
    ⟨some 91, none, .bin .lss (.t 89) (.t 90)⟩] [0, 5, 7, 9, 11, 13, 14, 16, 18, 19, 20, 21, 22, 91])
  (.cond (.t 91) .skip
  (.exit 0)))
  (.seq (.block 1 (.seq (.region [⟨some 94, none, .mov (.t 0)⟩,
    ⟨some 95, none, .mov (.t 22)⟩,
    ⟨some 96, none, .idxas 6 (.t 94) (.t 95)⟩,
    ⟨some 97, none, .faddr 0 (.t 96)⟩,
    ⟨some 98, none, .load none (.t 97)⟩,
    ⟨some 99, none, .bin .lss (.t 98) (.c (.int .u8 4))⟩] [0, 5, 7, 9, 11, 13, 14, 16, 18, 19, 20, 21, 22, 99])
  (.cond (.t 99) (.draw [⟨some 100, none, .load none (.t 21)⟩,
    ⟨some 101, none, .mov (.t 0)⟩,
    ⟨some 102, none, .mov (.t 22)⟩,
    ⟨some 103, none, .idxas 6 (.t 101) (.t 102)⟩,
    ⟨some 104, none, .load (some 6) (.t 103)⟩,
    ⟨some 105, none, .bslice 32 6 [(.int .u8 0), (.int .u8 0), (.int .u64 0), (.int .u8 0), (.int .u8 0), (.int .u8 0)] 1 [(0, (.t 104))]⟩,
    ⟨some 106, none, .app 32 6 24 (.t 100) (.t 105)⟩,
    ⟨none, none, .store 1 (.t 21) (.t 106)⟩] [[], [], [], [1, 2], [1, 2, 3], [1, 2, 3, 4], [0, 1, 2, 3, 4, 5], [0, 1, 2, 3, 4, 5, 6]] [0, 5, 7, 9, 11, 13, 14, 16, 18, 19, 20, 21, 22])
  .skip)))
  (.region [⟨some 92, none, .mov (.t 22)⟩,
    ⟨some 93, none, .bin .add (.t 92) (.c (.int .i64 1))⟩,
    ⟨some 22, none, .mov (.t 93)⟩] [0, 5, 7, 9, 11, 13, 14, 16, 18, 19, 20, 21, 22])))

/-- troth/trothlaw03.ExprTells -/
def i4 : AFunc := ⟨2, 142, [.tmp 4],
  (.seq (.region [⟨some 3, none, .box 36 1 (.t 1)⟩,
    ⟨some 4, none, .mov (.c (.bool false))⟩] [0, 3])
  (.seq (.seq (.region [⟨some 23, none, .mov (.t 0)⟩,
    ⟨some 24, none, .lensl (.t 23)⟩,
    ⟨some 25, none, .bin .gtr (.t 24) (.c (.int .i64 60))⟩,
    ⟨some 26, none, .mov (.t 25)⟩,
    ⟨some 27, (some (26, false)), .load none (.t 3)⟩,
    ⟨some 28, (some (26, false)), .lensl (.t 27)⟩,
    ⟨some 29, (some (26, false)), .bin .gtr (.t 28) (.c (.int .i64 100))⟩,
    ⟨some 30, none, .pick (.t 26) (.c (.bool true)) (.t 29)⟩] [0, 3, 30])
  (.cond (.t 30) (.seq (.region [⟨some 31, none, .call false 10 []⟩,
    ⟨some 4, none, .mov (.t 31)⟩] [4])
  .ret)
  .skip))
  (.seq (.region [⟨some 33, none, .mov (.t 0)⟩,
    ⟨some 34, none, .call false 12 [(.t 33), (.c (.int .i64 0)), (.c (.int .i64 20))]⟩,
    ⟨some 32, none, .mov (.t 34)⟩,
    ⟨some 35, none, .ext (.t 32) 0⟩,
    ⟨some 36, none, .ext (.t 32) 1⟩,
    ⟨some 5, none, .mov (.t 35)⟩,
    ⟨some 6, none, .mov (.t 36)⟩] [0, 3, 5])
  (.seq (.region [⟨some 38, none, .mov (.t 0)⟩,
    ⟨some 39, none, .call false 11 [(.t 38)]⟩,
    ⟨some 37, none, .mov (.t 39)⟩,
    ⟨some 40, none, .ext (.t 37) 0⟩,
    ⟨some 41, none, .ext (.t 37) 1⟩,
    ⟨some 7, none, .mov (.t 40)⟩,
    ⟨some 8, none, .mov (.t 41)⟩] [0, 3, 5, 7, 8])
  (.seq (.seq (.region [⟨some 42, none, .mov (.t 5)⟩,
    ⟨some 43, none, .call false 16 [(.t 42)]⟩,
    ⟨some 44, none, .mov (.t 8)⟩,
    ⟨some 45, none, .eqb true (.scalar .b) (.t 43) (.t 44)⟩] [0, 3, 5, 7, 8, 45])
  (.cond (.t 45) (.seq (.region [⟨some 4, none, .mov (.c (.bool false))⟩] [4])
  .ret)
  .skip))
  (.seq (.region [⟨some 9, none, .alloc [(.int .i64 0)] 3⟩,
    ⟨none, none, .store 1 (.t 9) (.c (.int .i64 0))⟩] [0, 3, 5, 7, 8, 9])
  (.seq (.region [⟨some 46, none, .mkfn (.func 17) [] [(.t 9), (.t 3)]⟩,
    ⟨some 10, none, .mov (.t 46)⟩] [0, 3, 5, 7, 8, 9, 10])
  (.seq (.region [⟨some 47, none, .mov (.t 5)⟩,
    ⟨some 48, none, .mov (.t 10)⟩,
    ⟨some 49, none, .call true 18 [(.t 47), (.t 48)]⟩,
    ⟨some 11, none, .mov (.t 49)⟩] [0, 3, 5, 7, 8, 9, 11])
  (.seq (.seq (.region [⟨some 50, none, .mov (.t 8)⟩,
    ⟨some 51, none, .un .not (.t 50)⟩] [0, 3, 5, 7, 9, 11, 51])
  (.cond (.t 51) (.seq (.region [⟨some 52, none, .mov (.t 5)⟩,
    ⟨some 53, none, .call false 15 [(.t 52)]⟩,
    ⟨some 54, none, .bin .eql (.t 53) (.c (.str []))⟩,
    ⟨some 55, none, .mov (.t 54)⟩,
    ⟨some 56, (some (55, true)), .mov (.t 11)⟩,
    ⟨some 57, (some (55, true)), .bin .eql (.t 56) (.c (.int .u64 0))⟩,
    ⟨some 58, none, .pick (.t 55) (.t 57) (.c (.bool false))⟩,
    ⟨some 59, none, .mov (.t 58)⟩,
    ⟨some 60, (some (59, true)), .load none (.t 9)⟩,
    ⟨some 61, (some (59, true)), .bin .eql (.t 60) (.c (.int .i64 0))⟩,
    ⟨some 62, none, .pick (.t 59) (.t 61) (.c (.bool false))⟩,
    ⟨some 63, none, .mov (.t 62)⟩,
    ⟨some 64, (some (63, true)), .mov (.t 5)⟩,
    ⟨some 65, (some (63, true)), .mov (.t 5)⟩,
    ⟨some 66, (some (63, true)), .call false 14 [(.t 64), (.t 65)]⟩,
    ⟨some 67, (some (63, true)), .un .not (.t 66)⟩,
    ⟨some 68, none, .pick (.t 63) (.t 67) (.c (.bool false))⟩,
    ⟨some 69, none, .mov (.t 68)⟩,
    ⟨some 70, (some (69, true)), .call false 10 []⟩,
    ⟨some 71, none, .pick (.t 69) (.t 70) (.c (.bool false))⟩,
    ⟨some 4, none, .mov (.t 71)⟩] [4])
  .ret)
  .skip))
  (.seq (.region [⟨some 73, none, .mov (.t 0)⟩,
    ⟨some 74, none, .call false 19 [(.t 73), (.c (.int .i64 0))]⟩,
    ⟨some 72, none, .mov (.t 74)⟩,
    ⟨some 75, none, .ext (.t 72) 0⟩,
    ⟨some 76, none, .ext (.t 72) 1⟩,
    ⟨some 12, none, .mov (.t 75)⟩,
    ⟨some 13, none, .mov (.t 76)⟩] [0, 3, 5, 7, 9, 11, 13])
  (.seq (.region [⟨some 78, none, .mov (.t 0)⟩,
    ⟨some 79, none, .call false 20 [(.t 78), (.c (.int .i64 0))]⟩,
    ⟨some 77, none, .mov (.t 79)⟩,
    ⟨some 80, none, .ext (.t 77) 0⟩,
    ⟨some 81, none, .ext (.t 77) 1⟩,
    ⟨some 14, none, .mov (.t 80)⟩,
    ⟨some 15, none, .mov (.t 81)⟩] [0, 3, 5, 7, 9, 11, 13, 14])
  (.seq (.region [⟨some 83, none, .mov (.t 0)⟩,
    ⟨some 84, none, .load none (.t 3)⟩,
    ⟨some 85, none, .call false 21 [(.t 83), (.c (.int .i64 0)), (.t 84), (.c (.int .i64 0))]⟩,
    ⟨some 82, none, .mov (.t 85)⟩,
    ⟨some 86, none, .ext (.t 82) 0⟩,
    ⟨some 87, none, .ext (.t 82) 1⟩,
    ⟨some 88, none, .ext (.t 82) 2⟩,
    ⟨some 16, none, .mov (.t 86)⟩,
    ⟨some 17, none, .mov (.t 87)⟩,
    ⟨some 18, none, .mov (.t 88)⟩] [0, 5, 7, 9, 11, 13, 14, 16, 18])
  (.seq (.region [⟨some 19, none, .alloc [(.int .i64 0)] 3⟩,
    ⟨none, none, .store 1 (.t 19) (.c (.int .i64 0))⟩] [0, 5, 7, 9, 11, 13, 14, 16, 18, 19])
  (.seq (.region [⟨some 20, none, .alloc [(.bool false)] 4⟩,
    ⟨none, none, .store 1 (.t 20) (.c (.bool true))⟩] [0, 5, 7, 9, 11, 13, 14, 16, 18, 19, 20])
  (.seq (.region [⟨some 21, none, .alloc [(.sl 6 [] .exact)] 22⟩] [0, 5, 7, 9, 11, 13, 14, 16, 18, 19, 20, 21])
  (.seq (.seq (.region [⟨some 22, none, .mov (.c (.int .i64 0))⟩] [0, 5, 7, 9, 11, 13, 14, 16, 18, 19, 20, 21, 22])
  (.block 0 (.loop [0, 5, 7, 9, 11, 13, 14, 16, 18, 19, 20, 21, 22] i4_L0)))
  (.seq (.region [⟨some 107, none, .mov (.t 5)⟩,
    ⟨some 108, none, .mkfn (.func 23) [] [(.t 19), (.t 21), (.t 20)]⟩,
    ⟨some 109, none, .call true 22 [(.t 107), (.t 108)]⟩] [5, 9, 11, 13, 14, 16, 18, 19, 20, 21])
  (.seq (.region [⟨some 110, none, .mov (.t 5)⟩,
    ⟨some 111, none, .call false 15 [(.t 110)]⟩,
    ⟨some 112, none, .mov (.t 14)⟩,
    ⟨some 113, none, .bin .eql (.t 111) (.t 112)⟩,
    ⟨some 114, none, .mov (.t 113)⟩,
    ⟨some 115, (some (114, true)), .mov (.t 11)⟩,
    ⟨some 116, (some (114, true)), .mov (.t 16)⟩,
    ⟨some 117, (some (114, true)), .bin .eql (.t 115) (.t 116)⟩,
    ⟨some 118, none, .pick (.t 114) (.t 117) (.c (.bool false))⟩,
    ⟨some 119, none, .mov (.t 118)⟩,
    ⟨some 120, (some (119, true)), .load none (.t 9)⟩,
    ⟨some 121, (some (119, true)), .mov (.t 18)⟩,
    ⟨some 122, (some (119, true)), .bin .eql (.t 120) (.t 121)⟩,
    ⟨some 123, none, .pick (.t 119) (.t 122) (.c (.bool false))⟩,
    ⟨some 124, none, .mov (.t 123)⟩,
    ⟨some 125, (some (124, true)), .mov (.t 5)⟩,
    ⟨some 126, (some (124, true)), .call false 24 [(.t 125)]⟩,
    ⟨some 127, (some (124, true)), .mov (.t 13)⟩,
    ⟨some 128, (some (124, true)), .bin .eql (.t 126) (.t 127)⟩,
    ⟨some 129, none, .pick (.t 124) (.t 128) (.c (.bool false))⟩,
    ⟨some 130, none, .mov (.t 129)⟩,
    ⟨some 131, (some (130, true)), .load none (.t 20)⟩,
    ⟨some 132, none, .pick (.t 130) (.t 131) (.c (.bool false))⟩,
    ⟨some 133, none, .mov (.t 132)⟩,
    ⟨some 134, (some (133, true)), .load none (.t 19)⟩,
    ⟨some 135, (some (133, true)), .load none (.t 21)⟩,
    ⟨some 136, (some (133, true)), .lensl (.t 135)⟩,
    ⟨some 137, (some (133, true)), .bin .eql (.t 134) (.t 136)⟩,
    ⟨some 138, none, .pick (.t 133) (.t 137) (.c (.bool false))⟩,
    ⟨some 139, none, .mov (.t 138)⟩,
    ⟨some 140, (some (139, true)), .call false 10 []⟩,
    ⟨some 141, none, .pick (.t 139) (.t 140) (.c (.bool false))⟩,
    ⟨some 4, none, .mov (.t 141)⟩] [4])
  .ret))))))))))))))))))⟩

def i5_L0 : ACode :=
  (.seq (.seq (.region [⟨some 41, none, .mov (.t 9)⟩,
    ⟨some 42, none, .mov (.t 3)⟩,
    ⟨some 43, none, .lensl (.t 42)⟩,
    ⟨some 44, none, .bin .lss (.t 41) (.t 43)⟩] [3, 6, 9, 44])
  (.cond (.t 44) .skip
  (.exit 0)))
  (.seq (.block 1 (.seq (.draw [⟨some 47, none, .mov (.t 3)⟩,
    ⟨some 48, none, .mov (.t 9)⟩,
    ⟨some 49, none, .idxas 5 (.t 47) (.t 48)⟩,
    ⟨some 50, none, .load (some 5) (.t 49)⟩,
    ⟨some 51, none, .mov (.t 6)⟩,
    ⟨some 52, none, .mov (.t 9)⟩,
    ⟨some 53, none, .idxas 5 (.t 51) (.t 52)⟩,
    ⟨some 54, none, .faddr 0 (.t 53)⟩,
    ⟨some 55, none, .load none (.t 54)⟩,
    ⟨some 56, none, .mov (.t 6)⟩,
    ⟨some 57, none, .mov (.t 9)⟩,
    ⟨some 58, none, .idxas 5 (.t 56) (.t 57)⟩,
    ⟨some 59, none, .faddr 1 (.t 58)⟩,
    ⟨some 60, none, .load none (.t 59)⟩,
    ⟨some 61, none, .mov (.t 6)⟩,
    ⟨some 62, none, .mov (.t 9)⟩,
    ⟨some 63, none, .idxas 5 (.t 61) (.t 62)⟩,
    ⟨some 64, none, .faddr 2 (.t 63)⟩,
    ⟨some 65, none, .load none (.t 64)⟩,
    ⟨some 66, none, .mov (.t 6)⟩,
    ⟨some 67, none, .mov (.t 9)⟩,
    ⟨some 68, none, .idxas 5 (.t 66) (.t 67)⟩,
    ⟨some 69, none, .faddr 3 (.t 68)⟩,
    ⟨some 70, none, .load (some 2) (.t 69)⟩,
    ⟨some 71, none, .build [(.int .u8 0), (.str []), (.int .u64 0), (.int .i64 0), (.int .i64 0)] [(0, 1, (.t 55)), (1, 1, (.t 60)), (2, 1, (.t 65)), (3, 2, (.t 70))]⟩,
    ⟨some 72, none, .eqb true (.fields [(0, 1, false, (.scalar .i)), (1, 1, false, (.scalar .s)), (2, 1, false, (.scalar .i)), (3, 2, true, (.fields [(0, 1, false, (.scalar .i)), (1, 1, false, (.scalar .i))]))]) (.t 50) (.t 71)⟩] [[], [], [0, 1], [0, 1, 2], [], [], [4, 5], [4, 5, 6], [4, 5, 6, 7], [], [], [9, 10], [9, 10, 11], [9, 10, 11, 12], [], [], [14, 15], [14, 15, 16], [14, 15, 16, 17], [], [], [19, 20], [19, 20, 21], [19, 20, 21, 22], [4, 5, 6, 7, 8, 9, 10, 11, 12, 13, 14, 15, 16, 17, 18, 19, 20, 21, 22, 23], [0, 1, 2, 3, 4, 5, 6, 7, 8, 9, 10, 11, 12, 13, 14, 15, 16, 17, 18, 19, 20, 21, 22, 23, 24]] [3, 6, 9, 72])
  (.cond (.t 72) (.seq (.region [⟨some 2, none, .mov (.c (.bool false))⟩] [2])
  .ret)
  .skip)))
  (.region [⟨some 45, none, .mov (.t 9)⟩,
    ⟨some 46, none, .bin .add (.t 45) (.c (.int .i64 1))⟩,
    ⟨some 9, none, .mov (.t 46)⟩] [3, 6, 9])))

/-- troth/trothlaw02.LexTells -/
def i5 : AFunc := ⟨1, 74, [.tmp 2],
  (.seq (.region [⟨some 2, none, .mov (.c (.bool false))⟩] [0])
  (.seq (.seq (.region [⟨some 10, none, .mov (.t 0)⟩,
    ⟨some 11, none, .lenstr (.t 10)⟩,
    ⟨some 12, none, .bin .gtr (.t 11) (.c (.int .i64 5000))⟩] [0, 12])
  (.cond (.t 12) (.seq (.region [⟨some 13, none, .call false 25 []⟩,
    ⟨some 2, none, .mov (.t 13)⟩] [2])
  .ret)
  .skip))
  (.seq (.region [⟨some 15, none, .mov (.t 0)⟩,
    ⟨some 16, none, .call false 26 [(.t 15)]⟩,
    ⟨some 14, none, .mov (.t 16)⟩,
    ⟨some 17, none, .ext (.t 14) 0⟩,
    ⟨some 18, none, .ext (.t 14) 1⟩,
    ⟨some 19, none, .ext (.t 14) 2⟩,
    ⟨some 4, none, .alloc [(.int .i64 0), (.int .i64 0)] 53⟩,
    ⟨some 3, none, .mov (.t 17)⟩,
    ⟨none, none, .store 2 (.t 4) (.t 18)⟩,
    ⟨some 5, none, .mov (.t 19)⟩] [0, 3, 4, 5])
  (.seq (.region [⟨some 21, none, .mov (.t 0)⟩,
    ⟨some 22, none, .call false 27 [(.t 21)]⟩,
    ⟨some 20, none, .mov (.t 22)⟩,
    ⟨some 23, none, .ext (.t 20) 0⟩,
    ⟨some 24, none, .ext (.t 20) 1⟩,
    ⟨some 25, none, .ext (.t 20) 2⟩,
    ⟨some 7, none, .alloc [(.int .i64 0), (.int .i64 0)] 53⟩,
    ⟨some 6, none, .mov (.t 23)⟩,
    ⟨none, none, .store 2 (.t 7) (.t 24)⟩,
    ⟨some 8, none, .mov (.t 25)⟩] [3, 4, 5, 6, 7, 8])
  (.seq (.seq (.region [⟨some 26, none, .mov (.t 3)⟩,
    ⟨some 27, none, .lensl (.t 26)⟩,
    ⟨some 28, none, .mov (.t 6)⟩,
    ⟨some 29, none, .lensl (.t 28)⟩,
    ⟨some 30, none, .bin .neq (.t 27) (.t 29)⟩,
    ⟨some 31, none, .mov (.t 30)⟩,
    ⟨some 32, (some (31, false)), .load (some 2) (.t 4)⟩,
    ⟨some 33, (some (31, false)), .load (some 2) (.t 7)⟩,
    ⟨some 34, (some (31, false)), .eqb true (.fields [(0, 1, false, (.scalar .i)), (1, 1, false, (.scalar .i))]) (.t 32) (.t 33)⟩,
    ⟨some 35, none, .pick (.t 31) (.c (.bool true)) (.t 34)⟩,
    ⟨some 36, none, .mov (.t 35)⟩,
    ⟨some 37, (some (36, false)), .mov (.t 5)⟩,
    ⟨some 38, (some (36, false)), .mov (.t 8)⟩,
    ⟨some 39, (some (36, false)), .bin .neq (.t 37) (.t 38)⟩,
    ⟨some 40, none, .pick (.t 36) (.c (.bool true)) (.t 39)⟩] [3, 6, 40])
  (.cond (.t 40) (.seq (.region [⟨some 2, none, .mov (.c (.bool false))⟩] [2])
  .ret)
  .skip))
  (.seq (.seq (.region [⟨some 9, none, .mov (.c (.int .i64 0))⟩] [3, 6, 9])
  (.block 0 (.loop [3, 6, 9] i5_L0)))
  (.seq (.region [⟨some 73, none, .call false 25 []⟩,
    ⟨some 2, none, .mov (.t 73)⟩] [2])
  .ret)))))))⟩

def i6_L0 : ACode :=
  (.seq (.seq (.region [⟨some 61, none, .mov (.t 11)⟩,
    ⟨some 62, none, .bin .add (.t 61) (.c (.int .i64 1))⟩,
    ⟨some 63, none, .mov (.t 5)⟩,
    ⟨some 64, none, .lensl (.t 63)⟩,
    ⟨some 65, none, .bin .lss (.t 62) (.t 64)⟩] [0, 5, 9, 10, 11, 65])
  (.cond (.t 65) .skip
  (.exit 0)))
  (.seq (.block 1 (.region [⟨some 68, none, .mov (.t 10)⟩,
    ⟨some 69, none, .mov (.t 9)⟩,
    ⟨some 70, none, .bin .add (.t 68) (.t 69)⟩,
    ⟨some 71, none, .mov (.t 5)⟩,
    ⟨some 72, none, .mov (.t 11)⟩,
    ⟨some 73, none, .idxas 5 (.t 71) (.t 72)⟩,
    ⟨some 74, none, .faddr 1 (.t 73)⟩,
    ⟨some 75, none, .load none (.t 74)⟩,
    ⟨some 76, none, .bin .add (.t 70) (.t 75)⟩,
    ⟨some 10, none, .mov (.t 76)⟩] [0, 5, 9, 10, 11]))
  (.region [⟨some 66, none, .mov (.t 11)⟩,
    ⟨some 67, none, .bin .add (.t 66) (.c (.int .i64 1))⟩,
    ⟨some 11, none, .mov (.t 67)⟩] [0, 5, 9, 10, 11])))

def i6_L1 : ACode :=
  (.seq (.seq (.region [⟨some 99, none, .mov (.t 15)⟩,
    ⟨some 100, none, .mov (.t 5)⟩,
    ⟨some 101, none, .lensl (.t 100)⟩,
    ⟨some 102, none, .bin .lss (.t 99) (.t 101)⟩] [0, 5, 12, 15, 102])
  (.cond (.t 102) .skip
  (.exit 2)))
  (.seq (.block 3 (.seq (.draw [⟨some 105, none, .mov (.t 12)⟩,
    ⟨some 106, none, .mov (.t 15)⟩,
    ⟨some 107, none, .idxas 5 (.t 105) (.t 106)⟩,
    ⟨some 108, none, .faddr 0 (.t 107)⟩,
    ⟨some 109, none, .load none (.t 108)⟩,
    ⟨some 110, none, .mov (.t 5)⟩,
    ⟨some 111, none, .mov (.t 15)⟩,
    ⟨some 112, none, .idxas 5 (.t 110) (.t 111)⟩,
    ⟨some 113, none, .faddr 0 (.t 112)⟩,
    ⟨some 114, none, .load none (.t 113)⟩,
    ⟨some 115, none, .bin .neq (.t 109) (.t 114)⟩,
    ⟨some 116, none, .mov (.t 115)⟩,
    ⟨some 117, (some (116, false)), .mov (.t 12)⟩,
    ⟨some 118, (some (116, false)), .mov (.t 15)⟩,
    ⟨some 119, (some (116, false)), .idxas 5 (.t 117) (.t 118)⟩,
    ⟨some 120, (some (116, false)), .faddr 1 (.t 119)⟩,
    ⟨some 121, (some (116, false)), .load none (.t 120)⟩,
    ⟨some 122, (some (116, false)), .mov (.t 5)⟩,
    ⟨some 123, (some (116, false)), .mov (.t 15)⟩,
    ⟨some 124, (some (116, false)), .idxas 5 (.t 122) (.t 123)⟩,
    ⟨some 125, (some (116, false)), .faddr 1 (.t 124)⟩,
    ⟨some 126, (some (116, false)), .load none (.t 125)⟩,
    ⟨some 127, (some (116, false)), .bin .neq (.t 121) (.t 126)⟩,
    ⟨some 128, none, .pick (.t 116) (.c (.bool true)) (.t 127)⟩,
    ⟨some 129, none, .mov (.t 128)⟩,
    ⟨some 130, (some (129, false)), .mov (.t 12)⟩,
    ⟨some 131, (some (129, false)), .mov (.t 15)⟩,
    ⟨some 132, (some (129, false)), .idxas 5 (.t 130) (.t 131)⟩,
    ⟨some 133, (some (129, false)), .faddr 2 (.t 132)⟩,
    ⟨some 134, (some (129, false)), .load none (.t 133)⟩,
    ⟨some 135, (some (129, false)), .mov (.t 5)⟩,
    ⟨some 136, (some (129, false)), .mov (.t 15)⟩,
    ⟨some 137, (some (129, false)), .idxas 5 (.t 135) (.t 136)⟩,
    ⟨some 138, (some (129, false)), .faddr 2 (.t 137)⟩,
    ⟨some 139, (some (129, false)), .load none (.t 138)⟩,
    ⟨some 140, (some (129, false)), .bin .neq (.t 134) (.t 139)⟩,
    ⟨some 141, none, .pick (.t 129) (.c (.bool true)) (.t 140)⟩,
    ⟨some 142, none, .mov (.t 141)⟩,
    ⟨some 143, (some (142, false)), .mov (.t 0)⟩,
    ⟨some 144, (some (142, false)), .mov (.t 5)⟩,
    ⟨some 145, (some (142, false)), .mov (.t 15)⟩,
    ⟨some 146, (some (142, false)), .idxas 5 (.t 144) (.t 145)⟩,
    ⟨some 147, (some (142, false)), .load (some 5) (.t 146)⟩,
    ⟨some 148, (some (142, false)), .call false 28 [(.t 143), (.t 147)]⟩,
    ⟨some 149, (some (142, false)), .un .not (.t 148)⟩,
    ⟨some 150, none, .pick (.t 142) (.c (.bool true)) (.t 149)⟩] [[], [], [0, 1], [0, 1, 2], [0, 1, 2, 3], [], [], [5, 6], [5, 6, 7], [5, 6, 7, 8], [0, 1, 2, 3, 4, 5, 6, 7, 8, 9], [0, 1, 2, 3, 4, 5, 6, 7, 8, 9, 10], [0, 1, 2, 3, 4, 5, 6, 7, 8, 9, 10, 11], [0, 1, 2, 3, 4, 5, 6, 7, 8, 9, 10, 11], [0, 1, 2, 3, 4, 5, 6, 7, 8, 9, 10, 11, 12, 13], [0, 1, 2, 3, 4, 5, 6, 7, 8, 9, 10, 11, 12, 13, 14], [0, 1, 2, 3, 4, 5, 6, 7, 8, 9, 10, 11, 12, 13, 14, 15], [0, 1, 2, 3, 4, 5, 6, 7, 8, 9, 10, 11], [0, 1, 2, 3, 4, 5, 6, 7, 8, 9, 10, 11], [0, 1, 2, 3, 4, 5, 6, 7, 8, 9, 10, 11, 17, 18], [0, 1, 2, 3, 4, 5, 6, 7, 8, 9, 10, 11, 17, 18, 19], [0, 1, 2, 3, 4, 5, 6, 7, 8, 9, 10, 11, 17, 18, 19, 20], [0, 1, 2, 3, 4, 5, 6, 7, 8, 9, 10, 11, 12, 13, 14, 15, 16, 17, 18, 19, 20, 21], [0, 1, 2, 3, 4, 5, 6, 7, 8, 9, 10, 11, 12, 13, 14, 15, 16, 17, 18, 19, 20, 21, 22], [0, 1, 2, 3, 4, 5, 6, 7, 8, 9, 10, 11, 12, 13, 14, 15, 16, 17, 18, 19, 20, 21, 22, 23], [0, 1, 2, 3, 4, 5, 6, 7, 8, 9, 10, 11, 12, 13, 14, 15, 16, 17, 18, 19, 20, 21, 22, 23, 24], [0, 1, 2, 3, 4, 5, 6, 7, 8, 9, 10, 11, 12, 13, 14, 15, 16, 17, 18, 19, 20, 21, 22, 23, 24], [0, 1, 2, 3, 4, 5, 6, 7, 8, 9, 10, 11, 12, 13, 14, 15, 16, 17, 18, 19, 20, 21, 22, 23, 24, 25, 26], [0, 1, 2, 3, 4, 5, 6, 7, 8, 9, 10, 11, 12, 13, 14, 15, 16, 17, 18, 19, 20, 21, 22, 23, 24, 25, 26, 27], [0, 1, 2, 3, 4, 5, 6, 7, 8, 9, 10, 11, 12, 13, 14, 15, 16, 17, 18, 19, 20, 21, 22, 23, 24, 25, 26, 27, 28], [0, 1, 2, 3, 4, 5, 6, 7, 8, 9, 10, 11, 12, 13, 14, 15, 16, 17, 18, 19, 20, 21, 22, 23, 24], [0, 1, 2, 3, 4, 5, 6, 7, 8, 9, 10, 11, 12, 13, 14, 15, 16, 17, 18, 19, 20, 21, 22, 23, 24], [0, 1, 2, 3, 4, 5, 6, 7, 8, 9, 10, 11, 12, 13, 14, 15, 16, 17, 18, 19, 20, 21, 22, 23, 24, 30, 31], [0, 1, 2, 3, 4, 5, 6, 7, 8, 9, 10, 11, 12, 13, 14, 15, 16, 17, 18, 19, 20, 21, 22, 23, 24, 30, 31, 32], [0, 1, 2, 3, 4, 5, 6, 7, 8, 9, 10, 11, 12, 13, 14, 15, 16, 17, 18, 19, 20, 21, 22, 23, 24, 30, 31, 32, 33], [0, 1, 2, 3, 4, 5, 6, 7, 8, 9, 10, 11, 12, 13, 14, 15, 16, 17, 18, 19, 20, 21, 22, 23, 24, 25, 26, 27, 28, 29, 30, 31, 32, 33, 34], [0, 1, 2, 3, 4, 5, 6, 7, 8, 9, 10, 11, 12, 13, 14, 15, 16, 17, 18, 19, 20, 21, 22, 23, 24, 25, 26, 27, 28, 29, 30, 31, 32, 33, 34, 35], [0, 1, 2, 3, 4, 5, 6, 7, 8, 9, 10, 11, 12, 13, 14, 15, 16, 17, 18, 19, 20, 21, 22, 23, 24, 25, 26, 27, 28, 29, 30, 31, 32, 33, 34, 35, 36], [0, 1, 2, 3, 4, 5, 6, 7, 8, 9, 10, 11, 12, 13, 14, 15, 16, 17, 18, 19, 20, 21, 22, 23, 24, 25, 26, 27, 28, 29, 30, 31, 32, 33, 34, 35, 36, 37], [0, 1, 2, 3, 4, 5, 6, 7, 8, 9, 10, 11, 12, 13, 14, 15, 16, 17, 18, 19, 20, 21, 22, 23, 24, 25, 26, 27, 28, 29, 30, 31, 32, 33, 34, 35, 36, 37], [0, 1, 2, 3, 4, 5, 6, 7, 8, 9, 10, 11, 12, 13, 14, 15, 16, 17, 18, 19, 20, 21, 22, 23, 24, 25, 26, 27, 28, 29, 30, 31, 32, 33, 34, 35, 36, 37], [0, 1, 2, 3, 4, 5, 6, 7, 8, 9, 10, 11, 12, 13, 14, 15, 16, 17, 18, 19, 20, 21, 22, 23, 24, 25, 26, 27, 28, 29, 30, 31, 32, 33, 34, 35, 36, 37, 39, 40], [0, 1, 2, 3, 4, 5, 6, 7, 8, 9, 10, 11, 12, 13, 14, 15, 16, 17, 18, 19, 20, 21, 22, 23, 24, 25, 26, 27, 28, 29, 30, 31, 32, 33, 34, 35, 36, 37, 39, 40, 41], [0, 1, 2, 3, 4, 5, 6, 7, 8, 9, 10, 11, 12, 13, 14, 15, 16, 17, 18, 19, 20, 21, 22, 23, 24, 25, 26, 27, 28, 29, 30, 31, 32, 33, 34, 35, 36, 37, 38, 39, 40, 41, 42], [0, 1, 2, 3, 4, 5, 6, 7, 8, 9, 10, 11, 12, 13, 14, 15, 16, 17, 18, 19, 20, 21, 22, 23, 24, 25, 26, 27, 28, 29, 30, 31, 32, 33, 34, 35, 36, 37, 38, 39, 40, 41, 42, 43], [0, 1, 2, 3, 4, 5, 6, 7, 8, 9, 10, 11, 12, 13, 14, 15, 16, 17, 18, 19, 20, 21, 22, 23, 24, 25, 26, 27, 28, 29, 30, 31, 32, 33, 34, 35, 36, 37, 38, 39, 40, 41, 42, 43, 44]] [0, 5, 12, 15, 150])
  (.cond (.t 150) (.seq (.region [⟨some 4, none, .mov (.c (.bool false))⟩] [4])
  .ret)
  .skip)))
  (.region [⟨some 103, none, .mov (.t 15)⟩,
    ⟨some 104, none, .bin .add (.t 103) (.c (.int .i64 1))⟩,
    ⟨some 15, none, .mov (.t 104)⟩] [0, 5, 12, 15])))

/-- troth/trothlaw02.LexBack -/
def i6 : AFunc := ⟨2, 152, [.tmp 4],
  (.seq (.region [⟨some 4, none, .mov (.c (.bool false))⟩] [0, 1])
  (.seq (.seq (.region [⟨some 16, none, .mov (.t 0)⟩,
    ⟨some 17, none, .lenstr (.t 16)⟩,
    ⟨some 18, none, .bin .gtr (.t 17) (.c (.int .i64 1500))⟩] [0, 1, 18])
  (.cond (.t 18) (.seq (.region [⟨some 19, none, .call false 25 []⟩,
    ⟨some 4, none, .mov (.t 19)⟩] [4])
  .ret)
  .skip))
  (.seq (.region [⟨some 21, none, .mov (.t 0)⟩,
    ⟨some 22, none, .call false 26 [(.t 21)]⟩,
    ⟨some 20, none, .mov (.t 22)⟩,
    ⟨some 23, none, .ext (.t 20) 0⟩,
    ⟨some 24, none, .ext (.t 20) 1⟩,
    ⟨some 25, none, .ext (.t 20) 2⟩,
    ⟨some 6, none, .alloc [(.int .i64 0), (.int .i64 0)] 53⟩,
    ⟨some 5, none, .mov (.t 23)⟩,
    ⟨none, none, .store 2 (.t 6) (.t 24)⟩,
    ⟨some 7, none, .mov (.t 25)⟩] [0, 1, 5, 6, 7])
  (.seq (.seq (.region [⟨some 26, none, .mov (.t 7)⟩,
    ⟨some 27, none, .bin .neq (.t 26) (.c (.int .i64 0))⟩] [0, 1, 5, 6, 27])
  (.cond (.t 27) (.seq (.region [⟨some 28, none, .mov (.t 5)⟩,
    ⟨some 29, none, .lensl (.t 28)⟩,
    ⟨some 30, none, .bin .eql (.t 29) (.c (.int .i64 0))⟩,
    ⟨some 31, none, .mov (.t 30)⟩,
    ⟨some 32, (some (31, true)), .faddr 0 (.t 6)⟩,
    ⟨some 33, (some (31, true)), .load none (.t 32)⟩,
    ⟨some 34, (some (31, true)), .bin .gtr (.t 33) (.c (.int .i64 0))⟩,
    ⟨some 35, none, .pick (.t 31) (.t 34) (.c (.bool false))⟩,
    ⟨some 36, none, .mov (.t 35)⟩,
    ⟨some 37, (some (36, true)), .faddr 1 (.t 6)⟩,
    ⟨some 38, (some (36, true)), .load none (.t 37)⟩,
    ⟨some 39, (some (36, true)), .bin .gtr (.t 38) (.c (.int .i64 0))⟩,
    ⟨some 40, none, .pick (.t 36) (.t 39) (.c (.bool false))⟩,
    ⟨some 41, none, .mov (.t 40)⟩,
    ⟨some 42, (some (41, true)), .call false 25 []⟩,
    ⟨some 43, none, .pick (.t 41) (.t 42) (.c (.bool false))⟩,
    ⟨some 4, none, .mov (.t 43)⟩] [4])
  .ret)
  .skip))
  (.seq (.seq (.region [⟨some 44, none, .mov (.t 5)⟩,
    ⟨some 45, none, .lensl (.t 44)⟩,
    ⟨some 46, none, .bin .eql (.t 45) (.c (.int .i64 0))⟩,
    ⟨some 47, none, .mov (.t 46)⟩,
    ⟨some 48, (some (47, false)), .load (some 2) (.t 6)⟩,
    ⟨some 49, (some (47, false)), .build [(.int .i64 0), (.int .i64 0)] []⟩,
    ⟨some 50, (some (47, false)), .eqb true (.fields [(0, 1, false, (.scalar .i)), (1, 1, false, (.scalar .i))]) (.t 48) (.t 49)⟩,
    ⟨some 51, none, .pick (.t 47) (.c (.bool true)) (.t 50)⟩] [0, 1, 5, 51])
  (.cond (.t 51) (.seq (.region [⟨some 4, none, .mov (.c (.bool false))⟩] [4])
  .ret)
  .skip))
  (.seq (.region [⟨some 52, none, .bslice 9 1 [(.str [])] 4 [(0, (.c (.str [32]))), (1, (.c (.str [10]))), (2, (.c (.str [9, 32]))), (3, (.c (.str [32, 35, 59, 10])))]⟩,
    ⟨some 8, none, .mov (.t 52)⟩] [0, 1, 5, 8])
  (.seq (.region [⟨some 53, none, .mov (.t 8)⟩,
    ⟨some 54, none, .mov (.t 1)⟩,
    ⟨some 55, none, .cvi .i64 (.t 54)⟩,
    ⟨some 56, none, .mov (.t 8)⟩,
    ⟨some 57, none, .lensl (.t 56)⟩,
    ⟨some 58, none, .bin .rem (.t 55) (.t 57)⟩,
    ⟨some 59, none, .idxas 1 (.t 53) (.t 58)⟩,
    ⟨some 60, none, .load none (.t 59)⟩,
    ⟨some 9, none, .mov (.t 60)⟩] [0, 5, 9])
  (.seq (.region [⟨some 10, none, .mov (.c (.str []))⟩] [0, 5, 9, 10])
  (.seq (.seq (.region [⟨some 11, none, .mov (.c (.int .i64 0))⟩] [0, 5, 9, 10, 11])
  (.block 0 (.loop [0, 5, 9, 10, 11] i6_L0)))
  (.seq (.region [⟨some 77, none, .mov (.t 10)⟩,
    ⟨some 78, none, .mov (.t 9)⟩,
    ⟨some 79, none, .bin .add (.t 77) (.t 78)⟩,
    ⟨some 10, none, .mov (.t 79)⟩] [0, 5, 10])
  (.seq (.seq (.region [⟨some 80, none, .mov (.t 10)⟩,
    ⟨some 81, none, .lenstr (.t 80)⟩,
    ⟨some 82, none, .bin .gtr (.t 81) (.c (.int .i64 4096))⟩] [0, 5, 10, 82])
  (.cond (.t 82) (.seq (.region [⟨some 83, none, .call false 25 []⟩,
    ⟨some 4, none, .mov (.t 83)⟩] [4])
  .ret)
  .skip))
  (.seq (.region [⟨some 85, none, .mov (.t 10)⟩,
    ⟨some 86, none, .call false 26 [(.t 85)]⟩,
    ⟨some 84, none, .mov (.t 86)⟩,
    ⟨some 87, none, .ext (.t 84) 0⟩,
    ⟨some 88, none, .ext (.t 84) 1⟩,
    ⟨some 89, none, .ext (.t 84) 2⟩,
    ⟨some 13, none, .alloc [(.int .i64 0), (.int .i64 0)] 53⟩,
    ⟨some 12, none, .mov (.t 87)⟩,
    ⟨none, none, .store 2 (.t 13) (.t 88)⟩,
    ⟨some 14, none, .mov (.t 89)⟩] [0, 5, 12, 14])
  (.seq (.seq (.region [⟨some 90, none, .mov (.t 14)⟩,
    ⟨some 91, none, .bin .neq (.t 90) (.c (.int .i64 0))⟩,
    ⟨some 92, none, .mov (.t 91)⟩,
    ⟨some 93, (some (92, false)), .mov (.t 12)⟩,
    ⟨some 94, (some (92, false)), .lensl (.t 93)⟩,
    ⟨some 95, (some (92, false)), .mov (.t 5)⟩,
    ⟨some 96, (some (92, false)), .lensl (.t 95)⟩,
    ⟨some 97, (some (92, false)), .bin .neq (.t 94) (.t 96)⟩,
    ⟨some 98, none, .pick (.t 92) (.c (.bool true)) (.t 97)⟩] [0, 5, 12, 98])
  (.cond (.t 98) (.seq (.region [⟨some 4, none, .mov (.c (.bool false))⟩] [4])
  .ret)
  .skip))
  (.seq (.seq (.region [⟨some 15, none, .mov (.c (.int .i64 0))⟩] [0, 5, 12, 15])
  (.block 2 (.loop [0, 5, 12, 15] i6_L1)))
  (.seq (.region [⟨some 151, none, .call false 25 []⟩,
    ⟨some 4, none, .mov (.t 151)⟩] [4])
  .ret)))))))))))))))⟩

def i7_L0 : ACode :=
  (.seq (.seq (.region [⟨some 30, none, .mov (.t 9)⟩,
    ⟨some 31, none, .mov (.t 8)⟩,
    ⟨some 32, none, .lensl (.t 31)⟩,
    ⟨some 33, none, .bin .lss (.t 30) (.t 32)⟩] [1, 3, 5, 6, 8, 9, 33])
  (.cond (.t 33) .skip
  (.exit 0)))
  (.seq (.block 1 (.region [⟨some 36, none, .mov (.t 8)⟩,
    ⟨some 37, none, .mov (.t 9)⟩,
    ⟨some 38, none, .idxas 1 (.t 36) (.t 37)⟩,
    ⟨none, none, .store 1 (.t 38) (.c (.int .u8 32))⟩] [1, 3, 5, 6, 8, 9]))
  (.region [⟨some 34, none, .mov (.t 9)⟩,
    ⟨some 35, none, .bin .add (.t 34) (.c (.int .i64 1))⟩,
    ⟨some 9, none, .mov (.t 35)⟩] [1, 3, 5, 6, 8, 9])))

/-- troth/trothlaw02.LexLimits -/
def i7 : AFunc := ⟨0, 98, [.tmp 0],
  (.seq (.region [⟨some 0, none, .mov (.c (.bool false))⟩] [])
  (.seq (.region [⟨some 17, none, .call false 26 [(.c (.str [49, 56, 52, 52, 54, 55, 52, 52, 48, 55, 51, 55, 48, 57, 53, 53, 49, 54, 49, 53]))]⟩,
    ⟨some 16, none, .mov (.t 17)⟩,
    ⟨some 18, none, .ext (.t 16) 0⟩,
    ⟨some 19, none, .ext (.t 16) 1⟩,
    ⟨some 20, none, .ext (.t 16) 2⟩,
    ⟨some 2, none, .alloc [(.int .i64 0), (.int .i64 0)] 53⟩,
    ⟨some 1, none, .mov (.t 18)⟩,
    ⟨none, none, .store 2 (.t 2) (.t 19)⟩,
    ⟨some 3, none, .mov (.t 20)⟩] [1, 3])
  (.seq (.region [⟨some 22, none, .call false 26 [(.c (.str [97, 32, 49, 56, 52, 52, 54, 55, 52, 52, 48, 55, 51, 55, 48, 57, 53, 53, 49, 54, 49, 54]))]⟩,
    ⟨some 21, none, .mov (.t 22)⟩,
    ⟨some 23, none, .ext (.t 21) 0⟩,
    ⟨some 24, none, .ext (.t 21) 1⟩,
    ⟨some 25, none, .ext (.t 21) 2⟩,
    ⟨some 5, none, .alloc [(.int .i64 0), (.int .i64 0)] 53⟩,
    ⟨some 4, none, .mov (.t 23)⟩,
    ⟨none, none, .store 2 (.t 5) (.t 24)⟩,
    ⟨some 6, none, .mov (.t 25)⟩] [1, 3, 5, 6])
  (.seq (.region [⟨some 26, none, .mkbs 1 1 [(.int .u8 0)] 5 (.c (.int .i64 4096))⟩,
    ⟨some 27, none, .cvb2s (.t 26)⟩,
    ⟨some 7, none, .mov (.t 27)⟩] [1, 3, 5, 6, 7])
  (.seq (.region [⟨some 28, none, .mov (.t 7)⟩,
    ⟨some 29, none, .cvs2b 5 (.t 28)⟩,
    ⟨some 8, none, .mov (.t 29)⟩] [1, 3, 5, 6, 8])
  (.seq (.seq (.region [⟨some 9, none, .mov (.c (.int .i64 0))⟩] [1, 3, 5, 6, 8, 9])
  (.block 0 (.loop [1, 3, 5, 6, 8, 9] i7_L0)))
  (.seq (.region [⟨some 40, none, .mov (.t 8)⟩,
    ⟨some 41, none, .cvb2s (.t 40)⟩,
    ⟨some 42, none, .call false 26 [(.t 41)]⟩,
    ⟨some 39, none, .mov (.t 42)⟩,
    ⟨some 43, none, .ext (.t 39) 0⟩,
    ⟨some 44, none, .ext (.t 39) 1⟩,
    ⟨some 45, none, .ext (.t 39) 2⟩,
    ⟨some 11, none, .alloc [(.int .i64 0), (.int .i64 0)] 53⟩,
    ⟨some 10, none, .mov (.t 43)⟩,
    ⟨none, none, .store 2 (.t 11) (.t 44)⟩,
    ⟨some 12, none, .mov (.t 45)⟩] [1, 3, 5, 6, 8, 10, 12])
  (.seq (.region [⟨some 47, none, .mov (.t 8)⟩,
    ⟨some 48, none, .cvb2s (.t 47)⟩,
    ⟨some 49, none, .bin .add (.t 48) (.c (.str [32]))⟩,
    ⟨some 50, none, .call false 26 [(.t 49)]⟩,
    ⟨some 46, none, .mov (.t 50)⟩,
    ⟨some 51, none, .ext (.t 46) 0⟩,
    ⟨some 52, none, .ext (.t 46) 1⟩,
    ⟨some 53, none, .ext (.t 46) 2⟩,
    ⟨some 14, none, .alloc [(.int .i64 0), (.int .i64 0)] 53⟩,
    ⟨some 13, none, .mov (.t 51)⟩,
    ⟨none, none, .store 2 (.t 14) (.t 52)⟩,
    ⟨some 15, none, .mov (.t 53)⟩] [1, 3, 5, 6, 10, 12, 14, 15])
  (.seq (.region [⟨some 54, none, .mov (.t 3)⟩,
    ⟨some 55, none, .bin .eql (.t 54) (.c (.int .i64 0))⟩,
    ⟨some 56, none, .mov (.t 55)⟩,
    ⟨some 57, (some (56, true)), .mov (.t 1)⟩,
    ⟨some 58, (some (56, true)), .lensl (.t 57)⟩,
    ⟨some 59, (some (56, true)), .bin .eql (.t 58) (.c (.int .i64 2))⟩,
    ⟨some 60, none, .pick (.t 56) (.t 59) (.c (.bool false))⟩,
    ⟨some 61, none, .mov (.t 60)⟩,
    ⟨some 62, (some (61, true)), .mov (.t 1)⟩,
    ⟨some 63, (some (61, true)), .idxas 5 (.t 62) (.c (.int .i64 0))⟩,
    ⟨some 64, (some (61, true)), .faddr 2 (.t 63)⟩,
    ⟨some 65, (some (61, true)), .load none (.t 64)⟩,
    ⟨some 66, (some (61, true)), .bin .eql (.t 65) (.c (.int .u64 18446744073709551615))⟩,
    ⟨some 67, none, .pick (.t 61) (.t 66) (.c (.bool false))⟩,
    ⟨some 68, none, .mov (.t 67)⟩,
    ⟨some 69, (some (68, true)), .mov (.t 6)⟩,
    ⟨some 70, (some (68, true)), .bin .eql (.t 69) (.c (.int .i64 4))⟩,
    ⟨some 71, none, .pick (.t 68) (.t 70) (.c (.bool false))⟩,
    ⟨some 72, none, .mov (.t 71)⟩,
    ⟨some 73, (some (72, true)), .load (some 2) (.t 5)⟩,
    ⟨some 74, (some (72, true)), .build [(.int .i64 0), (.int .i64 0)] [(0, 1, (.c (.int .i64 1))), (1, 1, (.c (.int .i64 3)))]⟩,
    ⟨some 75, (some (72, true)), .eqb false (.fields [(0, 1, false, (.scalar .i)), (1, 1, false, (.scalar .i))]) (.t 73) (.t 74)⟩,
    ⟨some 76, none, .pick (.t 72) (.t 75) (.c (.bool false))⟩,
    ⟨some 77, none, .mov (.t 76)⟩,
    ⟨some 78, (some (77, true)), .mov (.t 12)⟩,
    ⟨some 79, (some (77, true)), .bin .eql (.t 78) (.c (.int .i64 0))⟩,
    ⟨some 80, none, .pick (.t 77) (.t 79) (.c (.bool false))⟩,
    ⟨some 81, none, .mov (.t 80)⟩,
    ⟨some 82, (some (81, true)), .mov (.t 10)⟩,
    ⟨some 83, (some (81, true)), .lensl (.t 82)⟩,
    ⟨some 84, (some (81, true)), .bin .eql (.t 83) (.c (.int .i64 1))⟩,
    ⟨some 85, none, .pick (.t 81) (.t 84) (.c (.bool false))⟩,
    ⟨some 86, none, .mov (.t 85)⟩,
    ⟨some 87, (some (86, true)), .mov (.t 15)⟩,
    ⟨some 88, (some (86, true)), .bin .eql (.t 87) (.c (.int .i64 4))⟩,
    ⟨some 89, none, .pick (.t 86) (.t 88) (.c (.bool false))⟩,
    ⟨some 90, none, .mov (.t 89)⟩,
    ⟨some 91, (some (90, true)), .load (some 2) (.t 14)⟩,
    ⟨some 92, (some (90, true)), .build [(.int .i64 0), (.int .i64 0)] [(0, 1, (.c (.int .i64 1))), (1, 1, (.c (.int .i64 1)))]⟩,
    ⟨some 93, (some (90, true)), .eqb false (.fields [(0, 1, false, (.scalar .i)), (1, 1, false, (.scalar .i))]) (.t 91) (.t 92)⟩,
    ⟨some 94, none, .pick (.t 90) (.t 93) (.c (.bool false))⟩,
    ⟨some 95, none, .mov (.t 94)⟩,
    ⟨some 96, (some (95, true)), .call false 25 []⟩,
    ⟨some 97, none, .pick (.t 95) (.t 96) (.c (.bool false))⟩,
    ⟨some 0, none, .mov (.t 97)⟩] [0])
  .ret)))))))))⟩

def i8_L0 : ACode :=
  (.seq (.seq (.region [⟨some 36, none, .mov (.t 9)⟩,
    ⟨some 37, none, .mov (.t 8)⟩,
    ⟨some 38, none, .lensl (.t 37)⟩,
    ⟨some 39, none, .bin .lss (.t 36) (.t 38)⟩] [2, 8, 9, 39])
  (.cond (.t 39) .skip
  (.exit 1)))
  (.seq (.block 2 (.seq (.draw [⟨some 42, none, .mov (.t 8)⟩,
    ⟨some 43, none, .mov (.t 9)⟩,
    ⟨some 44, none, .bin .sub (.t 43) (.c (.int .i64 1))⟩,
    ⟨some 45, none, .idxas 1 (.t 42) (.t 44)⟩,
    ⟨some 46, none, .load none (.t 45)⟩,
    ⟨some 47, none, .mov (.t 8)⟩,
    ⟨some 48, none, .mov (.t 9)⟩,
    ⟨some 49, none, .idxas 1 (.t 47) (.t 48)⟩,
    ⟨some 50, none, .load none (.t 49)⟩,
    ⟨some 51, none, .bin .geq (.t 46) (.t 50)⟩] [[], [], [1], [0, 1, 2], [0, 1, 2, 3], [], [], [5, 6], [5, 6, 7], [0, 1, 2, 3, 4, 5, 6, 7, 8]] [2, 8, 9, 51])
  (.cond (.t 51) (.seq (.region [⟨some 6, none, .mov (.c (.bool false))⟩] [6])
  .ret)
  .skip)))
  (.region [⟨some 40, none, .mov (.t 9)⟩,
    ⟨some 41, none, .bin .add (.t 40) (.c (.int .i64 1))⟩,
    ⟨some 9, none, .mov (.t 41)⟩] [2, 8, 9])))

def i8_L1 : ACode :=
  (.seq (.seq (.region [⟨some 52, none, .mov (.t 11)⟩,
    ⟨some 53, none, .mov (.t 2)⟩,
    ⟨some 54, none, .cvi .i64 (.t 53)⟩,
    ⟨some 55, none, .bin .rem (.t 54) (.c (.int .i64 20))⟩,
    ⟨some 56, none, .bin .lss (.t 52) (.t 55)⟩] [2, 10, 11, 56])
  (.cond (.t 56) .skip
  (.exit 3)))
  (.seq (.block 4 (.region [⟨some 59, none, .build [(.int .u8 0), (.int .u8 0), (.int .u64 0), (.int .u8 0), (.int .u8 0), (.int .u8 0), .nilp, .nilp] []⟩,
    ⟨some 60, none, .ibox (.t 59)⟩,
    ⟨some 61, none, .mov (.t 10)⟩,
    ⟨some 62, none, .build [(.int .u8 0), (.int .u8 0), (.int .u8 0), (.int .u8 0), .nilp, .nilp, (.sl 8 [] .exact), (.sl 8 [] .exact)] [(0, 1, (.c (.int .u8 9))), (4, 1, (.t 60)), (6, 1, (.t 61))]⟩,
    ⟨some 63, none, .bslice 72 8 [(.int .u8 0), (.int .u8 0), (.int .u8 0), (.int .u8 0), .nilp, .nilp, (.sl 8 [] .exact), (.sl 8 [] .exact)] 1 [(0, (.t 62))]⟩,
    ⟨some 10, none, .mov (.t 63)⟩] [2, 10, 11]))
  (.region [⟨some 57, none, .mov (.t 11)⟩,
    ⟨some 58, none, .bin .add (.t 57) (.c (.int .i64 1))⟩,
    ⟨some 11, none, .mov (.t 58)⟩] [2, 10, 11])))

/-- troth/trothlaw04.ProgModes -/
def i8 : AFunc := ⟨3, 85, [.tmp 6],
  (.seq (.region [⟨some 6, none, .mov (.c (.bool false))⟩] [0, 1, 2])
  (.seq (.region [⟨some 7, none, .mov (.c (.int .i64 0))⟩] [0, 1, 2, 7])
  (.seq (.seq (.region [⟨some 14, none, .mov (.t 1)⟩] [0, 1, 2, 7, 14])
  (.block 0 (.seq (.seq (.region [⟨some 16, none, .bin .eql (.t 14) (.c (.int .u8 2))⟩,
    ⟨some 15, none, .mov (.t 16)⟩] [0, 1, 2, 7, 14, 15])
  (.cond (.t 15) .skip
  (.region [⟨some 17, none, .bin .eql (.t 14) (.c (.int .u8 3))⟩,
    ⟨some 15, none, .mov (.t 17)⟩] [0, 1, 2, 7, 14, 15])))
  (.cond (.t 15) (.region [⟨some 7, none, .mov (.c (.int .i64 3))⟩] [0, 1, 2, 7])
  (.seq (.seq (.region [⟨some 19, none, .bin .eql (.t 14) (.c (.int .u8 4))⟩,
    ⟨some 18, none, .mov (.t 19)⟩] [0, 1, 2, 7, 14, 18])
  (.cond (.t 18) .skip
  (.seq (.region [⟨some 20, none, .bin .eql (.t 14) (.c (.int .u8 5))⟩,
    ⟨some 18, none, .mov (.t 20)⟩] [0, 1, 2, 7, 14, 18])
  (.cond (.t 18) .skip
  (.seq (.region [⟨some 21, none, .bin .eql (.t 14) (.c (.int .u8 6))⟩,
    ⟨some 18, none, .mov (.t 21)⟩] [0, 1, 2, 7, 14, 18])
  (.cond (.t 18) .skip
  (.region [⟨some 22, none, .bin .eql (.t 14) (.c (.int .u8 7))⟩,
    ⟨some 18, none, .mov (.t 22)⟩] [0, 1, 2, 7, 18])))))))
  (.cond (.t 18) (.region [⟨some 7, none, .mov (.c (.int .i64 4))⟩] [0, 1, 2, 7])
  .skip))))))
  (.seq (.region [⟨some 23, none, .mov (.t 1)⟩,
    ⟨some 24, none, .call false 29 [(.t 23)]⟩,
    ⟨some 8, none, .mov (.t 24)⟩] [0, 2, 7, 8])
  (.seq (.seq (.region [⟨some 25, none, .mov (.t 0)⟩,
    ⟨some 26, none, .call false 30 [(.t 25)]⟩,
    ⟨some 27, none, .mov (.t 0)⟩,
    ⟨some 28, none, .call false 31 [(.t 27)]⟩,
    ⟨some 29, none, .bin .neq (.t 26) (.t 28)⟩,
    ⟨some 30, none, .mov (.t 29)⟩,
    ⟨some 31, (some (30, false)), .mov (.t 8)⟩,
    ⟨some 32, (some (30, false)), .lensl (.t 31)⟩,
    ⟨some 33, (some (30, false)), .mov (.t 7)⟩,
    ⟨some 34, (some (30, false)), .bin .neq (.t 32) (.t 33)⟩,
    ⟨some 35, none, .pick (.t 30) (.c (.bool true)) (.t 34)⟩] [2, 8, 35])
  (.cond (.t 35) (.seq (.region [⟨some 6, none, .mov (.c (.bool false))⟩] [6])
  .ret)
  .skip))
  (.seq (.seq (.region [⟨some 9, none, .mov (.c (.int .i64 1))⟩] [2, 8, 9])
  (.block 1 (.loop [2, 8, 9] i8_L0)))
  (.seq (.region [⟨some 10, none, .mov (.c (.sl 8 [] .exact))⟩] [2, 10])
  (.seq (.seq (.region [⟨some 11, none, .mov (.c (.int .i64 0))⟩] [2, 10, 11])
  (.block 3 (.loop [2, 10, 11] i8_L1)))
  (.seq (.region [⟨some 12, none, .alloc [(.int .i64 0)] 3⟩,
    ⟨none, none, .store 1 (.t 12) (.c (.int .i64 0))⟩] [2, 10, 12])
  (.seq (.region [⟨some 64, none, .mov (.t 10)⟩,
    ⟨some 65, none, .mkfn (.func 33) [] [(.t 12)]⟩,
    ⟨some 66, none, .call true 32 [(.t 64), (.t 65)]⟩] [2, 10, 12])
  (.seq (.region [⟨some 67, none, .mov (.t 2)⟩,
    ⟨some 68, none, .cvi .i64 (.t 67)⟩,
    ⟨some 69, none, .bin .rem (.t 68) (.c (.int .i64 20))⟩,
    ⟨some 13, none, .mov (.t 69)⟩] [10, 12, 13])
  (.seq (.region [⟨some 70, none, .mov (.t 10)⟩,
    ⟨some 71, none, .call false 34 [(.t 70)]⟩,
    ⟨some 72, none, .mov (.t 13)⟩,
    ⟨some 73, none, .bin .add (.t 72) (.c (.int .i64 1))⟩,
    ⟨some 74, none, .min [(.t 73), (.c (.int .i64 9))]⟩,
    ⟨some 75, none, .bin .eql (.t 71) (.t 74)⟩,
    ⟨some 76, none, .mov (.t 75)⟩,
    ⟨some 77, (some (76, true)), .load none (.t 12)⟩,
    ⟨some 78, (some (76, true)), .mov (.t 13)⟩,
    ⟨some 79, (some (76, true)), .min [(.t 78), (.c (.int .i64 8))]⟩,
    ⟨some 80, (some (76, true)), .bin .eql (.t 77) (.t 79)⟩,
    ⟨some 81, none, .pick (.t 76) (.t 80) (.c (.bool false))⟩,
    ⟨some 82, none, .mov (.t 81)⟩,
    ⟨some 83, (some (82, true)), .call false 35 []⟩,
    ⟨some 84, none, .pick (.t 82) (.t 83) (.c (.bool false))⟩,
    ⟨some 6, none, .mov (.t 84)⟩] [6])
  .ret))))))))))))⟩

/-- troth/trothlaw04.ProgUnlike -/
def i9 : AFunc := ⟨2, 69, [.tmp 4],
  (.seq (.region [⟨some 2, none, .ibox (.t 0)⟩,
    ⟨some 3, none, .ibox (.t 1)⟩,
    ⟨some 4, none, .mov (.c (.bool false))⟩] [2, 3])
  (.seq (.seq (.region [⟨some 7, none, .load (some 4) (.t 2)⟩,
    ⟨some 8, none, .call false 36 [(.t 7)]⟩,
    ⟨some 9, none, .mov (.t 8)⟩,
    ⟨some 10, (some (9, false)), .load (some 4) (.t 3)⟩,
    ⟨some 11, (some (9, false)), .call false 36 [(.t 10)]⟩,
    ⟨some 12, none, .pick (.t 9) (.c (.bool true)) (.t 11)⟩,
    ⟨some 13, none, .mov (.t 12)⟩,
    ⟨some 14, (some (13, false)), .load (some 4) (.t 2)⟩,
    ⟨some 15, (some (13, false)), .call false 37 [(.t 14)]⟩,
    ⟨some 16, (some (13, false)), .un .not (.t 15)⟩,
    ⟨some 17, none, .pick (.t 13) (.c (.bool true)) (.t 16)⟩,
    ⟨some 18, none, .mov (.t 17)⟩,
    ⟨some 19, (some (18, false)), .load (some 4) (.t 3)⟩,
    ⟨some 20, (some (18, false)), .call false 37 [(.t 19)]⟩,
    ⟨some 21, (some (18, false)), .un .not (.t 20)⟩,
    ⟨some 22, none, .pick (.t 18) (.c (.bool true)) (.t 21)⟩,
    ⟨some 23, none, .mov (.t 22)⟩,
    ⟨some 24, (some (23, false)), .load (some 4) (.t 2)⟩,
    ⟨some 25, (some (23, false)), .call false 38 [(.t 24)]⟩,
    ⟨some 26, (some (23, false)), .un .not (.t 25)⟩,
    ⟨some 27, none, .pick (.t 23) (.c (.bool true)) (.t 26)⟩,
    ⟨some 28, none, .mov (.t 27)⟩,
    ⟨some 29, (some (28, false)), .load (some 4) (.t 3)⟩,
    ⟨some 30, (some (28, false)), .call false 38 [(.t 29)]⟩,
    ⟨some 31, (some (28, false)), .un .not (.t 30)⟩,
    ⟨some 32, none, .pick (.t 28) (.c (.bool true)) (.t 31)⟩] [2, 3, 32])
  (.cond (.t 32) (.seq (.region [⟨some 33, none, .call false 35 []⟩,
    ⟨some 4, none, .mov (.t 33)⟩] [4])
  .ret)
  .skip))
  (.seq (.draw [⟨some 34, none, .load (some 4) (.t 2)⟩,
    ⟨some 35, none, .call false 39 [(.t 34)]⟩,
    ⟨some 36, none, .load (some 4) (.t 3)⟩,
    ⟨some 37, none, .call false 39 [(.t 36)]⟩,
    ⟨some 5, none, .alloc [(.sl 2 [] .exact), (.sl 1 [] .exact), (.bool false), .nilp] 85⟩,
    ⟨some 6, none, .alloc [(.sl 2 [] .exact), (.sl 1 [] .exact), (.bool false), .nilp] 85⟩,
    ⟨none, none, .store 4 (.t 5) (.t 35)⟩,
    ⟨none, none, .store 4 (.t 6) (.t 37)⟩] [[], [0], [], [0, 1, 2], [], [], [0, 1, 2, 3, 4, 5], [0, 1, 2, 3, 4, 5, 6]] [5, 6])
  (.seq (.draw [⟨some 38, none, .load (some 4) (.t 5)⟩,
    ⟨some 39, none, .load (some 4) (.t 5)⟩,
    ⟨some 40, none, .call false 40 [(.t 38), (.t 39)]⟩,
    ⟨some 41, none, .mov (.t 40)⟩,
    ⟨some 42, (some (41, true)), .load (some 4) (.t 6)⟩,
    ⟨some 43, (some (41, true)), .load (some 4) (.t 6)⟩,
    ⟨some 44, (some (41, true)), .call false 40 [(.t 42), (.t 43)]⟩,
    ⟨some 45, none, .pick (.t 41) (.t 44) (.c (.bool false))⟩,
    ⟨some 46, none, .mov (.t 45)⟩,
    ⟨some 47, (some (46, true)), .load (some 4) (.t 5)⟩,
    ⟨some 48, (some (46, true)), .load (some 4) (.t 6)⟩,
    ⟨some 49, (some (46, true)), .call false 40 [(.t 47), (.t 48)]⟩,
    ⟨some 50, (some (46, true)), .load (some 4) (.t 5)⟩,
    ⟨some 51, (some (46, true)), .call false 41 [(.t 50)]⟩,
    ⟨some 52, (some (46, true)), .load (some 4) (.t 6)⟩,
    ⟨some 53, (some (46, true)), .call false 41 [(.t 52)]⟩,
    ⟨some 54, (some (46, true)), .bin .eql (.t 51) (.t 53)⟩,
    ⟨some 55, (some (46, true)), .eqb false (.scalar .b) (.t 49) (.t 54)⟩,
    ⟨some 56, none, .pick (.t 46) (.t 55) (.c (.bool false))⟩,
    ⟨some 57, none, .mov (.t 56)⟩,
    ⟨some 58, (some (57, true)), .load (some 4) (.t 6)⟩,
    ⟨some 59, (some (57, true)), .load (some 4) (.t 5)⟩,
    ⟨some 60, (some (57, true)), .call false 40 [(.t 58), (.t 59)]⟩,
    ⟨some 61, (some (57, true)), .load (some 4) (.t 5)⟩,
    ⟨some 62, (some (57, true)), .load (some 4) (.t 6)⟩,
    ⟨some 63, (some (57, true)), .call false 40 [(.t 61), (.t 62)]⟩,
    ⟨some 64, (some (57, true)), .eqb false (.scalar .b) (.t 60) (.t 63)⟩,
    ⟨some 65, none, .pick (.t 57) (.t 64) (.c (.bool false))⟩,
    ⟨some 66, none, .mov (.t 65)⟩,
    ⟨some 67, (some (66, true)), .call false 35 []⟩,
    ⟨some 68, none, .pick (.t 66) (.t 67) (.c (.bool false))⟩,
    ⟨some 4, none, .mov (.t 68)⟩] [[], [], [0, 1], [0, 1, 2], [0, 1, 2, 3], [0, 1, 2, 3], [0, 1, 2, 3, 4, 5], [0, 1, 2, 3, 4, 5, 6], [0, 1, 2, 3, 4, 5, 6, 7], [0, 1, 2, 3, 4, 5, 6, 7, 8], [0, 1, 2, 3, 4, 5, 6, 7, 8], [0, 1, 2, 3, 4, 5, 6, 7, 8, 9, 10], [0, 1, 2, 3, 4, 5, 6, 7, 8], [0, 1, 2, 3, 4, 5, 6, 7, 8, 9, 10, 11, 12], [0, 1, 2, 3, 4, 5, 6, 7, 8], [0, 1, 2, 3, 4, 5, 6, 7, 8, 9, 10, 11, 12, 13, 14], [0, 1, 2, 3, 4, 5, 6, 7, 8, 9, 10, 11, 12, 13, 14, 15], [0, 1, 2, 3, 4, 5, 6, 7, 8, 9, 10, 11, 12, 13, 14, 15, 16], [0, 1, 2, 3, 4, 5, 6, 7, 8, 9, 10, 11, 12, 13, 14, 15, 16, 17], [0, 1, 2, 3, 4, 5, 6, 7, 8, 9, 10, 11, 12, 13, 14, 15, 16, 17, 18], [0, 1, 2, 3, 4, 5, 6, 7, 8, 9, 10, 11, 12, 13, 14, 15, 16, 17, 18, 19], [0, 1, 2, 3, 4, 5, 6, 7, 8, 9, 10, 11, 12, 13, 14, 15, 16, 17, 18, 19], [0, 1, 2, 3, 4, 5, 6, 7, 8, 9, 10, 11, 12, 13, 14, 15, 16, 17, 18, 19, 20, 21], [0, 1, 2, 3, 4, 5, 6, 7, 8, 9, 10, 11, 12, 13, 14, 15, 16, 17, 18, 19], [0, 1, 2, 3, 4, 5, 6, 7, 8, 9, 10, 11, 12, 13, 14, 15, 16, 17, 18, 19], [0, 1, 2, 3, 4, 5, 6, 7, 8, 9, 10, 11, 12, 13, 14, 15, 16, 17, 18, 19, 20, 21, 22, 23, 24], [0, 1, 2, 3, 4, 5, 6, 7, 8, 9, 10, 11, 12, 13, 14, 15, 16, 17, 18, 19, 20, 21, 22, 23, 24, 25], [0, 1, 2, 3, 4, 5, 6, 7, 8, 9, 10, 11, 12, 13, 14, 15, 16, 17, 18, 19, 20, 21, 22, 23, 24, 25, 26], [0, 1, 2, 3, 4, 5, 6, 7, 8, 9, 10, 11, 12, 13, 14, 15, 16, 17, 18, 19, 20, 21, 22, 23, 24, 25, 26, 27], [0, 1, 2, 3, 4, 5, 6, 7, 8, 9, 10, 11, 12, 13, 14, 15, 16, 17, 18, 19, 20, 21, 22, 23, 24, 25, 26, 27, 28], [0, 1, 2, 3, 4, 5, 6, 7, 8, 9, 10, 11, 12, 13, 14, 15, 16, 17, 18, 19, 20, 21, 22, 23, 24, 25, 26, 27, 28, 29], [0, 1, 2, 3, 4, 5, 6, 7, 8, 9, 10, 11, 12, 13, 14, 15, 16, 17, 18, 19, 20, 21, 22, 23, 24, 25, 26, 27, 28, 29, 30]] [4])
  .ret))))⟩

/-- troth/trothlaw03.wakes -/
def i10 : AFunc := ⟨0, 48, [.tmp 0],
  (.seq (.region [⟨some 0, none, .mov (.c (.bool false))⟩] [])
  (.seq (.region [⟨some 6, none, .build [(.int .u8 0), (.int .u8 0), (.int .u64 0), (.int .u8 0), (.int .u8 0), (.int .u8 0), .nilp, .nilp] [(2, 1, (.c (.int .u64 1)))]⟩,
    ⟨some 7, none, .ibox (.t 6)⟩,
    ⟨some 8, none, .build [(.int .u8 0), (.int .u8 0), (.int .u64 0), (.int .u8 0), (.int .u8 0), (.int .u8 0), .nilp, .nilp] [(0, 1, (.c (.int .u8 1)))]⟩,
    ⟨some 9, none, .ibox (.t 8)⟩,
    ⟨some 1, none, .mov (.t 7)⟩,
    ⟨some 2, none, .mov (.t 9)⟩] [1, 2])
  (.seq (.region [⟨some 10, none, .mov (.t 1)⟩,
    ⟨some 11, none, .mov (.t 2)⟩,
    ⟨some 12, none, .build [(.int .u8 0), (.int .u8 0), (.int .u64 0), (.int .u8 0), (.int .u8 0), (.int .u8 0), .nilp, .nilp] [(0, 1, (.c (.int .u8 5))), (1, 1, (.c (.int .u8 5))), (6, 1, (.t 10)), (7, 1, (.t 11))]⟩,
    ⟨some 13, none, .ibox (.t 12)⟩,
    ⟨some 3, none, .mov (.t 13)⟩] [3])
  (.seq (.region [⟨some 14, none, .mov (.t 3)⟩,
    ⟨some 15, none, .build [(.int .u8 0), (.int .u8 0), (.int .u64 0), (.int .u8 0), (.int .u8 0), (.int .u8 0), .nilp, .nilp] [(2, 1, (.c (.int .u64 2)))]⟩,
    ⟨some 16, none, .ibox (.t 15)⟩,
    ⟨some 17, none, .build [(.int .u8 0), (.int .u8 0), (.int .u64 0), (.int .u8 0), (.int .u8 0), (.int .u8 0), .nilp, .nilp] [(0, 1, (.c (.int .u8 5))), (1, 1, (.c (.int .u8 9))), (6, 1, (.t 14)), (7, 1, (.t 16))]⟩,
    ⟨some 18, none, .ibox (.t 17)⟩,
    ⟨some 4, none, .mov (.t 18)⟩] [3, 4])
  (.seq (.region [⟨some 19, none, .mov (.t 4)⟩,
    ⟨some 20, none, .call true 18 [(.t 19), (.c (.fn (.func 42) [] []))]⟩,
    ⟨some 5, none, .mov (.t 20)⟩] [3, 4, 5])
  (.seq (.region [⟨some 21, none, .mov (.t 4)⟩,
    ⟨some 22, none, .call false 15 [(.t 21)]⟩,
    ⟨some 23, none, .bin .eql (.t 22) (.c (.str [40, 49, 32, 43, 32, 114, 48, 41, 32, 42, 32, 50]))⟩,
    ⟨some 24, none, .mov (.t 23)⟩,
    ⟨some 25, (some (24, true)), .mov (.t 5)⟩,
    ⟨some 26, (some (24, true)), .bin .eql (.t 25) (.c (.int .u64 42))⟩,
    ⟨some 27, none, .pick (.t 24) (.t 26) (.c (.bool false))⟩,
    ⟨some 28, none, .mov (.t 27)⟩,
    ⟨some 29, (some (28, true)), .mov (.t 4)⟩,
    ⟨some 30, (some (28, true)), .call false 24 [(.t 29)]⟩,
    ⟨some 31, (some (28, true)), .bin .eql (.t 30) (.c (.int .i64 3))⟩,
    ⟨some 32, none, .pick (.t 28) (.t 31) (.c (.bool false))⟩,
    ⟨some 33, none, .mov (.t 32)⟩,
    ⟨some 34, (some (33, true)), .mov (.t 4)⟩,
    ⟨some 35, (some (33, true)), .call false 16 [(.t 34)]⟩,
    ⟨some 36, none, .pick (.t 33) (.t 35) (.c (.bool false))⟩,
    ⟨some 37, none, .mov (.t 36)⟩,
    ⟨some 38, (some (37, true)), .mov (.t 4)⟩,
    ⟨some 39, (some (37, true)), .mov (.t 4)⟩,
    ⟨some 40, (some (37, true)), .call false 14 [(.t 38), (.t 39)]⟩,
    ⟨some 41, none, .pick (.t 37) (.t 40) (.c (.bool false))⟩,
    ⟨some 42, none, .mov (.t 41)⟩,
    ⟨some 43, (some (42, true)), .mov (.t 4)⟩,
    ⟨some 44, (some (42, true)), .mov (.t 3)⟩,
    ⟨some 45, (some (42, true)), .call false 14 [(.t 43), (.t 44)]⟩,
    ⟨some 46, (some (42, true)), .un .not (.t 45)⟩,
    ⟨some 47, none, .pick (.t 42) (.t 46) (.c (.bool false))⟩,
    ⟨some 0, none, .mov (.t 47)⟩] [0])
  .ret))))))⟩

/-- troth/trothlaw03.Good -/
def i11 : AFunc := ⟨1, 18, [.tmp 2, .tmp 3],
  (.seq (.region [⟨some 2, none, .mov (.c (.int .i64 0))⟩,
    ⟨some 3, none, .mov (.c (.bool false))⟩] [0])
  (.seq (.region [⟨some 7, none, .mov (.t 0)⟩,
    ⟨some 8, none, .call false 19 [(.t 7), (.c (.int .i64 0))]⟩,
    ⟨some 6, none, .mov (.t 8)⟩,
    ⟨some 9, none, .ext (.t 6) 0⟩,
    ⟨some 10, none, .ext (.t 6) 1⟩,
    ⟨some 4, none, .mov (.t 9)⟩,
    ⟨some 5, none, .mov (.t 10)⟩] [4, 5])
  (.seq (.region [⟨some 11, none, .mov (.t 4)⟩,
    ⟨some 12, none, .mov (.t 4)⟩,
    ⟨some 13, none, .bin .geq (.t 12) (.c (.int .i64 0))⟩,
    ⟨some 14, none, .mov (.t 13)⟩,
    ⟨some 15, (some (14, true)), .mov (.t 5)⟩,
    ⟨some 16, (some (14, true)), .bin .leq (.t 15) (.c (.int .i64 12))⟩,
    ⟨some 17, none, .pick (.t 14) (.t 16) (.c (.bool false))⟩,
    ⟨some 2, none, .mov (.t 11)⟩,
    ⟨some 3, none, .mov (.t 17)⟩] [2, 3])
  .ret)))⟩

/-- troth/trothlaw03.Of -/
def i12 : AFunc := ⟨3, 113, [.tmp 6, .tmp 7],
  (.seq (.region [⟨some 6, none, .mov (.c .nilp)⟩,
    ⟨some 7, none, .mov (.c (.int .i64 0))⟩] [0, 1, 2])
  (.seq (.seq (.region [⟨some 10, none, .mov (.t 1)⟩,
    ⟨some 11, none, .mov (.t 0)⟩,
    ⟨some 12, none, .lensl (.t 11)⟩,
    ⟨some 13, none, .bin .geq (.t 10) (.t 12)⟩,
    ⟨some 14, none, .mov (.t 13)⟩,
    ⟨some 15, (some (14, false)), .mov (.t 2)⟩,
    ⟨some 16, (some (14, false)), .bin .eql (.t 15) (.c (.int .i64 0))⟩,
    ⟨some 17, none, .pick (.t 14) (.c (.bool true)) (.t 16)⟩] [0, 1, 2, 17])
  (.cond (.t 17) (.seq (.region [⟨some 18, none, .mov (.t 1)⟩,
    ⟨some 6, none, .mov (.c .nilp)⟩,
    ⟨some 7, none, .mov (.t 18)⟩] [6, 7])
  .ret)
  .skip))
  (.seq (.region [⟨some 19, none, .mov (.t 0)⟩,
    ⟨some 20, none, .mov (.t 1)⟩,
    ⟨some 21, none, .idxas 6 (.t 19) (.t 20)⟩,
    ⟨some 22, none, .load (some 6) (.t 21)⟩,
    ⟨some 8, none, .alloc [(.int .u8 0), (.int .u8 0), (.int .u64 0), (.int .u8 0), (.int .u8 0), (.int .u8 0)] 32⟩,
    ⟨none, none, .store 6 (.t 8) (.t 22)⟩] [0, 1, 2, 8])
  (.seq (.region [⟨some 23, none, .faddr 0 (.t 8)⟩,
    ⟨some 24, none, .load none (.t 23)⟩,
    ⟨some 25, none, .build [(.int .u8 0), (.int .u8 0), (.int .u64 0), (.int .u8 0), (.int .u8 0), (.int .u8 0), .nilp, .nilp] [(0, 1, (.t 24))]⟩,
    ⟨some 26, none, .box 38 8 (.t 25)⟩,
    ⟨some 9, none, .mov (.t 26)⟩] [0, 1, 2, 8, 9])
  (.seq (.region [⟨some 27, none, .mov (.t 1)⟩,
    ⟨some 28, none, .bin .add (.t 27) (.c (.int .i64 1))⟩,
    ⟨some 1, none, .mov (.t 28)⟩] [0, 1, 2, 8, 9])
  (.seq (.seq (.region [⟨some 29, none, .faddr 0 (.t 8)⟩,
    ⟨some 30, none, .load none (.t 29)⟩] [0, 1, 2, 8, 9, 30])
  (.block 0 (.seq (.region [⟨some 32, none, .bin .eql (.t 30) (.c (.int .u8 0))⟩,
    ⟨some 31, none, .mov (.t 32)⟩] [0, 1, 2, 8, 9, 30, 31])
  (.cond (.t 31) (.region [⟨some 33, none, .mov (.t 9)⟩,
    ⟨some 34, none, .faddr 2 (.t 8)⟩,
    ⟨some 35, none, .load none (.t 34)⟩,
    ⟨some 36, none, .nilchk (.t 33)⟩,
    ⟨some 37, none, .faddr 2 (.t 36)⟩,
    ⟨none, none, .store 1 (.t 37) (.t 35)⟩] [1, 9])
  (.seq (.region [⟨some 39, none, .bin .eql (.t 30) (.c (.int .u8 1))⟩,
    ⟨some 38, none, .mov (.t 39)⟩] [0, 1, 2, 8, 9, 30, 38])
  (.cond (.t 38) (.region [⟨some 40, none, .mov (.t 9)⟩,
    ⟨some 41, none, .faddr 4 (.t 8)⟩,
    ⟨some 42, none, .load none (.t 41)⟩,
    ⟨some 43, none, .nilchk (.t 40)⟩,
    ⟨some 44, none, .faddr 4 (.t 43)⟩,
    ⟨none, none, .store 1 (.t 44) (.t 42)⟩] [1, 9])
  (.seq (.region [⟨some 46, none, .bin .eql (.t 30) (.c (.int .u8 2))⟩,
    ⟨some 45, none, .mov (.t 46)⟩] [0, 1, 2, 8, 9, 30, 45])
  (.cond (.t 45) (.draw [⟨some 47, none, .mov (.t 9)⟩,
    ⟨some 48, none, .mov (.t 9)⟩,
    ⟨some 49, none, .faddr 3 (.t 8)⟩,
    ⟨some 50, none, .load none (.t 49)⟩,
    ⟨some 51, none, .faddr 4 (.t 8)⟩,
    ⟨some 52, none, .load none (.t 51)⟩,
    ⟨some 53, none, .nilchk (.t 47)⟩,
    ⟨some 54, none, .faddr 3 (.t 53)⟩,
    ⟨none, none, .store 1 (.t 54) (.t 50)⟩,
    ⟨some 55, none, .nilchk (.t 48)⟩,
    ⟨some 56, none, .faddr 4 (.t 55)⟩,
    ⟨none, none, .store 1 (.t 56) (.t 52)⟩] [[], [], [], [2], [], [4], [0, 2, 3], [0, 2, 3, 6], [0, 2, 3, 6, 7], [0, 1, 2, 3, 4, 5, 6, 7, 8], [0, 1, 2, 3, 4, 5, 6, 7, 8, 9], [0, 1, 2, 3, 4, 5, 6, 7, 8, 9, 10]] [1, 9])
  (.seq (.region [⟨some 58, none, .bin .eql (.t 30) (.c (.int .u8 3))⟩,
    ⟨some 57, none, .mov (.t 58)⟩] [0, 1, 2, 8, 9, 30, 57])
  (.cond (.t 57) (.region [⟨some 59, none, .mov (.t 9)⟩,
    ⟨some 60, none, .faddr 5 (.t 8)⟩,
    ⟨some 61, none, .load none (.t 60)⟩,
    ⟨some 62, none, .nilchk (.t 59)⟩,
    ⟨some 63, none, .faddr 5 (.t 62)⟩,
    ⟨none, none, .store 1 (.t 63) (.t 61)⟩] [1, 9])
  (.seq (.region [⟨some 65, none, .bin .eql (.t 30) (.c (.int .u8 4))⟩,
    ⟨some 64, none, .mov (.t 65)⟩] [0, 1, 2, 8, 9, 30, 64])
  (.cond (.t 64) (.seq (.region [⟨some 66, none, .mov (.t 9)⟩,
    ⟨some 67, none, .faddr 1 (.t 8)⟩,
    ⟨some 68, none, .load none (.t 67)⟩,
    ⟨some 69, none, .nilchk (.t 66)⟩,
    ⟨some 70, none, .faddr 1 (.t 69)⟩,
    ⟨none, none, .store 1 (.t 70) (.t 68)⟩] [0, 1, 2, 9])
  (.region [⟨some 72, none, .mov (.t 9)⟩,
    ⟨some 73, none, .mov (.t 0)⟩,
    ⟨some 74, none, .mov (.t 1)⟩,
    ⟨some 75, none, .mov (.t 2)⟩,
    ⟨some 76, none, .bin .sub (.t 75) (.c (.int .i64 1))⟩,
    ⟨some 77, none, .call false 12 [(.t 73), (.t 74), (.t 76)]⟩,
    ⟨some 71, none, .mov (.t 77)⟩,
    ⟨some 78, none, .ext (.t 71) 0⟩,
    ⟨some 79, none, .ext (.t 71) 1⟩,
    ⟨some 80, none, .nilchk (.t 72)⟩,
    ⟨some 81, none, .faddr 6 (.t 80)⟩,
    ⟨none, none, .store 1 (.t 81) (.t 78)⟩,
    ⟨some 1, none, .mov (.t 79)⟩] [1, 9]))
  (.seq (.region [⟨some 83, none, .bin .eql (.t 30) (.c (.int .u8 5))⟩,
    ⟨some 82, none, .mov (.t 83)⟩] [0, 1, 2, 8, 9, 82])
  (.cond (.t 82) (.seq (.region [⟨some 84, none, .mov (.t 9)⟩,
    ⟨some 85, none, .faddr 1 (.t 8)⟩,
    ⟨some 86, none, .load none (.t 85)⟩,
    ⟨some 87, none, .nilchk (.t 84)⟩,
    ⟨some 88, none, .faddr 1 (.t 87)⟩,
    ⟨none, none, .store 1 (.t 88) (.t 86)⟩] [0, 1, 2, 9])
  (.seq (.region [⟨some 90, none, .mov (.t 9)⟩,
    ⟨some 91, none, .mov (.t 0)⟩,
    ⟨some 92, none, .mov (.t 1)⟩,
    ⟨some 93, none, .mov (.t 2)⟩,
    ⟨some 94, none, .bin .sub (.t 93) (.c (.int .i64 1))⟩,
    ⟨some 95, none, .call false 12 [(.t 91), (.t 92), (.t 94)]⟩,
    ⟨some 89, none, .mov (.t 95)⟩,
    ⟨some 96, none, .ext (.t 89) 0⟩,
    ⟨some 97, none, .ext (.t 89) 1⟩,
    ⟨some 98, none, .nilchk (.t 90)⟩,
    ⟨some 99, none, .faddr 6 (.t 98)⟩,
    ⟨none, none, .store 1 (.t 99) (.t 96)⟩,
    ⟨some 1, none, .mov (.t 97)⟩] [0, 1, 2, 9])
  (.region [⟨some 101, none, .mov (.t 9)⟩,
    ⟨some 102, none, .mov (.t 0)⟩,
    ⟨some 103, none, .mov (.t 1)⟩,
    ⟨some 104, none, .mov (.t 2)⟩,
    ⟨some 105, none, .bin .sub (.t 104) (.c (.int .i64 1))⟩,
    ⟨some 106, none, .call false 12 [(.t 102), (.t 103), (.t 105)]⟩,
    ⟨some 100, none, .mov (.t 106)⟩,
    ⟨some 107, none, .ext (.t 100) 0⟩,
    ⟨some 108, none, .ext (.t 100) 1⟩,
    ⟨some 109, none, .nilchk (.t 101)⟩,
    ⟨some 110, none, .faddr 7 (.t 109)⟩,
    ⟨none, none, .store 1 (.t 110) (.t 107)⟩,
    ⟨some 1, none, .mov (.t 108)⟩] [1, 9])))
  .skip))))))))))))))
  (.seq (.region [⟨some 111, none, .mov (.t 9)⟩,
    ⟨some 112, none, .mov (.t 1)⟩,
    ⟨some 6, none, .mov (.t 111)⟩,
    ⟨some 7, none, .mov (.t 112)⟩] [6, 7])
  .ret)))))))⟩

/-- troth/trothlaw03.alike -/
def i13 : AFunc := ⟨2, 52, [.tmp 4],
  (.seq (.region [⟨some 2, none, .ibox (.t 0)⟩,
    ⟨some 3, none, .ibox (.t 1)⟩,
    ⟨some 4, none, .mov (.c (.bool false))⟩] [2, 3])
  (.seq (.seq (.region [⟨some 5, none, .faddr 0 (.t 2)⟩,
    ⟨some 6, none, .load none (.t 5)⟩,
    ⟨some 7, none, .faddr 0 (.t 3)⟩,
    ⟨some 8, none, .load none (.t 7)⟩,
    ⟨some 9, none, .bin .neq (.t 6) (.t 8)⟩] [2, 3, 9])
  (.cond (.t 9) (.seq (.region [⟨some 4, none, .mov (.c (.bool false))⟩] [4])
  .ret)
  .skip))
  (.seq (.seq (.region [⟨some 10, none, .faddr 0 (.t 2)⟩,
    ⟨some 11, none, .load none (.t 10)⟩] [2, 3, 11])
  (.block 0 (.seq (.region [⟨some 13, none, .bin .eql (.t 11) (.c (.int .u8 0))⟩,
    ⟨some 12, none, .mov (.t 13)⟩] [2, 3, 11, 12])
  (.cond (.t 12) (.seq (.region [⟨some 14, none, .faddr 2 (.t 2)⟩,
    ⟨some 15, none, .load none (.t 14)⟩,
    ⟨some 16, none, .faddr 2 (.t 3)⟩,
    ⟨some 17, none, .load none (.t 16)⟩,
    ⟨some 18, none, .bin .eql (.t 15) (.t 17)⟩,
    ⟨some 4, none, .mov (.t 18)⟩] [4])
  .ret)
  (.seq (.region [⟨some 20, none, .bin .eql (.t 11) (.c (.int .u8 1))⟩,
    ⟨some 19, none, .mov (.t 20)⟩] [2, 3, 11, 19])
  (.cond (.t 19) (.seq (.region [⟨some 21, none, .faddr 4 (.t 2)⟩,
    ⟨some 22, none, .load none (.t 21)⟩,
    ⟨some 23, none, .faddr 4 (.t 3)⟩,
    ⟨some 24, none, .load none (.t 23)⟩,
    ⟨some 25, none, .bin .eql (.t 22) (.t 24)⟩,
    ⟨some 4, none, .mov (.t 25)⟩] [4])
  .ret)
  (.seq (.region [⟨some 27, none, .bin .eql (.t 11) (.c (.int .u8 2))⟩,
    ⟨some 26, none, .mov (.t 27)⟩] [2, 3, 11, 26])
  (.cond (.t 26) (.seq (.region [⟨some 28, none, .faddr 3 (.t 2)⟩,
    ⟨some 29, none, .load none (.t 28)⟩,
    ⟨some 30, none, .faddr 3 (.t 3)⟩,
    ⟨some 31, none, .load none (.t 30)⟩,
    ⟨some 32, none, .bin .eql (.t 29) (.t 31)⟩,
    ⟨some 33, none, .mov (.t 32)⟩,
    ⟨some 34, (some (33, true)), .faddr 4 (.t 2)⟩,
    ⟨some 35, (some (33, true)), .load none (.t 34)⟩,
    ⟨some 36, (some (33, true)), .faddr 4 (.t 3)⟩,
    ⟨some 37, (some (33, true)), .load none (.t 36)⟩,
    ⟨some 38, (some (33, true)), .bin .eql (.t 35) (.t 37)⟩,
    ⟨some 39, none, .pick (.t 33) (.t 38) (.c (.bool false))⟩,
    ⟨some 4, none, .mov (.t 39)⟩] [4])
  .ret)
  (.seq (.region [⟨some 41, none, .bin .eql (.t 11) (.c (.int .u8 3))⟩,
    ⟨some 40, none, .mov (.t 41)⟩] [2, 3, 40])
  (.cond (.t 40) (.seq (.region [⟨some 42, none, .faddr 5 (.t 2)⟩,
    ⟨some 43, none, .load none (.t 42)⟩,
    ⟨some 44, none, .faddr 5 (.t 3)⟩,
    ⟨some 45, none, .load none (.t 44)⟩,
    ⟨some 46, none, .bin .eql (.t 43) (.t 45)⟩,
    ⟨some 4, none, .mov (.t 46)⟩] [4])
  .ret)
  .skip))))))))))
  (.seq (.region [⟨some 47, none, .faddr 1 (.t 2)⟩,
    ⟨some 48, none, .load none (.t 47)⟩,
    ⟨some 49, none, .faddr 1 (.t 3)⟩,
    ⟨some 50, none, .load none (.t 49)⟩,
    ⟨some 51, none, .bin .eql (.t 48) (.t 50)⟩,
    ⟨some 4, none, .mov (.t 51)⟩] [4])
  .ret))))⟩

/-- troth/expr.Same -/
def i14 : AFunc := ⟨2, 16, [.tmp 4],
  (.seq (.region [⟨some 4, none, .mov (.c (.bool false))⟩] [0, 1])
  (.seq (.region [⟨some 5, none, .mov (.t 0)⟩,
    ⟨some 6, none, .call false 16 [(.t 5)]⟩,
    ⟨some 7, none, .mov (.t 6)⟩,
    ⟨some 8, (some (7, true)), .mov (.t 1)⟩,
    ⟨some 9, (some (7, true)), .call false 16 [(.t 8)]⟩,
    ⟨some 10, none, .pick (.t 7) (.t 9) (.c (.bool false))⟩,
    ⟨some 11, none, .mov (.t 10)⟩,
    ⟨some 12, (some (11, true)), .mov (.t 0)⟩,
    ⟨some 13, (some (11, true)), .mov (.t 1)⟩,
    ⟨some 14, (some (11, true)), .call false 43 [(.t 12), (.t 13)]⟩,
    ⟨some 15, none, .pick (.t 11) (.t 14) (.c (.bool false))⟩,
    ⟨some 4, none, .mov (.t 15)⟩] [4])
  .ret))⟩

/-- (*troth/expr.Expr).Text -/
def i15 : AFunc := ⟨1, 8, [.tmp 2],
  (.seq (.region [⟨some 2, none, .mov (.c (.str []))⟩] [0])
  (.seq (.seq (.region [⟨some 3, none, .mov (.t 0)⟩,
    ⟨some 4, none, .call false 16 [(.t 3)]⟩,
    ⟨some 5, none, .un .not (.t 4)⟩] [0, 5])
  (.cond (.t 5) (.seq (.region [⟨some 2, none, .mov (.c (.str []))⟩] [2])
  .ret)
  .skip))
  (.seq (.region [⟨some 6, none, .mov (.t 0)⟩,
    ⟨some 7, none, .call false 44 [(.t 6)]⟩,
    ⟨some 2, none, .mov (.t 7)⟩] [2])
  .ret)))⟩

/-- (*troth/expr.Expr).May -/
def i16 : AFunc := ⟨1, 10, [.tmp 2],
  (.seq (.region [⟨some 2, none, .mov (.c (.bool false))⟩] [0])
  (.seq (.region [⟨some 3, none, .mov (.t 0)⟩,
    ⟨some 4, none, .call false 24 [(.t 3)]⟩,
    ⟨some 5, none, .bin .leq (.t 4) (.c (.int .i64 12))⟩,
    ⟨some 6, none, .mov (.t 5)⟩,
    ⟨some 7, (some (6, true)), .mov (.t 0)⟩,
    ⟨some 8, (some (6, true)), .call false 45 [(.t 7)]⟩,
    ⟨some 9, none, .pick (.t 6) (.t 8) (.c (.bool false))⟩,
    ⟨some 2, none, .mov (.t 9)⟩] [2])
  .ret))⟩

/-- troth/trothlaw03.ExprTells$1 -/
def i17 : AFunc := ⟨3, 16, [.tmp 4],
  (.seq (.region [⟨some 3, none, .ibox (.t 0)⟩,
    ⟨some 4, none, .mov (.c (.int .u64 0))⟩] [1, 2])
  (.seq (.region [⟨some 5, none, .load none (.t 1)⟩,
    ⟨some 6, none, .bin .add (.t 5) (.c (.int .i64 1))⟩,
    ⟨none, none, .store 1 (.t 1) (.t 6)⟩] [1, 2])
  (.seq (.seq (.region [⟨some 7, none, .load none (.t 1)⟩,
    ⟨some 8, none, .load none (.t 2)⟩,
    ⟨some 9, none, .lensl (.t 8)⟩,
    ⟨some 10, none, .bin .leq (.t 7) (.t 9)⟩] [1, 2, 10])
  (.cond (.t 10) (.seq (.region [⟨some 11, none, .load none (.t 2)⟩,
    ⟨some 12, none, .load none (.t 1)⟩,
    ⟨some 13, none, .bin .sub (.t 12) (.c (.int .i64 1))⟩,
    ⟨some 14, none, .idxas 1 (.t 11) (.t 13)⟩,
    ⟨some 15, none, .load none (.t 14)⟩,
    ⟨some 4, none, .mov (.t 15)⟩] [4])
  .ret)
  .skip))
  (.seq (.region [⟨some 4, none, .mov (.c (.int .u64 0))⟩] [4])
  .ret))))⟩

/-- (*troth/expr.Expr).Eval -/
def i18 : AFunc := ⟨2, 11, [.tmp 4],
  (.seq (.region [⟨some 4, none, .mov (.c (.int .u64 0))⟩] [0, 1])
  (.seq (.seq (.region [⟨some 5, none, .mov (.t 0)⟩,
    ⟨some 6, none, .call false 16 [(.t 5)]⟩,
    ⟨some 7, none, .un .not (.t 6)⟩] [0, 1, 7])
  (.cond (.t 7) (.seq (.region [⟨some 4, none, .mov (.c (.int .u64 0))⟩] [4])
  .ret)
  .skip))
  (.seq (.region [⟨some 8, none, .mov (.t 0)⟩,
    ⟨some 9, none, .mov (.t 1)⟩,
    ⟨some 10, none, .call true 46 [(.t 8), (.t 9)]⟩,
    ⟨some 4, none, .mov (.t 10)⟩] [4])
  .ret)))⟩

def i19_L0 : ACode :=
  (.seq (.seq (.region [⟨some 31, none, .mov (.t 9)⟩,
    ⟨some 32, none, .mov (.t 6)⟩,
    ⟨some 33, none, .bin .lss (.t 31) (.t 32)⟩] [0, 6, 7, 8, 9, 33])
  (.cond (.t 33) .skip
  (.exit 0)))
  (.seq (.block 1 (.seq (.region [⟨some 37, none, .mov (.t 0)⟩,
    ⟨some 38, none, .mov (.t 7)⟩,
    ⟨some 39, none, .call false 19 [(.t 37), (.t 38)]⟩,
    ⟨some 36, none, .mov (.t 39)⟩,
    ⟨some 40, none, .ext (.t 36) 0⟩,
    ⟨some 41, none, .ext (.t 36) 1⟩,
    ⟨some 10, none, .mov (.t 40)⟩,
    ⟨some 11, none, .mov (.t 41)⟩] [0, 6, 8, 9, 10, 11])
  (.seq (.seq (.region [⟨some 42, none, .mov (.t 10)⟩,
    ⟨some 43, none, .bin .lss (.t 42) (.c (.int .i64 0))⟩] [0, 6, 8, 9, 10, 11, 43])
  (.cond (.t 43) (.seq (.region [⟨some 4, none, .mov (.c (.int .i64 (-1)))⟩,
    ⟨some 5, none, .mov (.c (.int .i64 0))⟩] [4, 5])
  .ret)
  .skip))
  (.seq (.region [⟨some 44, none, .mov (.t 10)⟩,
    ⟨some 7, none, .mov (.t 44)⟩] [0, 6, 7, 8, 9, 11])
  (.region [⟨some 45, none, .mov (.t 8)⟩,
    ⟨some 46, none, .mov (.t 11)⟩,
    ⟨some 47, none, .max [(.t 45), (.t 46)]⟩,
    ⟨some 8, none, .mov (.t 47)⟩] [0, 6, 7, 8, 9])))))
  (.region [⟨some 34, none, .mov (.t 9)⟩,
    ⟨some 35, none, .bin .add (.t 34) (.c (.int .i64 1))⟩,
    ⟨some 9, none, .mov (.t 35)⟩] [0, 6, 7, 8, 9])))

/-- troth/trothref03.End -/
def i19 : AFunc := ⟨2, 51, [.tmp 4, .tmp 5],
  (.seq (.region [⟨some 4, none, .mov (.c (.int .i64 0))⟩,
    ⟨some 5, none, .mov (.c (.int .i64 0))⟩] [0, 1])
  (.seq (.seq (.region [⟨some 12, none, .mov (.t 1)⟩,
    ⟨some 13, none, .mov (.t 0)⟩,
    ⟨some 14, none, .lensl (.t 13)⟩,
    ⟨some 15, none, .bin .geq (.t 12) (.t 14)⟩,
    ⟨some 16, none, .mov (.t 15)⟩,
    ⟨some 17, (some (16, false)), .mov (.t 0)⟩,
    ⟨some 18, (some (16, false)), .mov (.t 1)⟩,
    ⟨some 19, (some (16, false)), .idxas 6 (.t 17) (.t 18)⟩,
    ⟨some 20, (some (16, false)), .load (some 6) (.t 19)⟩,
    ⟨some 21, (some (16, false)), .call false 47 [(.t 20)]⟩,
    ⟨some 22, (some (16, false)), .bin .lss (.t 21) (.c (.int .i64 0))⟩,
    ⟨some 23, none, .pick (.t 16) (.c (.bool true)) (.t 22)⟩] [0, 1, 23])
  (.cond (.t 23) (.seq (.region [⟨some 4, none, .mov (.c (.int .i64 (-1)))⟩,
    ⟨some 5, none, .mov (.c (.int .i64 0))⟩] [4, 5])
  .ret)
  .skip))
  (.seq (.region [⟨some 24, none, .mov (.t 0)⟩,
    ⟨some 25, none, .mov (.t 1)⟩,
    ⟨some 26, none, .idxas 6 (.t 24) (.t 25)⟩,
    ⟨some 27, none, .load (some 6) (.t 26)⟩,
    ⟨some 28, none, .call false 47 [(.t 27)]⟩,
    ⟨some 6, none, .mov (.t 28)⟩] [0, 1, 6])
  (.seq (.region [⟨some 29, none, .mov (.t 1)⟩,
    ⟨some 30, none, .bin .add (.t 29) (.c (.int .i64 1))⟩,
    ⟨some 7, none, .mov (.t 30)⟩] [0, 6, 7])
  (.seq (.region [⟨some 8, none, .mov (.c (.int .i64 0))⟩] [0, 6, 7, 8])
  (.seq (.seq (.region [⟨some 9, none, .mov (.c (.int .i64 0))⟩] [0, 6, 7, 8, 9])
  (.block 0 (.loop [0, 6, 7, 8, 9] i19_L0)))
  (.seq (.region [⟨some 48, none, .mov (.t 7)⟩,
    ⟨some 49, none, .mov (.t 8)⟩,
    ⟨some 50, none, .bin .add (.t 49) (.c (.int .i64 1))⟩,
    ⟨some 4, none, .mov (.t 48)⟩,
    ⟨some 5, none, .mov (.t 50)⟩] [4, 5])
  .ret)))))))⟩

/-- troth/trothref03.Text -/
def i20 : AFunc := ⟨2, 120, [.tmp 4, .tmp 5],
  (.seq (.region [⟨some 4, none, .mov (.c (.str []))⟩,
    ⟨some 5, none, .mov (.c (.int .i64 0))⟩] [0, 1])
  (.seq (.region [⟨some 11, none, .mov (.t 0)⟩,
    ⟨some 12, none, .mov (.t 1)⟩,
    ⟨some 13, none, .idxas 6 (.t 11) (.t 12)⟩,
    ⟨some 14, none, .load (some 6) (.t 13)⟩,
    ⟨some 6, none, .alloc [(.int .u8 0), (.int .u8 0), (.int .u64 0), (.int .u8 0), (.int .u8 0), (.int .u8 0)] 32⟩,
    ⟨none, none, .store 6 (.t 6) (.t 14)⟩] [0, 1, 6])
  (.seq (.seq (.region [⟨some 15, none, .faddr 0 (.t 6)⟩,
    ⟨some 16, none, .load none (.t 15)⟩] [0, 1, 6, 16])
  (.block 0 (.seq (.region [⟨some 18, none, .bin .eql (.t 16) (.c (.int .u8 0))⟩,
    ⟨some 17, none, .mov (.t 18)⟩] [0, 1, 6, 16, 17])
  (.cond (.t 17) (.seq (.region [⟨some 19, none, .faddr 2 (.t 6)⟩,
    ⟨some 20, none, .load none (.t 19)⟩,
    ⟨some 21, none, .call false 48 [(.t 20)]⟩,
    ⟨some 22, none, .mov (.t 1)⟩,
    ⟨some 23, none, .bin .add (.t 22) (.c (.int .i64 1))⟩,
    ⟨some 4, none, .mov (.t 21)⟩,
    ⟨some 5, none, .mov (.t 23)⟩] [4, 5])
  .ret)
  (.seq (.region [⟨some 25, none, .bin .eql (.t 16) (.c (.int .u8 1))⟩,
    ⟨some 24, none, .mov (.t 25)⟩] [0, 1, 6, 16, 24])
  (.cond (.t 24) (.seq (.region [⟨some 26, none, .faddr 4 (.t 6)⟩,
    ⟨some 27, none, .load none (.t 26)⟩,
    ⟨some 28, none, .cvi .u64 (.t 27)⟩,
    ⟨some 29, none, .call false 48 [(.t 28)]⟩,
    ⟨some 30, none, .bin .add (.c (.str [114])) (.t 29)⟩,
    ⟨some 31, none, .mov (.t 1)⟩,
    ⟨some 32, none, .bin .add (.t 31) (.c (.int .i64 1))⟩,
    ⟨some 4, none, .mov (.t 30)⟩,
    ⟨some 5, none, .mov (.t 32)⟩] [4, 5])
  .ret)
  (.seq (.region [⟨some 34, none, .bin .eql (.t 16) (.c (.int .u8 2))⟩,
    ⟨some 33, none, .mov (.t 34)⟩] [0, 1, 6, 16, 33])
  (.cond (.t 33) (.seq (.draw [⟨some 35, none, .faddr 3 (.t 6)⟩,
    ⟨some 36, none, .load none (.t 35)⟩,
    ⟨some 37, none, .cvi .u64 (.t 36)⟩,
    ⟨some 38, none, .call false 48 [(.t 37)]⟩,
    ⟨some 39, none, .bin .add (.t 38) (.c (.str [58, 114]))⟩,
    ⟨some 40, none, .faddr 4 (.t 6)⟩,
    ⟨some 41, none, .load none (.t 40)⟩,
    ⟨some 42, none, .cvi .u64 (.t 41)⟩,
    ⟨some 43, none, .call false 48 [(.t 42)]⟩,
    ⟨some 44, none, .bin .add (.t 39) (.t 43)⟩,
    ⟨some 45, none, .mov (.t 1)⟩,
    ⟨some 46, none, .bin .add (.t 45) (.c (.int .i64 1))⟩,
    ⟨some 4, none, .mov (.t 44)⟩,
    ⟨some 5, none, .mov (.t 46)⟩] [[], [0], [0, 1], [0, 1, 2], [0, 1, 2, 3], [], [5], [5, 6], [0, 1, 2, 3, 5, 6, 7], [0, 1, 2, 3, 4, 5, 6, 7, 8], [], [10], [0, 1, 2, 3, 4, 5, 6, 7, 8, 9], [0, 1, 2, 3, 4, 5, 6, 7, 8, 9, 10, 11, 12]] [4, 5])
  .ret)
  (.seq (.region [⟨some 48, none, .bin .eql (.t 16) (.c (.int .u8 3))⟩,
    ⟨some 47, none, .mov (.t 48)⟩] [0, 1, 6, 47])
  (.cond (.t 47) (.seq (.region [⟨some 49, none, .faddr 5 (.t 6)⟩,
    ⟨some 50, none, .load none (.t 49)⟩,
    ⟨some 51, none, .bslice 5 1 [(.int .u8 0)] 1 [(0, (.t 50))]⟩,
    ⟨some 52, none, .cvb2s (.t 51)⟩,
    ⟨some 53, none, .mov (.t 1)⟩,
    ⟨some 54, none, .bin .add (.t 53) (.c (.int .i64 1))⟩,
    ⟨some 4, none, .mov (.t 52)⟩,
    ⟨some 5, none, .mov (.t 54)⟩] [4, 5])
  .ret)
  .skip))))))))))
  (.seq (.region [⟨some 56, none, .mov (.t 0)⟩,
    ⟨some 57, none, .mov (.t 1)⟩,
    ⟨some 58, none, .bin .add (.t 57) (.c (.int .i64 1))⟩,
    ⟨some 59, none, .call false 20 [(.t 56), (.t 58)]⟩,
    ⟨some 55, none, .mov (.t 59)⟩,
    ⟨some 60, none, .ext (.t 55) 0⟩,
    ⟨some 61, none, .ext (.t 55) 1⟩,
    ⟨some 7, none, .mov (.t 60)⟩,
    ⟨some 8, none, .mov (.t 61)⟩] [0, 1, 6, 7, 8])
  (.seq (.seq (.region [⟨some 62, none, .faddr 0 (.t 6)⟩,
    ⟨some 63, none, .load none (.t 62)⟩,
    ⟨some 64, none, .bin .eql (.t 63) (.c (.int .u8 4))⟩] [0, 1, 6, 7, 8, 64])
  (.cond (.t 64) (.seq (.seq (.region [⟨some 65, none, .mov (.t 0)⟩,
    ⟨some 66, none, .mov (.t 1)⟩,
    ⟨some 67, none, .bin .add (.t 66) (.c (.int .i64 1))⟩,
    ⟨some 68, none, .idxas 6 (.t 65) (.t 67)⟩,
    ⟨some 69, none, .load (some 6) (.t 68)⟩,
    ⟨some 70, none, .call false 49 [(.t 69)]⟩,
    ⟨some 71, none, .bin .lss (.t 70) (.c (.int .i64 4))⟩] [6, 7, 8, 71])
  (.cond (.t 71) (.region [⟨some 72, none, .mov (.t 7)⟩,
    ⟨some 73, none, .bin .add (.c (.str [40])) (.t 72)⟩,
    ⟨some 74, none, .bin .add (.t 73) (.c (.str [41]))⟩,
    ⟨some 7, none, .mov (.t 74)⟩] [6, 7, 8])
  .skip))
  (.seq (.region [⟨some 75, none, .faddr 1 (.t 6)⟩,
    ⟨some 76, none, .load none (.t 75)⟩,
    ⟨some 77, none, .call false 50 [(.t 76)]⟩,
    ⟨some 78, none, .mov (.t 7)⟩,
    ⟨some 79, none, .bin .add (.t 77) (.t 78)⟩,
    ⟨some 80, none, .mov (.t 8)⟩,
    ⟨some 4, none, .mov (.t 79)⟩,
    ⟨some 5, none, .mov (.t 80)⟩] [4, 5])
  .ret))
  .skip))
  (.seq (.region [⟨some 82, none, .mov (.t 0)⟩,
    ⟨some 83, none, .mov (.t 8)⟩,
    ⟨some 84, none, .call false 20 [(.t 82), (.t 83)]⟩,
    ⟨some 81, none, .mov (.t 84)⟩,
    ⟨some 85, none, .ext (.t 81) 0⟩,
    ⟨some 86, none, .ext (.t 81) 1⟩,
    ⟨some 9, none, .mov (.t 85)⟩,
    ⟨some 10, none, .mov (.t 86)⟩] [0, 1, 6, 7, 8, 9, 10])
  (.seq (.seq (.draw [⟨some 87, none, .mov (.t 0)⟩,
    ⟨some 88, none, .mov (.t 1)⟩,
    ⟨some 89, none, .bin .add (.t 88) (.c (.int .i64 1))⟩,
    ⟨some 90, none, .idxas 6 (.t 87) (.t 89)⟩,
    ⟨some 91, none, .load (some 6) (.t 90)⟩,
    ⟨some 92, none, .call false 49 [(.t 91)]⟩,
    ⟨some 93, none, .load (some 6) (.t 6)⟩,
    ⟨some 94, none, .call false 49 [(.t 93)]⟩,
    ⟨some 95, none, .bin .lss (.t 92) (.t 94)⟩] [[], [], [1], [0, 1, 2], [0, 1, 2, 3], [0, 1, 2, 3, 4], [], [0, 1, 2, 3, 4, 5, 6], [0, 1, 2, 3, 4, 5, 6, 7]] [0, 6, 7, 8, 9, 10, 95])
  (.cond (.t 95) (.region [⟨some 96, none, .mov (.t 7)⟩,
    ⟨some 97, none, .bin .add (.c (.str [40])) (.t 96)⟩,
    ⟨some 98, none, .bin .add (.t 97) (.c (.str [41]))⟩,
    ⟨some 7, none, .mov (.t 98)⟩] [0, 6, 7, 8, 9, 10])
  .skip))
  (.seq (.seq (.draw [⟨some 99, none, .mov (.t 0)⟩,
    ⟨some 100, none, .mov (.t 8)⟩,
    ⟨some 101, none, .idxas 6 (.t 99) (.t 100)⟩,
    ⟨some 102, none, .load (some 6) (.t 101)⟩,
    ⟨some 103, none, .call false 49 [(.t 102)]⟩,
    ⟨some 104, none, .load (some 6) (.t 6)⟩,
    ⟨some 105, none, .call false 49 [(.t 104)]⟩,
    ⟨some 106, none, .bin .leq (.t 103) (.t 105)⟩] [[], [], [0, 1], [0, 1, 2], [0, 1, 2, 3], [], [0, 1, 2, 3, 4, 5], [0, 1, 2, 3, 4, 5, 6]] [6, 7, 9, 10, 106])
  (.cond (.t 106) (.region [⟨some 107, none, .mov (.t 9)⟩,
    ⟨some 108, none, .bin .add (.c (.str [40])) (.t 107)⟩,
    ⟨some 109, none, .bin .add (.t 108) (.c (.str [41]))⟩,
    ⟨some 9, none, .mov (.t 109)⟩] [6, 7, 9, 10])
  .skip))
  (.seq (.region [⟨some 110, none, .mov (.t 7)⟩,
    ⟨some 111, none, .bin .add (.t 110) (.c (.str [32]))⟩,
    ⟨some 112, none, .faddr 1 (.t 6)⟩,
    ⟨some 113, none, .load none (.t 112)⟩,
    ⟨some 114, none, .call false 50 [(.t 113)]⟩,
    ⟨some 115, none, .bin .add (.t 111) (.t 114)⟩,
    ⟨some 116, none, .bin .add (.t 115) (.c (.str [32]))⟩,
    ⟨some 117, none, .mov (.t 9)⟩,
    ⟨some 118, none, .bin .add (.t 116) (.t 117)⟩,
    ⟨some 119, none, .mov (.t 10)⟩,
    ⟨some 4, none, .mov (.t 118)⟩,
    ⟨some 5, none, .mov (.t 119)⟩] [4, 5])
  .ret)))))))))⟩

/-- troth/trothref03.Value -/
def i21 : AFunc := ⟨4, 84, [.tmp 8, .tmp 9, .tmp 10],
  (.seq (.region [⟨some 8, none, .mov (.c (.int .u64 0))⟩,
    ⟨some 9, none, .mov (.c (.int .i64 0))⟩,
    ⟨some 10, none, .mov (.c (.int .i64 0))⟩] [0, 1, 2, 3])
  (.seq (.region [⟨some 18, none, .mov (.t 0)⟩,
    ⟨some 19, none, .mov (.t 1)⟩,
    ⟨some 20, none, .idxas 6 (.t 18) (.t 19)⟩,
    ⟨some 21, none, .load (some 6) (.t 20)⟩,
    ⟨some 11, none, .alloc [(.int .u8 0), (.int .u8 0), (.int .u64 0), (.int .u8 0), (.int .u8 0), (.int .u8 0)] 32⟩,
    ⟨none, none, .store 6 (.t 11) (.t 21)⟩] [0, 1, 2, 3, 11])
  (.seq (.seq (.region [⟨some 22, none, .faddr 0 (.t 11)⟩,
    ⟨some 23, none, .load none (.t 22)⟩,
    ⟨some 24, none, .bin .eql (.t 23) (.c (.int .u8 0))⟩] [0, 1, 2, 3, 11, 24])
  (.cond (.t 24) (.seq (.region [⟨some 25, none, .faddr 2 (.t 11)⟩,
    ⟨some 26, none, .load none (.t 25)⟩,
    ⟨some 27, none, .mov (.t 1)⟩,
    ⟨some 28, none, .bin .add (.t 27) (.c (.int .i64 1))⟩,
    ⟨some 29, none, .mov (.t 3)⟩,
    ⟨some 8, none, .mov (.t 26)⟩,
    ⟨some 9, none, .mov (.t 28)⟩,
    ⟨some 10, none, .mov (.t 29)⟩] [8, 9, 10])
  .ret)
  .skip))
  (.seq (.seq (.region [⟨some 30, none, .faddr 0 (.t 11)⟩,
    ⟨some 31, none, .load none (.t 30)⟩,
    ⟨some 32, none, .bin .lss (.t 31) (.c (.int .u8 4))⟩] [0, 1, 2, 3, 11, 32])
  (.cond (.t 32) (.seq (.seq (.region [⟨some 33, none, .mov (.t 3)⟩,
    ⟨some 34, none, .mov (.t 2)⟩,
    ⟨some 35, none, .lensl (.t 34)⟩,
    ⟨some 36, none, .bin .lss (.t 33) (.t 35)⟩] [1, 2, 3, 36])
  (.cond (.t 36) (.seq (.region [⟨some 37, none, .mov (.t 2)⟩,
    ⟨some 38, none, .mov (.t 3)⟩,
    ⟨some 39, none, .idxas 1 (.t 37) (.t 38)⟩,
    ⟨some 40, none, .load none (.t 39)⟩,
    ⟨some 41, none, .mov (.t 1)⟩,
    ⟨some 42, none, .bin .add (.t 41) (.c (.int .i64 1))⟩,
    ⟨some 43, none, .mov (.t 3)⟩,
    ⟨some 44, none, .bin .add (.t 43) (.c (.int .i64 1))⟩,
    ⟨some 8, none, .mov (.t 40)⟩,
    ⟨some 9, none, .mov (.t 42)⟩,
    ⟨some 10, none, .mov (.t 44)⟩] [8, 9, 10])
  .ret)
  .skip))
  (.seq (.region [⟨some 45, none, .mov (.t 1)⟩,
    ⟨some 46, none, .bin .add (.t 45) (.c (.int .i64 1))⟩,
    ⟨some 47, none, .mov (.t 3)⟩,
    ⟨some 48, none, .bin .add (.t 47) (.c (.int .i64 1))⟩,
    ⟨some 8, none, .mov (.c (.int .u64 0))⟩,
    ⟨some 9, none, .mov (.t 46)⟩,
    ⟨some 10, none, .mov (.t 48)⟩] [8, 9, 10])
  .ret))
  .skip))
  (.seq (.region [⟨some 50, none, .mov (.t 0)⟩,
    ⟨some 51, none, .mov (.t 1)⟩,
    ⟨some 52, none, .bin .add (.t 51) (.c (.int .i64 1))⟩,
    ⟨some 53, none, .mov (.t 2)⟩,
    ⟨some 54, none, .mov (.t 3)⟩,
    ⟨some 55, none, .call false 21 [(.t 50), (.t 52), (.t 53), (.t 54)]⟩,
    ⟨some 49, none, .mov (.t 55)⟩,
    ⟨some 56, none, .ext (.t 49) 0⟩,
    ⟨some 57, none, .ext (.t 49) 1⟩,
    ⟨some 58, none, .ext (.t 49) 2⟩,
    ⟨some 12, none, .mov (.t 56)⟩,
    ⟨some 13, none, .mov (.t 57)⟩,
    ⟨some 14, none, .mov (.t 58)⟩] [0, 2, 11, 12, 13, 14])
  (.seq (.seq (.region [⟨some 59, none, .faddr 0 (.t 11)⟩,
    ⟨some 60, none, .load none (.t 59)⟩,
    ⟨some 61, none, .bin .eql (.t 60) (.c (.int .u8 4))⟩] [0, 2, 11, 12, 13, 14, 61])
  (.cond (.t 61) (.seq (.region [⟨some 62, none, .faddr 1 (.t 11)⟩,
    ⟨some 63, none, .load none (.t 62)⟩,
    ⟨some 64, none, .mov (.t 12)⟩,
    ⟨some 65, none, .call false 51 [(.t 63), (.t 64)]⟩,
    ⟨some 66, none, .mov (.t 13)⟩,
    ⟨some 67, none, .mov (.t 14)⟩,
    ⟨some 8, none, .mov (.t 65)⟩,
    ⟨some 9, none, .mov (.t 66)⟩,
    ⟨some 10, none, .mov (.t 67)⟩] [8, 9, 10])
  .ret)
  .skip))
  (.seq (.region [⟨some 69, none, .mov (.t 0)⟩,
    ⟨some 70, none, .mov (.t 13)⟩,
    ⟨some 71, none, .mov (.t 2)⟩,
    ⟨some 72, none, .mov (.t 14)⟩,
    ⟨some 73, none, .call false 21 [(.t 69), (.t 70), (.t 71), (.t 72)]⟩,
    ⟨some 68, none, .mov (.t 73)⟩,
    ⟨some 74, none, .ext (.t 68) 0⟩,
    ⟨some 75, none, .ext (.t 68) 1⟩,
    ⟨some 76, none, .ext (.t 68) 2⟩,
    ⟨some 15, none, .mov (.t 74)⟩,
    ⟨some 16, none, .mov (.t 75)⟩,
    ⟨some 17, none, .mov (.t 76)⟩] [11, 12, 15, 16, 17])
  (.seq (.region [⟨some 77, none, .faddr 1 (.t 11)⟩,
    ⟨some 78, none, .load none (.t 77)⟩,
    ⟨some 79, none, .mov (.t 12)⟩,
    ⟨some 80, none, .mov (.t 15)⟩,
    ⟨some 81, none, .call false 52 [(.t 78), (.t 79), (.t 80)]⟩,
    ⟨some 82, none, .mov (.t 16)⟩,
    ⟨some 83, none, .mov (.t 17)⟩,
    ⟨some 8, none, .mov (.t 81)⟩,
    ⟨some 9, none, .mov (.t 82)⟩,
    ⟨some 10, none, .mov (.t 83)⟩] [8, 9, 10])
  .ret))))))))⟩

/-- (*troth/expr.Expr).Walk -/
def i22 : AFunc := ⟨2, 11, [],
  (.seq (.region [⟨some 3, none, .box 48 1 (.t 1)⟩] [0, 3])
  (.seq (.region [⟨some 5, none, .mkfn (.func 53) [] [(.t 3)]⟩,
    ⟨some 4, none, .mov (.t 5)⟩] [0, 4])
  (.seq (.region [⟨some 6, none, .mov (.t 0)⟩,
    ⟨some 7, none, .call false 16 [(.t 6)]⟩] [0, 4, 7])
  (.cond (.t 7) (.region [⟨some 8, none, .mov (.t 0)⟩,
    ⟨some 9, none, .mov (.t 4)⟩,
    ⟨some 10, none, .call true 54 [(.t 8), (.t 9)]⟩] [])
  .skip))))⟩

/-- troth/trothlaw03.ExprTells$2 -/
def i23 : AFunc := ⟨4, 37, [],
  (.seq (.region [⟨some 4, none, .ibox (.t 0)⟩] [1, 2, 3, 4])
  (.seq (.seq (.draw [⟨some 7, none, .load none (.t 1)⟩,
    ⟨some 8, none, .load none (.t 2)⟩,
    ⟨some 9, none, .lensl (.t 8)⟩,
    ⟨some 10, none, .bin .geq (.t 7) (.t 9)⟩,
    ⟨some 11, none, .mov (.t 10)⟩,
    ⟨some 12, (some (11, false)), .faddr 0 (.t 4)⟩,
    ⟨some 13, (some (11, false)), .load none (.t 12)⟩,
    ⟨some 14, (some (11, false)), .load none (.t 2)⟩,
    ⟨some 15, (some (11, false)), .load none (.t 1)⟩,
    ⟨some 16, (some (11, false)), .idxas 6 (.t 14) (.t 15)⟩,
    ⟨some 17, (some (11, false)), .faddr 0 (.t 16)⟩,
    ⟨some 18, (some (11, false)), .load none (.t 17)⟩,
    ⟨some 19, (some (11, false)), .bin .neq (.t 13) (.t 18)⟩,
    ⟨some 20, none, .pick (.t 11) (.c (.bool true)) (.t 19)⟩] [[], [], [1], [0, 1, 2], [0, 1, 2, 3], [0, 1, 2, 3, 4], [0, 1, 2, 3, 4, 5], [0, 1, 2, 3, 4], [0, 1, 2, 3, 4], [0, 1, 2, 3, 4, 7, 8], [0, 1, 2, 3, 4, 7, 8, 9], [0, 1, 2, 3, 4, 7, 8, 9, 10], [0, 1, 2, 3, 4, 5, 6, 7, 8, 9, 10, 11], [0, 1, 2, 3, 4, 5, 6, 7, 8, 9, 10, 11, 12]] [1, 2, 3, 4, 20])
  (.cond (.t 20) (.seq (.region [⟨none, none, .store 1 (.t 3) (.c (.bool false))⟩] [])
  .ret)
  .skip))
  (.seq (.region [⟨some 22, none, .load none (.t 2)⟩,
    ⟨some 23, none, .load none (.t 1)⟩,
    ⟨some 24, none, .call false 12 [(.t 22), (.t 23), (.c (.int .i64 2))]⟩,
    ⟨some 21, none, .mov (.t 24)⟩,
    ⟨some 25, none, .ext (.t 21) 0⟩,
    ⟨some 26, none, .ext (.t 21) 1⟩,
    ⟨some 5, none, .mov (.t 25)⟩,
    ⟨some 6, none, .mov (.t 26)⟩] [1, 3, 4, 5])
  (.seq (.draw [⟨some 27, none, .load none (.t 3)⟩,
    ⟨some 28, none, .mov (.t 27)⟩,
    ⟨some 29, (some (28, true)), .load (some 8) (.t 4)⟩,
    ⟨some 30, (some (28, true)), .mov (.t 5)⟩,
    ⟨some 31, (some (28, true)), .nilchk (.t 30)⟩,
    ⟨some 32, (some (28, true)), .load (some 8) (.t 31)⟩,
    ⟨some 33, (some (28, true)), .eqb false (.fields [(0, 1, false, (.scalar .i)), (1, 1, false, (.scalar .i)), (2, 1, false, (.scalar .i)), (3, 1, false, (.scalar .i)), (4, 1, false, (.scalar .i)), (5, 1, false, (.scalar .i)), (6, 1, false, (.scalar .p)), (7, 1, false, (.scalar .p))]) (.t 29) (.t 32)⟩,
    ⟨some 34, none, .pick (.t 28) (.t 33) (.c (.bool false))⟩,
    ⟨none, none, .store 1 (.t 3) (.t 34)⟩] [[], [0], [0, 1], [0, 1], [0, 1, 3], [0, 1, 3, 4], [0, 1, 2, 3, 4, 5], [0, 1, 2, 3, 4, 5, 6], [0, 1, 2, 3, 4, 5, 6, 7]] [1])
  (.region [⟨some 35, none, .load none (.t 1)⟩,
    ⟨some 36, none, .bin .add (.t 35) (.c (.int .i64 1))⟩,
    ⟨none, none, .store 1 (.t 1) (.t 36)⟩] [])))))⟩

/-- (*troth/expr.Expr).Depth -/
def i24 : AFunc := ⟨1, 5, [.tmp 2],
  (.seq (.region [⟨some 2, none, .mov (.c (.int .i64 0))⟩] [0])
  (.seq (.region [⟨some 3, none, .mov (.t 0)⟩,
    ⟨some 4, none, .call false 55 [(.t 3), (.c (.int .i64 13))]⟩,
    ⟨some 2, none, .mov (.t 4)⟩] [2])
  .ret))⟩

/-- troth/trothlaw02.wakes -/
def i25 : AFunc := ⟨0, 76, [.tmp 0],
  (.seq (.region [⟨some 0, none, .mov (.c (.bool false))⟩] [])
  (.seq (.region [⟨some 8, none, .call false 26 [(.c (.str [114, 48, 10, 60, 61, 61, 32, 55, 32, 35, 32, 110, 111]))]⟩,
    ⟨some 7, none, .mov (.t 8)⟩,
    ⟨some 9, none, .ext (.t 7) 0⟩,
    ⟨some 10, none, .ext (.t 7) 1⟩,
    ⟨some 11, none, .ext (.t 7) 2⟩,
    ⟨some 2, none, .alloc [(.int .i64 0), (.int .i64 0)] 53⟩,
    ⟨some 1, none, .mov (.t 9)⟩,
    ⟨none, none, .store 2 (.t 2) (.t 10)⟩,
    ⟨some 3, none, .mov (.t 11)⟩] [1, 3])
  (.seq (.region [⟨some 13, none, .call false 26 [(.c (.str [97, 10, 32, 63]))]⟩,
    ⟨some 12, none, .mov (.t 13)⟩,
    ⟨some 14, none, .ext (.t 12) 0⟩,
    ⟨some 15, none, .ext (.t 12) 1⟩,
    ⟨some 16, none, .ext (.t 12) 2⟩,
    ⟨some 5, none, .alloc [(.int .i64 0), (.int .i64 0)] 53⟩,
    ⟨some 4, none, .mov (.t 14)⟩,
    ⟨none, none, .store 2 (.t 5) (.t 15)⟩,
    ⟨some 6, none, .mov (.t 16)⟩] [1, 3, 5, 6])
  (.seq (.seq (.region [⟨some 17, none, .mov (.t 3)⟩,
    ⟨some 18, none, .bin .neq (.t 17) (.c (.int .i64 0))⟩,
    ⟨some 19, none, .mov (.t 18)⟩,
    ⟨some 20, (some (19, false)), .mov (.t 1)⟩,
    ⟨some 21, (some (19, false)), .lensl (.t 20)⟩,
    ⟨some 22, (some (19, false)), .bin .neq (.t 21) (.c (.int .i64 5))⟩,
    ⟨some 23, none, .pick (.t 19) (.c (.bool true)) (.t 22)⟩] [1, 5, 6, 23])
  (.cond (.t 23) (.seq (.region [⟨some 0, none, .mov (.c (.bool false))⟩] [0])
  .ret)
  .skip))
  (.seq (.region [⟨some 24, none, .mov (.t 1)⟩,
    ⟨some 25, none, .idxas 5 (.t 24) (.c (.int .i64 0))⟩,
    ⟨some 26, none, .load (some 5) (.t 25)⟩,
    ⟨some 27, none, .build [(.int .i64 0), (.int .i64 0)] [(0, 1, (.c (.int .i64 1))), (1, 1, (.c (.int .i64 1)))]⟩,
    ⟨some 28, none, .build [(.int .u8 0), (.str []), (.int .u64 0), (.int .i64 0), (.int .i64 0)] [(0, 1, (.c (.int .u8 2))), (1, 1, (.c (.str [114, 48]))), (3, 2, (.t 27))]⟩,
    ⟨some 29, none, .eqb false (.fields [(0, 1, false, (.scalar .i)), (1, 1, false, (.scalar .s)), (2, 1, false, (.scalar .i)), (3, 2, true, (.fields [(0, 1, false, (.scalar .i)), (1, 1, false, (.scalar .i))]))]) (.t 26) (.t 28)⟩,
    ⟨some 30, none, .mov (.t 29)⟩,
    ⟨some 31, (some (30, true)), .mov (.t 1)⟩,
    ⟨some 32, (some (30, true)), .idxas 5 (.t 31) (.c (.int .i64 1))⟩,
    ⟨some 33, (some (30, true)), .faddr 1 (.t 32)⟩,
    ⟨some 34, (some (30, true)), .load none (.t 33)⟩,
    ⟨some 35, (some (30, true)), .bin .eql (.t 34) (.c (.str [60, 61]))⟩,
    ⟨some 36, none, .pick (.t 30) (.t 35) (.c (.bool false))⟩,
    ⟨some 37, none, .mov (.t 36)⟩,
    ⟨some 38, (some (37, true)), .mov (.t 1)⟩,
    ⟨some 39, (some (37, true)), .idxas 5 (.t 38) (.c (.int .i64 2))⟩,
    ⟨some 40, (some (37, true)), .faddr 1 (.t 39)⟩,
    ⟨some 41, (some (37, true)), .load none (.t 40)⟩,
    ⟨some 42, (some (37, true)), .bin .eql (.t 41) (.c (.str [61]))⟩,
    ⟨some 43, none, .pick (.t 37) (.t 42) (.c (.bool false))⟩,
    ⟨some 44, none, .mov (.t 43)⟩,
    ⟨some 45, (some (44, true)), .mov (.t 1)⟩,
    ⟨some 46, (some (44, true)), .idxas 5 (.t 45) (.c (.int .i64 3))⟩,
    ⟨some 47, (some (44, true)), .load (some 5) (.t 46)⟩,
    ⟨some 48, (some (44, true)), .build [(.int .i64 0), (.int .i64 0)] [(0, 1, (.c (.int .i64 2))), (1, 1, (.c (.int .i64 5)))]⟩,
    ⟨some 49, (some (44, true)), .build [(.int .u8 0), (.str []), (.int .u64 0), (.int .i64 0), (.int .i64 0)] [(0, 1, (.c (.int .u8 1))), (1, 1, (.c (.str [55]))), (2, 1, (.c (.int .u64 7))), (3, 2, (.t 48))]⟩,
    ⟨some 50, (some (44, true)), .eqb false (.fields [(0, 1, false, (.scalar .i)), (1, 1, false, (.scalar .s)), (2, 1, false, (.scalar .i)), (3, 2, true, (.fields [(0, 1, false, (.scalar .i)), (1, 1, false, (.scalar .i))]))]) (.t 47) (.t 49)⟩,
    ⟨some 51, none, .pick (.t 44) (.t 50) (.c (.bool false))⟩,
    ⟨some 52, none, .mov (.t 51)⟩,
    ⟨some 53, (some (52, true)), .mov (.t 1)⟩,
    ⟨some 54, (some (52, true)), .idxas 5 (.t 53) (.c (.int .i64 4))⟩,
    ⟨some 55, (some (52, true)), .faddr 0 (.t 54)⟩,
    ⟨some 56, (some (52, true)), .load none (.t 55)⟩,
    ⟨some 57, (some (52, true)), .bin .eql (.t 56) (.c (.int .u8 0))⟩,
    ⟨some 58, none, .pick (.t 52) (.t 57) (.c (.bool false))⟩,
    ⟨some 59, none, .mov (.t 58)⟩,
    ⟨some 60, (some (59, true)), .mov (.t 1)⟩,
    ⟨some 61, (some (59, true)), .idxas 5 (.t 60) (.c (.int .i64 4))⟩,
    ⟨some 62, (some (59, true)), .faddr 3 (.t 61)⟩,
    ⟨some 63, (some (59, true)), .load (some 2) (.t 62)⟩,
    ⟨some 64, (some (59, true)), .build [(.int .i64 0), (.int .i64 0)] [(0, 1, (.c (.int .i64 2))), (1, 1, (.c (.int .i64 11)))]⟩,
    ⟨some 65, (some (59, true)), .eqb false (.fields [(0, 1, false, (.scalar .i)), (1, 1, false, (.scalar .i))]) (.t 63) (.t 64)⟩,
    ⟨some 66, none, .pick (.t 59) (.t 65) (.c (.bool false))⟩,
    ⟨some 67, none, .mov (.t 66)⟩,
    ⟨some 68, (some (67, true)), .mov (.t 6)⟩,
    ⟨some 69, (some (67, true)), .bin .eql (.t 68) (.c (.int .i64 3))⟩,
    ⟨some 70, none, .pick (.t 67) (.t 69) (.c (.bool false))⟩,
    ⟨some 71, none, .mov (.t 70)⟩,
    ⟨some 72, (some (71, true)), .load (some 2) (.t 5)⟩,
    ⟨some 73, (some (71, true)), .build [(.int .i64 0), (.int .i64 0)] [(0, 1, (.c (.int .i64 2))), (1, 1, (.c (.int .i64 2)))]⟩,
    ⟨some 74, (some (71, true)), .eqb false (.fields [(0, 1, false, (.scalar .i)), (1, 1, false, (.scalar .i))]) (.t 72) (.t 73)⟩,
    ⟨some 75, none, .pick (.t 71) (.t 74) (.c (.bool false))⟩,
    ⟨some 0, none, .mov (.t 75)⟩] [0])
  .ret)))))⟩

def i26_L0 : ACode :=
  (.seq (.region [⟨some 99, none, .mov (.t 6)⟩,
    ⟨some 100, none, .load (some 5) (.t 7)⟩,
    ⟨some 101, none, .bslice 61 5 [(.int .u8 0), (.str []), (.int .u64 0), (.int .i64 0), (.int .i64 0)] 1 [(0, (.t 100))]⟩,
    ⟨some 102, none, .app 61 5 48 (.t 99) (.t 101)⟩,
    ⟨some 6, none, .mov (.t 102)⟩] [1, 3, 5, 6, 7, 9])
  (.goto 0))

def i26_L1 : ACode :=
  (.seq (.region [⟨some 18, none, .load (some 2) (.t 5)⟩,
    ⟨some 19, none, .build [(.int .u8 0), (.str []), (.int .u64 0), (.int .i64 0), (.int .i64 0)] [(3, 2, (.t 18))]⟩,
    ⟨none, none, .store 5 (.t 7) (.t 19)⟩] [1, 3, 5, 6, 7, 9])
  (.seq (.block 0 (.seq (.region [⟨some 21, none, .load none (.t 1)⟩,
    ⟨some 22, none, .bin .eql (.t 21) (.c (.str []))⟩,
    ⟨some 20, none, .mov (.t 22)⟩] [1, 3, 5, 6, 7, 9, 20])
  (.cond (.t 20) (.seq (.region [⟨some 23, none, .mov (.t 6)⟩,
    ⟨some 24, none, .load (some 5) (.t 7)⟩,
    ⟨some 25, none, .bslice 61 5 [(.int .u8 0), (.str []), (.int .u64 0), (.int .i64 0), (.int .i64 0)] 1 [(0, (.t 24))]⟩,
    ⟨some 26, none, .app 61 5 48 (.t 23) (.t 25)⟩,
    ⟨some 27, none, .build [(.int .i64 0), (.int .i64 0)] []⟩,
    ⟨some 2, none, .mov (.t 26)⟩,
    ⟨none, none, .store 2 (.t 3) (.t 27)⟩,
    ⟨some 4, none, .mov (.c (.int .i64 0))⟩] [2, 3, 4])
  .ret)
  (.seq (.region [⟨some 29, none, .load none (.t 1)⟩,
    ⟨some 30, none, .idxstr (.t 29) (.c (.int .i64 0))⟩,
    ⟨some 31, none, .bin .eql (.t 30) (.c (.int .u8 10))⟩,
    ⟨some 28, none, .mov (.t 31)⟩] [1, 3, 5, 6, 7, 9, 28])
  (.cond (.t 28) (.seq (.region [⟨some 32, none, .mov (.t 9)⟩,
    ⟨some 33, none, .callv true (.t 32) [(.c (.int .i64 1))]⟩] [1, 3, 5, 6, 7, 9])
  (.seq (.region [⟨some 34, none, .faddr 0 (.t 5)⟩,
    ⟨some 35, none, .load none (.t 34)⟩,
    ⟨some 36, none, .bin .add (.t 35) (.c (.int .i64 1))⟩,
    ⟨some 37, none, .build [(.int .i64 0), (.int .i64 0)] [(0, 1, (.t 36)), (1, 1, (.c (.int .i64 1)))]⟩,
    ⟨none, none, .store 2 (.t 5) (.t 37)⟩] [1, 3, 5, 6, 7, 9])
  (.goto 0)))
  (.seq (.region [⟨some 39, none, .load none (.t 1)⟩,
    ⟨some 40, none, .idxstr (.t 39) (.c (.int .i64 0))⟩,
    ⟨some 41, none, .bin .eql (.t 40) (.c (.int .u8 32))⟩,
    ⟨some 42, none, .mov (.t 41)⟩,
    ⟨some 43, (some (42, false)), .load none (.t 1)⟩,
    ⟨some 44, (some (42, false)), .idxstr (.t 43) (.c (.int .i64 0))⟩,
    ⟨some 45, (some (42, false)), .bin .eql (.t 44) (.c (.int .u8 9))⟩,
    ⟨some 46, none, .pick (.t 42) (.c (.bool true)) (.t 45)⟩,
    ⟨some 38, none, .mov (.t 46)⟩] [1, 3, 5, 6, 7, 9, 38])
  (.cond (.t 38) (.seq (.region [⟨some 47, none, .mov (.t 9)⟩,
    ⟨some 48, none, .callv true (.t 47) [(.c (.int .i64 1))]⟩] [1, 3, 5, 6, 7, 9])
  (.goto 0))
  (.seq (.region [⟨some 50, none, .load none (.t 1)⟩,
    ⟨some 51, none, .idxstr (.t 50) (.c (.int .i64 0))⟩,
    ⟨some 52, none, .bin .eql (.t 51) (.c (.int .u8 35))⟩,
    ⟨some 49, none, .mov (.t 52)⟩] [1, 3, 5, 6, 7, 9, 49])
  (.cond (.t 49) (.seq (.region [⟨some 53, none, .mov (.t 9)⟩,
    ⟨some 54, none, .load none (.t 1)⟩,
    ⟨some 55, none, .call false 57 [(.t 54), (.c (.fn (.func 58) [] []))]⟩,
    ⟨some 56, none, .callv true (.t 53) [(.t 55)]⟩] [1, 3, 5, 6, 7, 9])
  (.goto 0))
  (.seq (.region [⟨some 58, none, .load none (.t 1)⟩,
    ⟨some 59, none, .idxstr (.t 58) (.c (.int .i64 0))⟩,
    ⟨some 60, none, .call false 59 [(.t 59)]⟩,
    ⟨some 57, none, .mov (.t 60)⟩] [1, 3, 5, 6, 7, 9, 57])
  (.cond (.t 57) (.seq (.region [⟨some 61, none, .mov (.t 9)⟩,
    ⟨some 62, none, .load none (.t 1)⟩,
    ⟨some 63, none, .call false 57 [(.t 62), (.c (.fn (.func 59) [] []))]⟩,
    ⟨some 64, none, .callv true (.t 61) [(.t 63)]⟩,
    ⟨some 65, none, .faddr 0 (.t 7)⟩,
    ⟨none, none, .store 1 (.t 65) (.c (.int .u8 1))⟩,
    ⟨some 66, none, .faddr 1 (.t 7)⟩,
    ⟨none, none, .store 1 (.t 66) (.t 64)⟩] [1, 3, 5, 6, 7, 9])
  (.seq (.region [⟨some 68, none, .faddr 1 (.t 7)⟩,
    ⟨some 69, none, .load none (.t 68)⟩,
    ⟨some 70, none, .call false 60 [(.t 69), (.c (.int .i64 10)), (.c (.int .i64 64))]⟩,
    ⟨some 67, none, .mov (.t 70)⟩,
    ⟨some 71, none, .ext (.t 67) 0⟩,
    ⟨some 72, none, .ext (.t 67) 1⟩,
    ⟨some 10, none, .mov (.t 71)⟩,
    ⟨some 11, none, .mov (.t 72)⟩] [1, 3, 5, 6, 7, 9, 10, 11])
  (.seq (.seq (.region [⟨some 73, none, .mov (.t 11)⟩,
    ⟨some 74, none, .eqb true (.scalar .n) (.t 73) (.c .nili)⟩] [1, 3, 5, 6, 7, 9, 10, 74])
  (.cond (.t 74) (.seq (.draw [⟨some 75, none, .faddr 3 (.t 7)⟩,
    ⟨some 76, none, .load (some 2) (.t 75)⟩,
    ⟨some 2, none, .mov (.c (.sl 5 [] .exact))⟩,
    ⟨none, none, .store 2 (.t 3) (.t 76)⟩,
    ⟨some 4, none, .mov (.c (.int .i64 4))⟩] [[], [0], [], [0, 1, 2], [0, 1, 2, 3]] [2, 3, 4])
  .ret)
  .skip))
  (.seq (.region [⟨some 77, none, .mov (.t 10)⟩,
    ⟨some 78, none, .faddr 2 (.t 7)⟩,
    ⟨none, none, .store 1 (.t 78) (.t 77)⟩] [1, 3, 5, 6, 7, 9])
  (.goto 1)))))
  (.seq (.region [⟨some 80, none, .load none (.t 1)⟩,
    ⟨some 81, none, .idxstr (.t 80) (.c (.int .i64 0))⟩,
    ⟨some 82, none, .call false 61 [(.t 81)]⟩,
    ⟨some 79, none, .mov (.t 82)⟩] [1, 3, 5, 6, 7, 9, 79])
  (.cond (.t 79) (.seq (.region [⟨some 83, none, .mov (.t 9)⟩,
    ⟨some 84, none, .load none (.t 1)⟩,
    ⟨some 85, none, .call false 57 [(.t 84), (.c (.fn (.func 62) [] []))]⟩,
    ⟨some 86, none, .callv true (.t 83) [(.t 85)]⟩,
    ⟨some 87, none, .faddr 0 (.t 7)⟩,
    ⟨none, none, .store 1 (.t 87) (.c (.int .u8 2))⟩,
    ⟨some 88, none, .faddr 1 (.t 7)⟩,
    ⟨none, none, .store 1 (.t 88) (.t 86)⟩] [1, 3, 5, 6, 7, 9])
  (.goto 1))
  .skip)))))))))))))
  (.seq (.region [⟨some 89, none, .load none (.t 1)⟩,
    ⟨some 90, none, .call false 63 [(.t 89)]⟩,
    ⟨some 8, none, .mov (.t 90)⟩] [1, 3, 5, 6, 7, 8, 9])
  (.seq (.seq (.region [⟨some 91, none, .mov (.t 8)⟩,
    ⟨some 92, none, .bin .eql (.t 91) (.c (.int .i64 0))⟩] [1, 3, 5, 6, 7, 8, 9, 92])
  (.cond (.t 92) (.seq (.draw [⟨some 93, none, .load (some 2) (.t 5)⟩,
    ⟨some 2, none, .mov (.c (.sl 5 [] .exact))⟩,
    ⟨none, none, .store 2 (.t 3) (.t 93)⟩,
    ⟨some 4, none, .mov (.c (.int .i64 3))⟩] [[], [], [0, 1], [0, 1, 2]] [2, 3, 4])
  .ret)
  .skip))
  (.seq (.region [⟨some 94, none, .mov (.t 9)⟩,
    ⟨some 95, none, .mov (.t 8)⟩,
    ⟨some 96, none, .callv true (.t 94) [(.t 95)]⟩,
    ⟨some 97, none, .faddr 0 (.t 7)⟩,
    ⟨none, none, .store 1 (.t 97) (.c (.int .u8 3))⟩,
    ⟨some 98, none, .faddr 1 (.t 7)⟩,
    ⟨none, none, .store 1 (.t 98) (.t 96)⟩] [1, 3, 5, 6, 7, 9])
  (.seq (.label 1)
  i26_L0))))))

def i26_L2 : ACode :=
  (.seq (.region [⟨some 12, none, .build [(.int .i64 0), (.int .i64 0)] [(0, 1, (.c (.int .i64 1))), (1, 1, (.c (.int .i64 1)))]⟩,
    ⟨some 5, none, .alloc [(.int .i64 0), (.int .i64 0)] 53⟩,
    ⟨none, none, .store 2 (.t 5) (.t 12)⟩] [1, 3, 5])
  (.seq (.seq (.region [⟨some 13, none, .load none (.t 1)⟩,
    ⟨some 14, none, .lenstr (.t 13)⟩,
    ⟨some 15, none, .bin .gtr (.t 14) (.c (.int .i64 4096))⟩] [1, 3, 5, 15])
  (.cond (.t 15) (.seq (.draw [⟨some 16, none, .load (some 2) (.t 5)⟩,
    ⟨some 2, none, .mov (.c (.sl 5 [] .exact))⟩,
    ⟨none, none, .store 2 (.t 3) (.t 16)⟩,
    ⟨some 4, none, .mov (.c (.int .i64 4))⟩] [[], [], [0, 1], [0, 1, 2]] [2, 3, 4])
  .ret)
  .skip))
  (.seq (.region [⟨some 6, none, .mov (.c (.sl 5 [] .exact))⟩] [1, 3, 5, 6])
  (.seq (.region [⟨some 7, none, .alloc [(.int .u8 0), (.str []), (.int .u64 0), (.int .i64 0), (.int .i64 0)] 61⟩] [1, 3, 5, 6, 7])
  (.seq (.region [⟨some 8, none, .mov (.c (.int .i64 0))⟩] [1, 3, 5, 6, 7])
  (.seq (.region [⟨some 17, none, .mkfn (.func 56) [] [(.t 1), (.t 5)]⟩,
    ⟨some 9, none, .mov (.t 17)⟩] [1, 3, 5, 6, 7, 9])
  (.seq (.label 0)
  i26_L1)))))))

/-- troth/lex.Lex -/
def i26 : AFunc := ⟨1, 103, [.tmp 2, .cell 3 (some 2), .tmp 4],
  (.seq (.region [⟨some 1, none, .box 9 1 (.t 0)⟩,
    ⟨some 2, none, .mov (.c (.sl 5 [] .exact))⟩,
    ⟨some 3, none, .alloc [(.int .i64 0), (.int .i64 0)] 53⟩,
    ⟨some 4, none, .mov (.c (.int .i64 0))⟩] [1, 3])
  (.scope i26_L2))⟩

def i27_L0 : ACode :=
  (.seq (.seq (.region [⟨some 40, none, .mov (.t 6)⟩,
    ⟨some 41, none, .mov (.t 0)⟩,
    ⟨some 42, none, .lenstr (.t 41)⟩,
    ⟨some 43, none, .bin .lss (.t 40) (.t 42)⟩,
    ⟨some 44, none, .mov (.t 43)⟩,
    ⟨some 45, (some (44, true)), .mov (.t 0)⟩,
    ⟨some 46, (some (44, true)), .mov (.t 6)⟩,
    ⟨some 47, (some (44, true)), .idxstr (.t 45) (.t 46)⟩,
    ⟨some 48, (some (44, true)), .bin .neq (.t 47) (.c (.int .u8 10))⟩,
    ⟨some 49, none, .pick (.t 44) (.t 48) (.c (.bool false))⟩] [0, 3, 5, 6, 49])
  (.cond (.t 49) .skip
  (.exit 2)))
  (.block 3 (.region [⟨some 50, none, .mov (.t 6)⟩,
    ⟨some 51, none, .bin .add (.t 50) (.c (.int .i64 1))⟩,
    ⟨some 6, none, .mov (.t 51)⟩] [0, 3, 5, 6])))

def i27_L1 : ACode :=
  (.seq (.seq (.region [⟨some 58, none, .mov (.t 8)⟩,
    ⟨some 59, none, .mov (.t 0)⟩,
    ⟨some 60, none, .lenstr (.t 59)⟩,
    ⟨some 61, none, .bin .lss (.t 58) (.t 60)⟩,
    ⟨some 62, none, .mov (.t 61)⟩,
    ⟨some 63, (some (62, true)), .mov (.t 0)⟩,
    ⟨some 64, (some (62, true)), .mov (.t 8)⟩,
    ⟨some 65, (some (62, true)), .idxstr (.t 63) (.t 64)⟩,
    ⟨some 66, (some (62, true)), .call false 65 [(.t 65), (.c (.bool false))]⟩,
    ⟨some 67, none, .pick (.t 62) (.t 66) (.c (.bool false))⟩] [0, 3, 5, 6, 8, 9, 67])
  (.cond (.t 67) .skip
  (.exit 4)))
  (.block 5 (.region [⟨some 68, none, .mov (.t 8)⟩,
    ⟨some 69, none, .bin .add (.t 68) (.c (.int .i64 1))⟩,
    ⟨some 8, none, .mov (.t 69)⟩] [0, 3, 5, 6, 8, 9])))

def i27_L2 : ACode :=
  (.seq (.seq (.region [⟨some 73, none, .mov (.t 8)⟩,
    ⟨some 74, none, .mov (.t 0)⟩,
    ⟨some 75, none, .lenstr (.t 74)⟩,
    ⟨some 76, none, .bin .lss (.t 73) (.t 75)⟩,
    ⟨some 77, none, .mov (.t 76)⟩,
    ⟨some 78, (some (77, true)), .mov (.t 0)⟩,
    ⟨some 79, (some (77, true)), .mov (.t 8)⟩,
    ⟨some 80, (some (77, true)), .idxstr (.t 78) (.t 79)⟩,
    ⟨some 81, (some (77, true)), .bin .geq (.t 80) (.c (.int .u8 48))⟩,
    ⟨some 82, none, .pick (.t 77) (.t 81) (.c (.bool false))⟩,
    ⟨some 83, none, .mov (.t 82)⟩,
    ⟨some 84, (some (83, true)), .mov (.t 0)⟩,
    ⟨some 85, (some (83, true)), .mov (.t 8)⟩,
    ⟨some 86, (some (83, true)), .idxstr (.t 84) (.t 85)⟩,
    ⟨some 87, (some (83, true)), .bin .leq (.t 86) (.c (.int .u8 57))⟩,
    ⟨some 88, none, .pick (.t 83) (.t 87) (.c (.bool false))⟩] [0, 3, 5, 6, 8, 9, 88])
  (.cond (.t 88) .skip
  (.exit 6)))
  (.block 7 (.region [⟨some 89, none, .mov (.t 8)⟩,
    ⟨some 90, none, .bin .add (.t 89) (.c (.int .i64 1))⟩,
    ⟨some 8, none, .mov (.t 90)⟩] [0, 3, 5, 6, 8, 9])))

def i27_L3 : ACode :=
  (.seq (.seq (.region [⟨some 107, none, .mov (.t 13)⟩,
    ⟨some 108, none, .mov (.t 12)⟩,
    ⟨some 109, none, .lensl (.t 108)⟩,
    ⟨some 110, none, .bin .lss (.t 107) (.t 109)⟩,
    ⟨some 111, none, .mov (.t 110)⟩,
    ⟨some 112, (some (111, true)), .mov (.t 8)⟩,
    ⟨some 113, (some (111, true)), .mov (.t 6)⟩,
    ⟨some 114, (some (111, true)), .bin .eql (.t 112) (.t 113)⟩,
    ⟨some 115, none, .pick (.t 111) (.t 114) (.c (.bool false))⟩] [0, 3, 5, 6, 8, 9, 12, 13, 115])
  (.cond (.t 115) .skip
  (.exit 8)))
  (.seq (.block 9 (.seq (.draw [⟨some 118, none, .mov (.t 0)⟩,
    ⟨some 119, none, .lenstr (.t 118)⟩,
    ⟨some 120, none, .mov (.t 6)⟩,
    ⟨some 121, none, .bin .sub (.t 119) (.t 120)⟩,
    ⟨some 122, none, .mov (.t 12)⟩,
    ⟨some 123, none, .mov (.t 13)⟩,
    ⟨some 124, none, .idxas 1 (.t 122) (.t 123)⟩,
    ⟨some 125, none, .load none (.t 124)⟩,
    ⟨some 126, none, .lenstr (.t 125)⟩,
    ⟨some 127, none, .bin .geq (.t 121) (.t 126)⟩,
    ⟨some 128, none, .mov (.t 127)⟩,
    ⟨some 129, (some (128, true)), .mov (.t 0)⟩,
    ⟨some 130, (some (128, true)), .mov (.t 6)⟩,
    ⟨some 131, (some (128, true)), .mov (.t 6)⟩,
    ⟨some 132, (some (128, true)), .mov (.t 12)⟩,
    ⟨some 133, (some (128, true)), .mov (.t 13)⟩,
    ⟨some 134, (some (128, true)), .idxas 1 (.t 132) (.t 133)⟩,
    ⟨some 135, (some (128, true)), .load none (.t 134)⟩,
    ⟨some 136, (some (128, true)), .lenstr (.t 135)⟩,
    ⟨some 137, (some (128, true)), .bin .add (.t 131) (.t 136)⟩,
    ⟨some 138, (some (128, true)), .slstr (.t 129) (some (.t 130)) (some (.t 137))⟩,
    ⟨some 139, (some (128, true)), .mov (.t 12)⟩,
    ⟨some 140, (some (128, true)), .mov (.t 13)⟩,
    ⟨some 141, (some (128, true)), .idxas 1 (.t 139) (.t 140)⟩,
    ⟨some 142, (some (128, true)), .load none (.t 141)⟩,
    ⟨some 143, (some (128, true)), .bin .eql (.t 138) (.t 142)⟩,
    ⟨some 144, none, .pick (.t 128) (.t 143) (.c (.bool false))⟩] [[], [0], [], [0, 1, 2], [], [], [4, 5], [4, 5, 6], [4, 5, 6, 7], [0, 1, 2, 3, 4, 5, 6, 7, 8], [0, 1, 2, 3, 4, 5, 6, 7, 8, 9], [0, 1, 2, 3, 4, 5, 6, 7, 8, 9, 10], [0, 1, 2, 3, 4, 5, 6, 7, 8, 9, 10], [0, 1, 2, 3, 4, 5, 6, 7, 8, 9, 10], [0, 1, 2, 3, 4, 5, 6, 7, 8, 9, 10], [0, 1, 2, 3, 4, 5, 6, 7, 8, 9, 10], [0, 1, 2, 3, 4, 5, 6, 7, 8, 9, 10, 14, 15], [0, 1, 2, 3, 4, 5, 6, 7, 8, 9, 10, 14, 15, 16], [0, 1, 2, 3, 4, 5, 6, 7, 8, 9, 10, 14, 15, 16, 17], [0, 1, 2, 3, 4, 5, 6, 7, 8, 9, 10, 13, 14, 15, 16, 17, 18], [0, 1, 2, 3, 4, 5, 6, 7, 8, 9, 10, 11, 12, 13, 14, 15, 16, 17, 18, 19], [0, 1, 2, 3, 4, 5, 6, 7, 8, 9, 10], [0, 1, 2, 3, 4, 5, 6, 7, 8, 9, 10], [0, 1, 2, 3, 4, 5, 6, 7, 8, 9, 10, 21, 22], [0, 1, 2, 3, 4, 5, 6, 7, 8, 9, 10, 21, 22, 23], [0, 1, 2, 3, 4, 5, 6, 7, 8, 9, 10, 11, 12, 13, 14, 15, 16, 17, 18, 19, 20, 21, 22, 23, 24], [0, 1, 2, 3, 4, 5, 6, 7, 8, 9, 10, 11, 12, 13, 14, 15, 16, 17, 18, 19, 20, 21, 22, 23, 24, 25]] [0, 3, 5, 6, 8, 9, 12, 13, 144])
  (.cond (.t 144) (.region [⟨some 145, none, .mov (.t 6)⟩,
    ⟨some 146, none, .mov (.t 12)⟩,
    ⟨some 147, none, .mov (.t 13)⟩,
    ⟨some 148, none, .idxas 1 (.t 146) (.t 147)⟩,
    ⟨some 149, none, .load none (.t 148)⟩,
    ⟨some 150, none, .lenstr (.t 149)⟩,
    ⟨some 151, none, .bin .add (.t 145) (.t 150)⟩,
    ⟨some 8, none, .mov (.t 151)⟩] [0, 3, 5, 6, 8, 9, 12, 13])
  .skip)))
  (.region [⟨some 116, none, .mov (.t 13)⟩,
    ⟨some 117, none, .bin .add (.t 116) (.c (.int .i64 1))⟩,
    ⟨some 13, none, .mov (.t 117)⟩] [0, 3, 5, 6, 8, 9, 12, 13])))

def i27_L4 : ACode :=
  (.seq (.seq (.region [⟨some 18, none, .mov (.t 6)⟩,
    ⟨some 19, none, .mov (.t 0)⟩,
    ⟨some 20, none, .lenstr (.t 19)⟩,
    ⟨some 21, none, .bin .lss (.t 18) (.t 20)⟩] [0, 3, 5, 6, 21])
  (.cond (.t 21) .skip
  (.exit 0)))
  (.block 1 (.seq (.region [⟨some 22, none, .mov (.t 0)⟩,
    ⟨some 23, none, .mov (.t 6)⟩,
    ⟨some 24, none, .idxstr (.t 22) (.t 23)⟩,
    ⟨some 7, none, .mov (.t 24)⟩] [0, 3, 5, 6, 7])
  (.seq (.region [⟨some 25, none, .mov (.t 6)⟩,
    ⟨some 8, none, .mov (.t 25)⟩] [0, 3, 5, 6, 7, 8])
  (.seq (.seq (.region [⟨some 26, none, .mov (.t 7)⟩,
    ⟨some 27, none, .bin .eql (.t 26) (.c (.int .u8 10))⟩,
    ⟨some 28, none, .mov (.t 27)⟩,
    ⟨some 29, (some (28, false)), .mov (.t 7)⟩,
    ⟨some 30, (some (28, false)), .bin .eql (.t 29) (.c (.int .u8 9))⟩,
    ⟨some 31, none, .pick (.t 28) (.c (.bool true)) (.t 30)⟩,
    ⟨some 32, none, .mov (.t 31)⟩,
    ⟨some 33, (some (32, false)), .mov (.t 7)⟩,
    ⟨some 34, (some (32, false)), .bin .eql (.t 33) (.c (.int .u8 32))⟩,
    ⟨some 35, none, .pick (.t 32) (.c (.bool true)) (.t 34)⟩] [0, 3, 5, 6, 7, 8, 35])
  (.cond (.t 35) (.seq (.region [⟨some 36, none, .mov (.t 6)⟩,
    ⟨some 37, none, .bin .add (.t 36) (.c (.int .i64 1))⟩,
    ⟨some 6, none, .mov (.t 37)⟩] [0, 3, 5, 6])
  (.exit 1))
  .skip))
  (.seq (.seq (.region [⟨some 38, none, .mov (.t 7)⟩,
    ⟨some 39, none, .bin .eql (.t 38) (.c (.int .u8 35))⟩] [0, 3, 5, 6, 7, 8, 39])
  (.cond (.t 39) (.seq (.block 2 (.loop [0, 3, 5, 6] i27_L0))
  (.exit 1))
  .skip))
  (.seq (.region [⟨some 52, none, .mov (.t 0)⟩,
    ⟨some 53, none, .mov (.t 6)⟩,
    ⟨some 54, none, .call false 64 [(.t 52), (.t 53)]⟩,
    ⟨some 55, none, .build [(.int .u8 0), (.str []), (.int .u64 0), (.int .i64 0), (.int .i64 0)] [(3, 2, (.t 54))]⟩,
    ⟨some 9, none, .alloc [(.int .u8 0), (.str []), (.int .u64 0), (.int .i64 0), (.int .i64 0)] 62⟩,
    ⟨none, none, .store 5 (.t 9) (.t 55)⟩] [0, 3, 5, 6, 7, 8, 9])
  (.seq (.seq (.region [⟨some 56, none, .mov (.t 7)⟩,
    ⟨some 57, none, .call false 65 [(.t 56), (.c (.bool true))]⟩] [0, 3, 5, 6, 7, 8, 9, 57])
  (.cond (.t 57) (.seq (.block 4 (.loop [0, 3, 5, 6, 8, 9] i27_L1))
  (.region [⟨some 70, none, .faddr 0 (.t 9)⟩,
    ⟨none, none, .store 1 (.t 70) (.c (.int .u8 2))⟩] [0, 3, 5, 6, 8, 9]))
  (.seq (.region [⟨some 71, none, .mov (.t 7)⟩,
    ⟨some 72, none, .call false 65 [(.t 71), (.c (.bool false))]⟩] [0, 3, 5, 6, 8, 9, 72])
  (.cond (.t 72) (.seq (.block 6 (.loop [0, 3, 5, 6, 8, 9] i27_L2))
  (.seq (.region [⟨some 92, none, .mov (.t 0)⟩,
    ⟨some 93, none, .mov (.t 6)⟩,
    ⟨some 94, none, .mov (.t 8)⟩,
    ⟨some 95, none, .slstr (.t 92) (some (.t 93)) (some (.t 94))⟩,
    ⟨some 96, none, .call false 66 [(.t 95)]⟩,
    ⟨some 91, none, .mov (.t 96)⟩,
    ⟨some 97, none, .ext (.t 91) 0⟩,
    ⟨some 98, none, .ext (.t 91) 1⟩,
    ⟨some 10, none, .mov (.t 97)⟩,
    ⟨some 11, none, .mov (.t 98)⟩] [0, 3, 5, 6, 8, 9, 10, 11])
  (.seq (.seq (.region [⟨some 99, none, .mov (.t 11)⟩,
    ⟨some 100, none, .un .not (.t 99)⟩] [0, 3, 5, 6, 8, 9, 10, 100])
  (.cond (.t 100) (.seq (.draw [⟨some 101, none, .faddr 3 (.t 9)⟩,
    ⟨some 102, none, .load (some 2) (.t 101)⟩,
    ⟨some 2, none, .mov (.c (.sl 5 [] .exact))⟩,
    ⟨none, none, .store 2 (.t 3) (.t 102)⟩,
    ⟨some 4, none, .mov (.c (.int .i64 4))⟩] [[], [0], [], [0, 1, 2], [0, 1, 2, 3]] [2, 3, 4])
  .ret)
  .skip))
  (.seq (.region [⟨some 103, none, .faddr 0 (.t 9)⟩,
    ⟨none, none, .store 1 (.t 103) (.c (.int .u8 1))⟩] [0, 3, 5, 6, 8, 9, 10])
  (.region [⟨some 104, none, .mov (.t 10)⟩,
    ⟨some 105, none, .faddr 2 (.t 9)⟩,
    ⟨none, none, .store 1 (.t 105) (.t 104)⟩] [0, 3, 5, 6, 8, 9])))))
  (.seq (.region [⟨some 106, none, .call false 67 []⟩,
    ⟨some 12, none, .mov (.t 106)⟩] [0, 3, 5, 6, 8, 9, 12])
  (.seq (.seq (.region [⟨some 13, none, .mov (.c (.int .i64 0))⟩] [0, 3, 5, 6, 8, 9, 12, 13])
  (.block 8 (.loop [0, 3, 5, 6, 8, 9, 12, 13] i27_L3)))
  (.seq (.seq (.region [⟨some 152, none, .mov (.t 8)⟩,
    ⟨some 153, none, .mov (.t 6)⟩,
    ⟨some 154, none, .bin .eql (.t 152) (.t 153)⟩] [0, 3, 5, 6, 8, 9, 154])
  (.cond (.t 154) (.seq (.draw [⟨some 155, none, .faddr 3 (.t 9)⟩,
    ⟨some 156, none, .load (some 2) (.t 155)⟩,
    ⟨some 2, none, .mov (.c (.sl 5 [] .exact))⟩,
    ⟨none, none, .store 2 (.t 3) (.t 156)⟩,
    ⟨some 4, none, .mov (.c (.int .i64 3))⟩] [[], [0], [], [0, 1, 2], [0, 1, 2, 3]] [2, 3, 4])
  .ret)
  .skip))
  (.region [⟨some 157, none, .faddr 0 (.t 9)⟩,
    ⟨none, none, .store 1 (.t 157) (.c (.int .u8 3))⟩] [0, 3, 5, 6, 8, 9]))))))))
  (.seq (.region [⟨some 158, none, .mov (.t 0)⟩,
    ⟨some 159, none, .mov (.t 6)⟩,
    ⟨some 160, none, .mov (.t 8)⟩,
    ⟨some 161, none, .slstr (.t 158) (some (.t 159)) (some (.t 160))⟩,
    ⟨some 162, none, .faddr 1 (.t 9)⟩,
    ⟨none, none, .store 1 (.t 162) (.t 161)⟩] [0, 3, 5, 8, 9])
  (.seq (.region [⟨some 163, none, .mov (.t 5)⟩,
    ⟨some 164, none, .load (some 5) (.t 9)⟩,
    ⟨some 165, none, .bslice 62 5 [(.int .u8 0), (.str []), (.int .u64 0), (.int .i64 0), (.int .i64 0)] 1 [(0, (.t 164))]⟩,
    ⟨some 166, none, .app 62 5 48 (.t 163) (.t 165)⟩,
    ⟨some 5, none, .mov (.t 166)⟩] [0, 3, 5, 8])
  (.region [⟨some 167, none, .mov (.t 8)⟩,
    ⟨some 6, none, .mov (.t 167)⟩] [0, 3, 5, 6])))))))))))

/-- troth/trothref02.Lex -/
def i27 : AFunc := ⟨1, 177, [.tmp 2, .cell 3 (some 2), .tmp 4],
  (.seq (.region [⟨some 2, none, .mov (.c (.sl 5 [] .exact))⟩,
    ⟨some 3, none, .alloc [(.int .i64 0), (.int .i64 0)] 53⟩,
    ⟨some 4, none, .mov (.c (.int .i64 0))⟩] [0, 3])
  (.seq (.seq (.region [⟨some 14, none, .mov (.t 0)⟩,
    ⟨some 15, none, .lenstr (.t 14)⟩,
    ⟨some 16, none, .bin .gtr (.t 15) (.c (.int .i64 4096))⟩] [0, 3, 16])
  (.cond (.t 16) (.seq (.region [⟨some 17, none, .build [(.int .i64 0), (.int .i64 0)] [(0, 1, (.c (.int .i64 1))), (1, 1, (.c (.int .i64 1)))]⟩,
    ⟨some 2, none, .mov (.c (.sl 5 [] .exact))⟩,
    ⟨none, none, .store 2 (.t 3) (.t 17)⟩,
    ⟨some 4, none, .mov (.c (.int .i64 4))⟩] [2, 3, 4])
  .ret)
  .skip))
  (.seq (.region [⟨some 5, none, .mov (.c (.sl 5 [] .exact))⟩] [0, 3, 5])
  (.seq (.region [⟨some 6, none, .mov (.c (.int .i64 0))⟩] [0, 3, 5, 6])
  (.seq (.block 0 (.loop [0, 3, 5, 6] i27_L4))
  (.seq (.region [⟨some 168, none, .mov (.t 5)⟩,
    ⟨some 169, none, .mov (.t 0)⟩,
    ⟨some 170, none, .mov (.t 0)⟩,
    ⟨some 171, none, .lenstr (.t 170)⟩,
    ⟨some 172, none, .call false 64 [(.t 169), (.t 171)]⟩,
    ⟨some 173, none, .build [(.int .u8 0), (.str []), (.int .u64 0), (.int .i64 0), (.int .i64 0)] [(3, 2, (.t 172))]⟩,
    ⟨some 174, none, .bslice 62 5 [(.int .u8 0), (.str []), (.int .u64 0), (.int .i64 0), (.int .i64 0)] 1 [(0, (.t 173))]⟩,
    ⟨some 175, none, .app 62 5 48 (.t 168) (.t 174)⟩,
    ⟨some 176, none, .build [(.int .i64 0), (.int .i64 0)] []⟩,
    ⟨some 2, none, .mov (.t 175)⟩,
    ⟨none, none, .store 2 (.t 3) (.t 176)⟩,
    ⟨some 4, none, .mov (.c (.int .i64 0))⟩] [2, 3, 4])
  .ret))))))⟩

def i28_L0 : ACode :=
  (.seq (.seq (.region [⟨some 8, none, .mov (.t 7)⟩,
    ⟨some 9, none, .mov (.t 0)⟩,
    ⟨some 10, none, .lenstr (.t 9)⟩,
    ⟨some 11, none, .bin .leq (.t 8) (.t 10)⟩] [0, 3, 5, 6, 7, 11])
  (.cond (.t 11) .skip
  (.exit 0)))
  (.seq (.block 1 (.seq (.seq (.region [⟨some 14, none, .mov (.t 5)⟩,
    ⟨some 15, none, .faddr 3 (.t 3)⟩,
    ⟨some 16, none, .faddr 0 (.t 15)⟩,
    ⟨some 17, none, .load none (.t 16)⟩,
    ⟨some 18, none, .bin .eql (.t 14) (.t 17)⟩,
    ⟨some 19, none, .mov (.t 18)⟩,
    ⟨some 20, (some (19, true)), .mov (.t 6)⟩,
    ⟨some 21, (some (19, true)), .faddr 3 (.t 3)⟩,
    ⟨some 22, (some (19, true)), .faddr 1 (.t 21)⟩,
    ⟨some 23, (some (19, true)), .load none (.t 22)⟩,
    ⟨some 24, (some (19, true)), .bin .eql (.t 20) (.t 23)⟩,
    ⟨some 25, none, .pick (.t 19) (.t 24) (.c (.bool false))⟩] [0, 3, 5, 6, 7, 25])
  (.cond (.t 25) (.seq (.seq (.region [⟨some 26, none, .faddr 0 (.t 3)⟩,
    ⟨some 27, none, .load none (.t 26)⟩,
    ⟨some 28, none, .bin .eql (.t 27) (.c (.int .u8 0))⟩] [0, 3, 7, 28])
  (.cond (.t 28) (.seq (.region [⟨some 29, none, .mov (.t 7)⟩,
    ⟨some 30, none, .mov (.t 0)⟩,
    ⟨some 31, none, .lenstr (.t 30)⟩,
    ⟨some 32, none, .bin .eql (.t 29) (.t 31)⟩,
    ⟨some 4, none, .mov (.t 32)⟩] [4])
  .ret)
  .skip))
  (.seq (.draw [⟨some 33, none, .mov (.t 0)⟩,
    ⟨some 34, none, .lenstr (.t 33)⟩,
    ⟨some 35, none, .mov (.t 7)⟩,
    ⟨some 36, none, .bin .sub (.t 34) (.t 35)⟩,
    ⟨some 37, none, .faddr 1 (.t 3)⟩,
    ⟨some 38, none, .load none (.t 37)⟩,
    ⟨some 39, none, .lenstr (.t 38)⟩,
    ⟨some 40, none, .bin .geq (.t 36) (.t 39)⟩,
    ⟨some 41, none, .mov (.t 40)⟩,
    ⟨some 42, (some (41, true)), .mov (.t 0)⟩,
    ⟨some 43, (some (41, true)), .mov (.t 7)⟩,
    ⟨some 44, (some (41, true)), .mov (.t 7)⟩,
    ⟨some 45, (some (41, true)), .faddr 1 (.t 3)⟩,
    ⟨some 46, (some (41, true)), .load none (.t 45)⟩,
    ⟨some 47, (some (41, true)), .lenstr (.t 46)⟩,
    ⟨some 48, (some (41, true)), .bin .add (.t 44) (.t 47)⟩,
    ⟨some 49, (some (41, true)), .slstr (.t 42) (some (.t 43)) (some (.t 48))⟩,
    ⟨some 50, (some (41, true)), .faddr 1 (.t 3)⟩,
    ⟨some 51, (some (41, true)), .load none (.t 50)⟩,
    ⟨some 52, (some (41, true)), .bin .eql (.t 49) (.t 51)⟩,
    ⟨some 53, none, .pick (.t 41) (.t 52) (.c (.bool false))⟩,
    ⟨some 54, none, .mov (.t 53)⟩,
    ⟨some 55, (some (54, true)), .faddr 1 (.t 3)⟩,
    ⟨some 56, (some (54, true)), .load none (.t 55)⟩,
    ⟨some 57, (some (54, true)), .bin .neq (.t 56) (.c (.str []))⟩,
    ⟨some 58, none, .pick (.t 54) (.t 57) (.c (.bool false))⟩,
    ⟨some 4, none, .mov (.t 58)⟩] [[], [0], [], [0, 1, 2], [], [4], [4, 5], [0, 1, 2, 3, 4, 5, 6], [0, 1, 2, 3, 4, 5, 6, 7], [0, 1, 2, 3, 4, 5, 6, 7, 8], [0, 1, 2, 3, 4, 5, 6, 7, 8], [0, 1, 2, 3, 4, 5, 6, 7, 8], [0, 1, 2, 3, 4, 5, 6, 7, 8], [0, 1, 2, 3, 4, 5, 6, 7, 8, 12], [0, 1, 2, 3, 4, 5, 6, 7, 8, 12, 13], [0, 1, 2, 3, 4, 5, 6, 7, 8, 11, 12, 13, 14], [0, 1, 2, 3, 4, 5, 6, 7, 8, 9, 10, 11, 12, 13, 14, 15], [0, 1, 2, 3, 4, 5, 6, 7, 8], [0, 1, 2, 3, 4, 5, 6, 7, 8, 17], [0, 1, 2, 3, 4, 5, 6, 7, 8, 9, 10, 11, 12, 13, 14, 15, 16, 17, 18], [0, 1, 2, 3, 4, 5, 6, 7, 8, 9, 10, 11, 12, 13, 14, 15, 16, 17, 18, 19], [0, 1, 2, 3, 4, 5, 6, 7, 8, 9, 10, 11, 12, 13, 14, 15, 16, 17, 18, 19, 20], [0, 1, 2, 3, 4, 5, 6, 7, 8, 9, 10, 11, 12, 13, 14, 15, 16, 17, 18, 19, 20, 21], [0, 1, 2, 3, 4, 5, 6, 7, 8, 9, 10, 11, 12, 13, 14, 15, 16, 17, 18, 19, 20, 21, 22], [0, 1, 2, 3, 4, 5, 6, 7, 8, 9, 10, 11, 12, 13, 14, 15, 16, 17, 18, 19, 20, 21, 22, 23], [0, 1, 2, 3, 4, 5, 6, 7, 8, 9, 10, 11, 12, 13, 14, 15, 16, 17, 18, 19, 20, 21, 22, 23, 24], [0, 1, 2, 3, 4, 5, 6, 7, 8, 9, 10, 11, 12, 13, 14, 15, 16, 17, 18, 19, 20, 21, 22, 23, 24, 25]] [4])
  .ret))
  .skip))
  (.seq (.seq (.region [⟨some 59, none, .mov (.t 7)⟩,
    ⟨some 60, none, .mov (.t 0)⟩,
    ⟨some 61, none, .lenstr (.t 60)⟩,
    ⟨some 62, none, .bin .eql (.t 59) (.t 61)⟩] [0, 3, 5, 6, 7, 62])
  (.cond (.t 62) (.exit 0)
  .skip))
  (.seq (.region [⟨some 63, none, .mov (.t 6)⟩,
    ⟨some 64, none, .bin .add (.t 63) (.c (.int .i64 1))⟩,
    ⟨some 6, none, .mov (.t 64)⟩] [0, 3, 5, 6, 7])
  (.seq (.region [⟨some 65, none, .mov (.t 0)⟩,
    ⟨some 66, none, .mov (.t 7)⟩,
    ⟨some 67, none, .idxstr (.t 65) (.t 66)⟩,
    ⟨some 68, none, .bin .eql (.t 67) (.c (.int .u8 10))⟩] [0, 3, 5, 6, 7, 68])
  (.cond (.t 68) (.seq (.region [⟨some 69, none, .mov (.t 5)⟩,
    ⟨some 70, none, .bin .add (.t 69) (.c (.int .i64 1))⟩,
    ⟨some 5, none, .mov (.t 70)⟩] [0, 3, 5, 7])
  (.region [⟨some 6, none, .mov (.c (.int .i64 1))⟩] [0, 3, 5, 6, 7]))
  .skip))))))
  (.region [⟨some 12, none, .mov (.t 7)⟩,
    ⟨some 13, none, .bin .add (.t 12) (.c (.int .i64 1))⟩,
    ⟨some 7, none, .mov (.t 13)⟩] [0, 3, 5, 6, 7])))

/-- troth/trothlaw02.stands -/
def i28 : AFunc := ⟨2, 71, [.tmp 4],
  (.seq (.region [⟨some 3, none, .ibox (.t 1)⟩,
    ⟨some 4, none, .mov (.c (.bool false))⟩] [0, 3])
  (.seq (.region [⟨some 5, none, .mov (.c (.int .i64 1))⟩,
    ⟨some 6, none, .mov (.c (.int .i64 1))⟩] [0, 3, 5, 6])
  (.seq (.seq (.region [⟨some 7, none, .mov (.c (.int .i64 0))⟩] [0, 3, 5, 6, 7])
  (.block 0 (.loop [0, 3, 5, 6, 7] i28_L0)))
  (.seq (.region [⟨some 4, none, .mov (.c (.bool false))⟩] [4])
  .ret))))⟩

/-- troth/prog.Modes -/
def i29 : AFunc := ⟨1, 18, [.tmp 2],
  (.seq (.region [⟨some 2, none, .mov (.c (.sl 1 [] .exact))⟩] [0])
  (.seq (.seq (.region [⟨some 3, none, .mov (.t 0)⟩] [3])
  (.block 0 (.seq (.region [⟨some 5, none, .bin .eql (.t 3) (.c (.int .u8 2))⟩,
    ⟨some 4, none, .mov (.t 5)⟩] [3, 4])
  (.cond (.t 4) (.seq (.region [⟨some 6, none, .bslice 5 1 [(.int .u8 0)] 3 [(0, (.c (.int .u8 1))), (1, (.c (.int .u8 2))), (2, (.c (.int .u8 3)))]⟩,
    ⟨some 2, none, .mov (.t 6)⟩] [2])
  .ret)
  (.seq (.region [⟨some 8, none, .bin .eql (.t 3) (.c (.int .u8 3))⟩,
    ⟨some 7, none, .mov (.t 8)⟩] [3, 7])
  (.cond (.t 7) (.seq (.region [⟨some 9, none, .bslice 5 1 [(.int .u8 0)] 3 [(0, (.c (.int .u8 1))), (1, (.c (.int .u8 2))), (2, (.c (.int .u8 4)))]⟩,
    ⟨some 2, none, .mov (.t 9)⟩] [2])
  .ret)
  (.seq (.seq (.region [⟨some 11, none, .bin .eql (.t 3) (.c (.int .u8 4))⟩,
    ⟨some 10, none, .mov (.t 11)⟩] [3, 10])
  (.cond (.t 10) .skip
  (.seq (.region [⟨some 12, none, .bin .eql (.t 3) (.c (.int .u8 5))⟩,
    ⟨some 10, none, .mov (.t 12)⟩] [3, 10])
  (.cond (.t 10) .skip
  (.region [⟨some 13, none, .bin .eql (.t 3) (.c (.int .u8 6))⟩,
    ⟨some 10, none, .mov (.t 13)⟩] [3, 10])))))
  (.cond (.t 10) (.seq (.region [⟨some 14, none, .bslice 5 1 [(.int .u8 0)] 4 [(0, (.c (.int .u8 2))), (1, (.c (.int .u8 3))), (2, (.c (.int .u8 4))), (3, (.c (.int .u8 5)))]⟩,
    ⟨some 2, none, .mov (.t 14)⟩] [2])
  .ret)
  (.seq (.region [⟨some 16, none, .bin .eql (.t 3) (.c (.int .u8 7))⟩,
    ⟨some 15, none, .mov (.t 16)⟩] [15])
  (.cond (.t 15) (.seq (.region [⟨some 17, none, .bslice 5 1 [(.int .u8 0)] 4 [(0, (.c (.int .u8 3))), (1, (.c (.int .u8 4))), (2, (.c (.int .u8 5))), (3, (.c (.int .u8 6)))]⟩,
    ⟨some 2, none, .mov (.t 17)⟩] [2])
  .ret)
  .skip))))))))))
  (.seq (.region [⟨some 2, none, .mov (.c (.sl 1 [] .exact))⟩] [2])
  .ret)))⟩

/-- troth/prog.Mode -/
def i30 : AFunc := ⟨1, 9, [.tmp 2],
  (.seq (.region [⟨some 2, none, .mov (.c (.str []))⟩] [0])
  (.seq (.seq (.region [⟨some 3, none, .mov (.t 0)⟩,
    ⟨some 4, none, .cvi .i64 (.t 3)⟩,
    ⟨some 5, none, .bin .geq (.t 4) (.c (.int .i64 7))⟩] [0, 5])
  (.cond (.t 5) (.seq (.region [⟨some 2, none, .mov (.c (.str []))⟩] [2])
  .ret)
  .skip))
  (.seq (.region [⟨some 6, none, .mov (.t 0)⟩,
    ⟨some 7, none, .idxaa 7 1 (.g 0) (.t 6)⟩,
    ⟨some 8, none, .load none (.t 7)⟩,
    ⟨some 2, none, .mov (.t 8)⟩] [2])
  .ret)))⟩

/-- troth/trothref04.Mode -/
def i31 : AFunc := ⟨1, 14, [.tmp 2],
  (.seq (.region [⟨some 2, none, .mov (.c (.str []))⟩] [0])
  (.seq (.region [⟨some 4, none, .bslice 9 1 [(.str [])] 7 [(0, (.c (.str []))), (1, (.c (.str [112, 108, 110]))), (2, (.c (.str [114, 108, 120]))), (3, (.c (.str [97, 99, 113]))), (4, (.c (.str [114, 101, 108]))), (5, (.c (.str [97, 114]))), (6, (.c (.str [115, 99])))]⟩,
    ⟨some 3, none, .mov (.t 4)⟩] [0, 3])
  (.seq (.seq (.region [⟨some 5, none, .mov (.t 0)⟩,
    ⟨some 6, none, .cvi .i64 (.t 5)⟩,
    ⟨some 7, none, .mov (.t 3)⟩,
    ⟨some 8, none, .lensl (.t 7)⟩,
    ⟨some 9, none, .bin .lss (.t 6) (.t 8)⟩] [0, 3, 9])
  (.cond (.t 9) (.seq (.region [⟨some 10, none, .mov (.t 3)⟩,
    ⟨some 11, none, .mov (.t 0)⟩,
    ⟨some 12, none, .idxas 1 (.t 10) (.t 11)⟩,
    ⟨some 13, none, .load none (.t 12)⟩,
    ⟨some 2, none, .mov (.t 13)⟩] [2])
  .ret)
  .skip))
  (.seq (.region [⟨some 2, none, .mov (.c (.str []))⟩] [2])
  .ret))))⟩

/-- troth/prog.Walk -/
def i32 : AFunc := ⟨2, 7, [],
  (.region [⟨some 4, none, .mov (.t 0)⟩,
    ⟨some 5, none, .mov (.t 1)⟩,
    ⟨some 6, none, .call true 68 [(.t 4), (.c (.int .i64 1)), (.t 5)]⟩] [])⟩

/-- troth/trothlaw04.ProgModes$1 -/
def i33 : AFunc := ⟨2, 5, [],
  (.seq (.region [⟨some 2, none, .ibox (.t 0)⟩] [1])
  (.region [⟨some 3, none, .load none (.t 1)⟩,
    ⟨some 4, none, .bin .add (.t 3) (.c (.int .i64 1))⟩,
    ⟨none, none, .store 1 (.t 1) (.t 4)⟩] []))⟩

/-- troth/prog.Nest -/
def i34 : AFunc := ⟨1, 5, [.tmp 2],
  (.seq (.region [⟨some 2, none, .mov (.c (.int .i64 0))⟩] [0])
  (.seq (.region [⟨some 3, none, .mov (.t 0)⟩,
    ⟨some 4, none, .call false 69 [(.t 3), (.c (.int .i64 9))]⟩,
    ⟨some 2, none, .mov (.t 4)⟩] [2])
  .ret))⟩

/-- troth/trothlaw04.wakes -/
def i35 : AFunc := ⟨0, 52, [.tmp 0],
  (.seq (.region [⟨some 0, none, .mov (.c (.bool false))⟩] [])
  (.seq (.region [⟨some 5, none, .build [(.int .u8 0), (.int .u8 0), (.int .u64 0), (.int .u8 0), (.int .u8 0), (.int .u8 0), .nilp, .nilp] [(0, 1, (.c (.int .u8 1)))]⟩,
    ⟨some 6, none, .ibox (.t 5)⟩,
    ⟨some 1, none, .mov (.t 6)⟩] [1])
  (.seq (.region [⟨some 7, none, .build [(.int .u8 0), (.int .u8 0), (.int .u64 0), (.int .u8 0), (.int .u8 0), (.int .u8 0), .nilp, .nilp] [(2, 1, (.c (.int .u64 1)))]⟩,
    ⟨some 8, none, .ibox (.t 7)⟩,
    ⟨some 2, none, .mov (.t 8)⟩] [1, 2])
  (.seq (.region [⟨some 9, none, .build [(.int .u8 0), (.int .u64 0)] [(0, 1, (.c (.int .u8 120))), (1, 1, (.c (.int .u64 7)))]⟩,
    ⟨some 10, none, .bslice 111 2 [(.int .u8 0), (.int .u64 0)] 1 [(0, (.t 9))]⟩,
    ⟨some 11, none, .build [(.int .u8 0), (.int .u8 0), (.int .u8 0), (.int .u8 0), .nilp, .nilp, (.sl 8 [] .exact), (.sl 8 [] .exact)] [(0, 1, (.c (.int .u8 2))), (3, 1, (.c (.int .u8 120))), (2, 1, (.c (.int .u8 3)))]⟩,
    ⟨some 12, none, .mov (.t 1)⟩,
    ⟨some 13, none, .mov (.t 2)⟩,
    ⟨some 14, none, .build [(.int .u8 0), (.int .u8 0), (.int .u8 0), (.int .u8 0), .nilp, .nilp, (.sl 8 [] .exact), (.sl 8 [] .exact)] [(0, 1, (.c (.int .u8 3))), (3, 1, (.c (.int .u8 121))), (4, 1, (.t 13)), (2, 1, (.c (.int .u8 2)))]⟩,
    ⟨some 15, none, .bslice 72 8 [(.int .u8 0), (.int .u8 0), (.int .u8 0), (.int .u8 0), .nilp, .nilp, (.sl 8 [] .exact), (.sl 8 [] .exact)] 1 [(0, (.t 14))]⟩,
    ⟨some 16, none, .build [(.int .u8 0), (.int .u8 0), (.int .u8 0), (.int .u8 0), .nilp, .nilp, (.sl 8 [] .exact), (.sl 8 [] .exact)] [(0, 1, (.c (.int .u8 8))), (4, 1, (.t 12)), (6, 1, (.t 15))]⟩,
    ⟨some 17, none, .bslice 72 8 [(.int .u8 0), (.int .u8 0), (.int .u8 0), (.int .u8 0), .nilp, .nilp, (.sl 8 [] .exact), (.sl 8 [] .exact)] 2 [(0, (.t 11)), (1, (.t 16))]⟩,
    ⟨some 18, none, .bslice 70 1 [(.sl 8 [] .exact)] 1 [(0, (.t 17))]⟩,
    ⟨some 19, none, .mov (.t 2)⟩,
    ⟨some 20, none, .build [(.sl 2 [] .exact), (.sl 1 [] .exact), (.bool false), .nilp] [(0, 1, (.t 10)), (1, 1, (.t 18)), (3, 1, (.t 19))]⟩,
    ⟨some 3, none, .alloc [(.sl 2 [] .exact), (.sl 1 [] .exact), (.bool false), .nilp] 85⟩,
    ⟨none, none, .store 4 (.t 3) (.t 20)⟩] [3])
  (.seq (.region [⟨some 4, none, .alloc [(.int .i64 0)] 3⟩,
    ⟨none, none, .store 1 (.t 4) (.c (.int .i64 0))⟩] [3, 4])
  (.seq (.region [⟨some 21, none, .faddr 1 (.t 3)⟩,
    ⟨some 22, none, .load none (.t 21)⟩,
    ⟨some 23, none, .idxas 1 (.t 22) (.c (.int .i64 0))⟩,
    ⟨some 24, none, .load none (.t 23)⟩,
    ⟨some 25, none, .mkfn (.func 70) [] [(.t 4)]⟩,
    ⟨some 26, none, .call true 32 [(.t 24), (.t 25)]⟩] [3, 4])
  (.seq (.region [⟨some 27, none, .load (some 4) (.t 3)⟩,
    ⟨some 28, none, .call false 41 [(.t 27)]⟩,
    ⟨some 29, none, .bin .eql (.t 28) (.c (.str [105, 110, 105, 116, 32, 120, 32, 61, 32, 55, 59, 10, 116, 104, 114, 101, 97, 100, 32, 123, 10, 32, 32, 114, 48, 32, 61, 32, 108, 111, 97, 100, 40, 120, 44, 32, 97, 99, 113, 41, 59, 10, 32, 32, 105, 102, 32, 40, 114, 48, 41, 32, 123, 10, 32, 32, 32, 32, 115, 116, 111, 114, 101, 40, 121, 44, 32, 49, 44, 32, 114, 108, 120, 41, 59, 10, 32, 32, 125, 10, 125, 10, 101, 120, 105, 115, 116, 115, 32, 49, 59, 10]))⟩,
    ⟨some 30, none, .mov (.t 29)⟩,
    ⟨some 31, (some (30, true)), .faddr 1 (.t 3)⟩,
    ⟨some 32, (some (30, true)), .load none (.t 31)⟩,
    ⟨some 33, (some (30, true)), .idxas 1 (.t 32) (.c (.int .i64 0))⟩,
    ⟨some 34, (some (30, true)), .load none (.t 33)⟩,
    ⟨some 35, (some (30, true)), .call false 34 [(.t 34)]⟩,
    ⟨some 36, (some (30, true)), .bin .eql (.t 35) (.c (.int .i64 2))⟩,
    ⟨some 37, none, .pick (.t 30) (.t 36) (.c (.bool false))⟩,
    ⟨some 38, none, .mov (.t 37)⟩,
    ⟨some 39, (some (38, true)), .load none (.t 4)⟩,
    ⟨some 40, (some (38, true)), .bin .eql (.t 39) (.c (.int .i64 3))⟩,
    ⟨some 41, none, .pick (.t 38) (.t 40) (.c (.bool false))⟩,
    ⟨some 42, none, .mov (.t 41)⟩,
    ⟨some 43, (some (42, true)), .load (some 4) (.t 3)⟩,
    ⟨some 44, (some (42, true)), .load (some 4) (.t 3)⟩,
    ⟨some 45, (some (42, true)), .call false 40 [(.t 43), (.t 44)]⟩,
    ⟨some 46, none, .pick (.t 42) (.t 45) (.c (.bool false))⟩,
    ⟨some 47, none, .mov (.t 46)⟩,
    ⟨some 48, (some (47, true)), .call false 29 [(.c (.int .u8 6))]⟩,
    ⟨some 49, (some (47, true)), .lensl (.t 48)⟩,
    ⟨some 50, (some (47, true)), .bin .eql (.t 49) (.c (.int .i64 4))⟩,
    ⟨some 51, none, .pick (.t 47) (.t 50) (.c (.bool false))⟩,
    ⟨some 0, none, .mov (.t 51)⟩] [0])
  .ret)))))))⟩

def i36_L0 : ACode :=
  (.seq (.seq (.region [⟨some 37, none, .mov (.t 5)⟩,
    ⟨some 38, none, .mov (.t 4)⟩,
    ⟨some 39, none, .lensl (.t 38)⟩,
    ⟨some 40, none, .bin .lss (.t 37) (.t 39)⟩] [1, 3, 4, 5, 40])
  (.cond (.t 40) .skip
  (.exit 2)))
  (.seq (.block 3 (.seq (.region [⟨some 43, none, .mov (.t 4)⟩,
    ⟨some 44, none, .mov (.t 5)⟩,
    ⟨some 45, none, .idxas 6 (.t 43) (.t 44)⟩,
    ⟨some 46, none, .faddr 4 (.t 45)⟩,
    ⟨some 47, none, .load none (.t 46)⟩,
    ⟨some 48, none, .lensl (.t 47)⟩,
    ⟨some 49, none, .bin .gtr (.t 48) (.c (.int .i64 30))⟩,
    ⟨some 50, none, .mov (.t 49)⟩,
    ⟨some 51, (some (50, false)), .mov (.t 4)⟩,
    ⟨some 52, (some (50, false)), .mov (.t 5)⟩,
    ⟨some 53, (some (50, false)), .idxas 6 (.t 51) (.t 52)⟩,
    ⟨some 54, (some (50, false)), .faddr 5 (.t 53)⟩,
    ⟨some 55, (some (50, false)), .load none (.t 54)⟩,
    ⟨some 56, (some (50, false)), .lensl (.t 55)⟩,
    ⟨some 57, (some (50, false)), .bin .gtr (.t 56) (.c (.int .i64 30))⟩,
    ⟨some 58, none, .pick (.t 50) (.c (.bool true)) (.t 57)⟩] [1, 3, 4, 5, 58])
  (.cond (.t 58) (.seq (.region [⟨some 2, none, .mov (.c (.bool true))⟩] [2])
  .ret)
  .skip)))
  (.region [⟨some 41, none, .mov (.t 5)⟩,
    ⟨some 42, none, .bin .add (.t 41) (.c (.int .i64 1))⟩,
    ⟨some 5, none, .mov (.t 42)⟩] [1, 3, 4, 5])))

def i36_L1 : ACode :=
  (.seq (.seq (.region [⟨some 22, none, .mov (.t 3)⟩,
    ⟨some 23, none, .faddr 1 (.t 1)⟩,
    ⟨some 24, none, .load none (.t 23)⟩,
    ⟨some 25, none, .lensl (.t 24)⟩,
    ⟨some 26, none, .bin .lss (.t 22) (.t 25)⟩] [1, 3, 26])
  (.cond (.t 26) .skip
  (.exit 0)))
  (.seq (.block 1 (.seq (.region [⟨some 29, none, .faddr 1 (.t 1)⟩,
    ⟨some 30, none, .load none (.t 29)⟩,
    ⟨some 31, none, .mov (.t 3)⟩,
    ⟨some 32, none, .idxas 1 (.t 30) (.t 31)⟩,
    ⟨some 33, none, .load none (.t 32)⟩,
    ⟨some 4, none, .mov (.t 33)⟩] [1, 3, 4])
  (.seq (.seq (.region [⟨some 34, none, .mov (.t 4)⟩,
    ⟨some 35, none, .lensl (.t 34)⟩,
    ⟨some 36, none, .bin .gtr (.t 35) (.c (.int .i64 60))⟩] [1, 3, 4, 36])
  (.cond (.t 36) (.seq (.region [⟨some 2, none, .mov (.c (.bool true))⟩] [2])
  .ret)
  .skip))
  (.seq (.region [⟨some 5, none, .mov (.c (.int .i64 0))⟩] [1, 3, 4, 5])
  (.block 2 (.loop [1, 3, 4, 5] i36_L0))))))
  (.region [⟨some 27, none, .mov (.t 3)⟩,
    ⟨some 28, none, .bin .add (.t 27) (.c (.int .i64 1))⟩,
    ⟨some 3, none, .mov (.t 28)⟩] [1, 3])))

/-- troth/trothlaw04.Great -/
def i36 : AFunc := ⟨1, 59, [.tmp 2],
  (.seq (.region [⟨some 1, none, .ibox (.t 0)⟩,
    ⟨some 2, none, .mov (.c (.bool false))⟩] [1])
  (.seq (.seq (.region [⟨some 6, none, .faddr 1 (.t 1)⟩,
    ⟨some 7, none, .load none (.t 6)⟩,
    ⟨some 8, none, .lensl (.t 7)⟩,
    ⟨some 9, none, .bin .gtr (.t 8) (.c (.int .i64 8))⟩,
    ⟨some 10, none, .mov (.t 9)⟩,
    ⟨some 11, (some (10, false)), .faddr 0 (.t 1)⟩,
    ⟨some 12, (some (10, false)), .load none (.t 11)⟩,
    ⟨some 13, (some (10, false)), .lensl (.t 12)⟩,
    ⟨some 14, (some (10, false)), .bin .gtr (.t 13) (.c (.int .i64 10))⟩,
    ⟨some 15, none, .pick (.t 10) (.c (.bool true)) (.t 14)⟩,
    ⟨some 16, none, .mov (.t 15)⟩,
    ⟨some 17, (some (16, false)), .faddr 3 (.t 1)⟩,
    ⟨some 18, (some (16, false)), .load none (.t 17)⟩,
    ⟨some 19, (some (16, false)), .lensl (.t 18)⟩,
    ⟨some 20, (some (16, false)), .bin .gtr (.t 19) (.c (.int .i64 30))⟩,
    ⟨some 21, none, .pick (.t 16) (.c (.bool true)) (.t 20)⟩] [1, 21])
  (.cond (.t 21) (.seq (.region [⟨some 2, none, .mov (.c (.bool true))⟩] [2])
  .ret)
  .skip))
  (.seq (.seq (.region [⟨some 3, none, .mov (.c (.int .i64 0))⟩] [1, 3])
  (.block 0 (.loop [1, 3] i36_L1)))
  (.seq (.region [⟨some 2, none, .mov (.c (.bool false))⟩] [2])
  .ret))))⟩

def i37_L0 : ACode :=
  (.seq (.seq (.region [⟨some 7, none, .mov (.t 3)⟩,
    ⟨some 8, none, .faddr 1 (.t 1)⟩,
    ⟨some 9, none, .load none (.t 8)⟩,
    ⟨some 10, none, .lensl (.t 9)⟩,
    ⟨some 11, none, .bin .lss (.t 7) (.t 10)⟩] [1, 3, 11])
  (.cond (.t 11) .skip
  (.exit 0)))
  (.seq (.block 1 (.seq (.region [⟨some 15, none, .faddr 1 (.t 1)⟩,
    ⟨some 16, none, .load none (.t 15)⟩,
    ⟨some 17, none, .mov (.t 3)⟩,
    ⟨some 18, none, .idxas 1 (.t 16) (.t 17)⟩,
    ⟨some 19, none, .load none (.t 18)⟩,
    ⟨some 20, none, .call false 71 [(.t 19), (.c (.int .i64 0))]⟩,
    ⟨some 14, none, .mov (.t 20)⟩,
    ⟨some 21, none, .ext (.t 14) 0⟩,
    ⟨some 22, none, .ext (.t 14) 1⟩,
    ⟨some 4, none, .mov (.t 21)⟩,
    ⟨some 5, none, .mov (.t 22)⟩] [1, 3, 4])
  (.seq (.region [⟨some 23, none, .mov (.t 4)⟩,
    ⟨some 24, none, .bin .gtr (.t 23) (.c (.int .i64 8))⟩] [1, 3, 24])
  (.cond (.t 24) (.seq (.region [⟨some 2, none, .mov (.c (.bool false))⟩] [2])
  .ret)
  .skip))))
  (.region [⟨some 12, none, .mov (.t 3)⟩,
    ⟨some 13, none, .bin .add (.t 12) (.c (.int .i64 1))⟩,
    ⟨some 3, none, .mov (.t 13)⟩] [1, 3])))

def i37_L1 : ACode :=
  (.seq (.seq (.region [⟨some 25, none, .mov (.t 6)⟩,
    ⟨some 26, none, .faddr 0 (.t 1)⟩,
    ⟨some 27, none, .load none (.t 26)⟩,
    ⟨some 28, none, .lensl (.t 27)⟩,
    ⟨some 29, none, .bin .lss (.t 25) (.t 28)⟩] [1, 6, 29])
  (.cond (.t 29) .skip
  (.exit 2)))
  (.seq (.block 3 (.seq (.region [⟨some 32, none, .faddr 0 (.t 1)⟩,
    ⟨some 33, none, .load none (.t 32)⟩,
    ⟨some 34, none, .mov (.t 6)⟩,
    ⟨some 35, none, .idxas 2 (.t 33) (.t 34)⟩,
    ⟨some 36, none, .faddr 0 (.t 35)⟩,
    ⟨some 37, none, .load none (.t 36)⟩,
    ⟨some 38, none, .bin .gtr (.t 37) (.c (.int .u8 127))⟩] [1, 6, 38])
  (.cond (.t 38) (.seq (.region [⟨some 2, none, .mov (.c (.bool false))⟩] [2])
  .ret)
  .skip)))
  (.region [⟨some 30, none, .mov (.t 6)⟩,
    ⟨some 31, none, .bin .add (.t 30) (.c (.int .i64 1))⟩,
    ⟨some 6, none, .mov (.t 31)⟩] [1, 6])))

/-- troth/trothlaw04.Shallow -/
def i37 : AFunc := ⟨1, 39, [.tmp 2],
  (.seq (.region [⟨some 1, none, .ibox (.t 0)⟩,
    ⟨some 2, none, .mov (.c (.bool false))⟩] [1])
  (.seq (.seq (.region [⟨some 3, none, .mov (.c (.int .i64 0))⟩] [1, 3])
  (.block 0 (.loop [1, 3] i37_L0)))
  (.seq (.seq (.region [⟨some 6, none, .mov (.c (.int .i64 0))⟩] [1, 6])
  (.block 2 (.loop [1, 6] i37_L1)))
  (.seq (.region [⟨some 2, none, .mov (.c (.bool true))⟩] [2])
  .ret))))⟩

def i38_L0 : ACode :=
  (.seq (.seq (.region [⟨some 10, none, .mov (.t 3)⟩,
    ⟨some 11, none, .faddr 0 (.t 1)⟩,
    ⟨some 12, none, .load none (.t 11)⟩,
    ⟨some 13, none, .lensl (.t 12)⟩,
    ⟨some 14, none, .bin .lss (.t 10) (.t 13)⟩] [1, 3, 14])
  (.cond (.t 14) .skip
  (.exit 0)))
  (.seq (.block 1 (.seq (.region [⟨some 17, none, .faddr 0 (.t 1)⟩,
    ⟨some 18, none, .load none (.t 17)⟩,
    ⟨some 19, none, .mov (.t 3)⟩,
    ⟨some 20, none, .idxas 2 (.t 18) (.t 19)⟩,
    ⟨some 21, none, .faddr 0 (.t 20)⟩,
    ⟨some 22, none, .load none (.t 21)⟩,
    ⟨some 23, none, .bin .lss (.t 22) (.c (.int .u8 97))⟩,
    ⟨some 24, none, .mov (.t 23)⟩,
    ⟨some 25, (some (24, false)), .faddr 0 (.t 1)⟩,
    ⟨some 26, (some (24, false)), .load none (.t 25)⟩,
    ⟨some 27, (some (24, false)), .mov (.t 3)⟩,
    ⟨some 28, (some (24, false)), .idxas 2 (.t 26) (.t 27)⟩,
    ⟨some 29, (some (24, false)), .faddr 0 (.t 28)⟩,
    ⟨some 30, (some (24, false)), .load none (.t 29)⟩,
    ⟨some 31, (some (24, false)), .bin .gtr (.t 30) (.c (.int .u8 122))⟩,
    ⟨some 32, none, .pick (.t 24) (.c (.bool true)) (.t 31)⟩] [1, 3, 32])
  (.cond (.t 32) (.seq (.region [⟨some 2, none, .mov (.c (.bool false))⟩] [2])
  .ret)
  .skip)))
  (.region [⟨some 15, none, .mov (.t 3)⟩,
    ⟨some 16, none, .bin .add (.t 15) (.c (.int .i64 1))⟩,
    ⟨some 3, none, .mov (.t 16)⟩] [1, 3])))

def i38_L1 : ACode :=
  (.seq (.seq (.region [⟨some 40, none, .mov (.t 5)⟩,
    ⟨some 41, none, .faddr 1 (.t 1)⟩,
    ⟨some 42, none, .load none (.t 41)⟩,
    ⟨some 43, none, .mov (.t 4)⟩,
    ⟨some 44, none, .idxas 1 (.t 42) (.t 43)⟩,
    ⟨some 45, none, .load none (.t 44)⟩,
    ⟨some 46, none, .lensl (.t 45)⟩,
    ⟨some 47, none, .bin .lss (.t 40) (.t 46)⟩] [1, 4, 5, 47])
  (.cond (.t 47) .skip
  (.exit 4)))
  (.seq (.block 5 (.seq (.region [⟨some 50, none, .faddr 1 (.t 1)⟩,
    ⟨some 51, none, .load none (.t 50)⟩,
    ⟨some 52, none, .mov (.t 4)⟩,
    ⟨some 53, none, .idxas 1 (.t 51) (.t 52)⟩,
    ⟨some 54, none, .load none (.t 53)⟩,
    ⟨some 55, none, .mov (.t 5)⟩,
    ⟨some 56, none, .idxas 6 (.t 54) (.t 55)⟩,
    ⟨some 57, none, .load (some 6) (.t 56)⟩,
    ⟨some 58, none, .call false 73 [(.t 57)]⟩,
    ⟨some 59, none, .un .not (.t 58)⟩] [1, 4, 5, 59])
  (.cond (.t 59) (.seq (.region [⟨some 2, none, .mov (.c (.bool false))⟩] [2])
  .ret)
  .skip)))
  (.region [⟨some 48, none, .mov (.t 5)⟩,
    ⟨some 49, none, .bin .add (.t 48) (.c (.int .i64 1))⟩,
    ⟨some 5, none, .mov (.t 49)⟩] [1, 4, 5])))

def i38_L2 : ACode :=
  (.seq (.seq (.region [⟨some 33, none, .mov (.t 4)⟩,
    ⟨some 34, none, .faddr 1 (.t 1)⟩,
    ⟨some 35, none, .load none (.t 34)⟩,
    ⟨some 36, none, .lensl (.t 35)⟩,
    ⟨some 37, none, .bin .lss (.t 33) (.t 36)⟩] [1, 4, 37])
  (.cond (.t 37) .skip
  (.exit 2)))
  (.seq (.block 3 (.seq (.region [⟨some 5, none, .mov (.c (.int .i64 0))⟩] [1, 4, 5])
  (.block 4 (.loop [1, 4, 5] i38_L1))))
  (.region [⟨some 38, none, .mov (.t 4)⟩,
    ⟨some 39, none, .bin .add (.t 38) (.c (.int .i64 1))⟩,
    ⟨some 4, none, .mov (.t 39)⟩] [1, 4])))

/-- troth/trothlaw04.Proper -/
def i38 : AFunc := ⟨1, 60, [.tmp 2],
  (.seq (.region [⟨some 1, none, .ibox (.t 0)⟩,
    ⟨some 2, none, .mov (.c (.bool false))⟩] [1])
  (.seq (.seq (.region [⟨some 6, none, .faddr 3 (.t 1)⟩,
    ⟨some 7, none, .load none (.t 6)⟩,
    ⟨some 8, none, .call false 72 [(.t 7)]⟩,
    ⟨some 9, none, .bin .eql (.t 8) (.c (.str []))⟩] [1, 9])
  (.cond (.t 9) (.seq (.region [⟨some 2, none, .mov (.c (.bool false))⟩] [2])
  .ret)
  .skip))
  (.seq (.seq (.region [⟨some 3, none, .mov (.c (.int .i64 0))⟩] [1, 3])
  (.block 0 (.loop [1, 3] i38_L0)))
  (.seq (.seq (.region [⟨some 4, none, .mov (.c (.int .i64 0))⟩] [1, 4])
  (.block 2 (.loop [1, 4] i38_L2)))
  (.seq (.region [⟨some 2, none, .mov (.c (.bool true))⟩] [2])
  .ret)))))⟩

def i39_L0 : ACode :=
  (.seq (.seq (.region [⟨some 14, none, .mov (.t 4)⟩,
    ⟨some 15, none, .faddr 0 (.t 1)⟩,
    ⟨some 16, none, .load none (.t 15)⟩,
    ⟨some 17, none, .lensl (.t 16)⟩,
    ⟨some 18, none, .bin .lss (.t 14) (.t 17)⟩] [1, 2, 3, 4, 18])
  (.cond (.t 18) .skip
  (.exit 0)))
  (.seq (.block 1 (.draw [⟨some 21, none, .faddr 0 (.t 3)⟩,
    ⟨some 22, none, .load none (.t 21)⟩,
    ⟨some 23, none, .faddr 0 (.t 1)⟩,
    ⟨some 24, none, .load none (.t 23)⟩,
    ⟨some 25, none, .mov (.t 4)⟩,
    ⟨some 26, none, .idxas 2 (.t 24) (.t 25)⟩,
    ⟨some 27, none, .faddr 0 (.t 26)⟩,
    ⟨some 28, none, .load none (.t 27)⟩,
    ⟨some 29, none, .faddr 0 (.t 1)⟩,
    ⟨some 30, none, .load none (.t 29)⟩,
    ⟨some 31, none, .mov (.t 4)⟩,
    ⟨some 32, none, .idxas 2 (.t 30) (.t 31)⟩,
    ⟨some 33, none, .faddr 1 (.t 32)⟩,
    ⟨some 34, none, .load none (.t 33)⟩,
    ⟨some 35, none, .build [(.int .u8 0), (.int .u64 0)] [(0, 1, (.t 28)), (1, 1, (.t 34))]⟩,
    ⟨some 36, none, .bslice 111 2 [(.int .u8 0), (.int .u64 0)] 1 [(0, (.t 35))]⟩,
    ⟨some 37, none, .app 111 2 16 (.t 22) (.t 36)⟩,
    ⟨some 38, none, .faddr 0 (.t 3)⟩,
    ⟨none, none, .store 1 (.t 38) (.t 37)⟩] [[], [0], [], [2], [], [2, 3, 4], [2, 3, 4, 5], [2, 3, 4, 5, 6], [], [8], [], [8, 9, 10], [8, 9, 10, 11], [8, 9, 10, 11, 12], [2, 3, 4, 5, 6, 7, 8, 9, 10, 11, 12, 13], [2, 3, 4, 5, 6, 7, 8, 9, 10, 11, 12, 13, 14], [0, 1, 2, 3, 4, 5, 6, 7, 8, 9, 10, 11, 12, 13, 14, 15], [0, 1, 2, 3, 4, 5, 6, 7, 8, 9, 10, 11, 12, 13, 14, 15, 16], [0, 1, 2, 3, 4, 5, 6, 7, 8, 9, 10, 11, 12, 13, 14, 15, 16, 17]] [1, 2, 3, 4]))
  (.region [⟨some 19, none, .mov (.t 4)⟩,
    ⟨some 20, none, .bin .add (.t 19) (.c (.int .i64 1))⟩,
    ⟨some 4, none, .mov (.t 20)⟩] [1, 2, 3, 4])))

def i39_L1 : ACode :=
  (.seq (.seq (.region [⟨some 39, none, .mov (.t 5)⟩,
    ⟨some 40, none, .faddr 1 (.t 1)⟩,
    ⟨some 41, none, .load none (.t 40)⟩,
    ⟨some 42, none, .lensl (.t 41)⟩,
    ⟨some 43, none, .bin .lss (.t 39) (.t 42)⟩] [1, 2, 3, 5, 43])
  (.cond (.t 43) .skip
  (.exit 2)))
  (.seq (.block 3 (.seq (.region [⟨some 47, none, .faddr 1 (.t 1)⟩,
    ⟨some 48, none, .load none (.t 47)⟩,
    ⟨some 49, none, .mov (.t 5)⟩,
    ⟨some 50, none, .idxas 1 (.t 48) (.t 49)⟩,
    ⟨some 51, none, .load none (.t 50)⟩,
    ⟨some 52, none, .call false 75 [(.t 51), (.c (.int .i64 0))]⟩,
    ⟨some 46, none, .mov (.t 52)⟩,
    ⟨some 53, none, .ext (.t 46) 0⟩,
    ⟨some 54, none, .ext (.t 46) 1⟩,
    ⟨some 6, none, .mov (.t 53)⟩,
    ⟨some 7, none, .mov (.t 54)⟩] [1, 2, 3, 5, 6])
  (.region [⟨some 55, none, .faddr 1 (.t 3)⟩,
    ⟨some 56, none, .load none (.t 55)⟩,
    ⟨some 57, none, .mov (.t 6)⟩,
    ⟨some 58, none, .bslice 70 1 [(.sl 8 [] .exact)] 1 [(0, (.t 57))]⟩,
    ⟨some 59, none, .app 70 1 24 (.t 56) (.t 58)⟩,
    ⟨some 60, none, .faddr 1 (.t 3)⟩,
    ⟨none, none, .store 1 (.t 60) (.t 59)⟩] [1, 2, 3, 5])))
  (.region [⟨some 44, none, .mov (.t 5)⟩,
    ⟨some 45, none, .bin .add (.t 44) (.c (.int .i64 1))⟩,
    ⟨some 5, none, .mov (.t 45)⟩] [1, 2, 3, 5])))

/-- troth/trothlaw04.Of -/
def i39 : AFunc := ⟨1, 62, [.cell 2 (some 4)],
  (.seq (.region [⟨some 1, none, .ibox (.t 0)⟩,
    ⟨some 2, none, .alloc [(.sl 2 [] .exact), (.sl 1 [] .exact), (.bool false), .nilp] 85⟩] [1, 2])
  (.seq (.draw [⟨some 8, none, .faddr 2 (.t 1)⟩,
    ⟨some 9, none, .load none (.t 8)⟩,
    ⟨some 10, none, .faddr 3 (.t 1)⟩,
    ⟨some 11, none, .load none (.t 10)⟩,
    ⟨some 12, none, .call false 74 [(.t 11)]⟩,
    ⟨some 13, none, .build [(.sl 2 [] .exact), (.sl 1 [] .exact), (.bool false), .nilp] [(2, 1, (.t 9)), (3, 1, (.t 12))]⟩,
    ⟨some 3, none, .alloc [(.sl 2 [] .exact), (.sl 1 [] .exact), (.bool false), .nilp] 85⟩,
    ⟨none, none, .store 4 (.t 3) (.t 13)⟩] [[], [0], [], [2], [2, 3], [0, 1, 2, 3, 4], [], [0, 1, 2, 3, 4, 5, 6]] [1, 2, 3])
  (.seq (.seq (.region [⟨some 4, none, .mov (.c (.int .i64 0))⟩] [1, 2, 3, 4])
  (.block 0 (.loop [1, 2, 3, 4] i39_L0)))
  (.seq (.seq (.region [⟨some 5, none, .mov (.c (.int .i64 0))⟩] [1, 2, 3, 5])
  (.block 2 (.loop [1, 2, 3, 5] i39_L1)))
  (.seq (.region [⟨some 61, none, .load (some 4) (.t 3)⟩,
    ⟨none, none, .store 4 (.t 2) (.t 61)⟩] [2])
  .ret)))))⟩

/-- troth/prog.Same -/
def i40 : AFunc := ⟨2, 31, [.tmp 4],
  (.seq (.region [⟨some 2, none, .ibox (.t 0)⟩,
    ⟨some 3, none, .ibox (.t 1)⟩,
    ⟨some 4, none, .mov (.c (.bool false))⟩] [2, 3])
  (.seq (.region [⟨some 5, none, .faddr 0 (.t 2)⟩,
    ⟨some 6, none, .load none (.t 5)⟩,
    ⟨some 7, none, .faddr 0 (.t 3)⟩,
    ⟨some 8, none, .load none (.t 7)⟩,
    ⟨some 9, none, .call false 76 [(.t 6), (.t 8)]⟩,
    ⟨some 10, none, .mov (.t 9)⟩,
    ⟨some 11, (some (10, true)), .faddr 2 (.t 2)⟩,
    ⟨some 12, (some (10, true)), .load none (.t 11)⟩,
    ⟨some 13, (some (10, true)), .faddr 2 (.t 3)⟩,
    ⟨some 14, (some (10, true)), .load none (.t 13)⟩,
    ⟨some 15, (some (10, true)), .eqb false (.scalar .b) (.t 12) (.t 14)⟩,
    ⟨some 16, none, .pick (.t 10) (.t 15) (.c (.bool false))⟩,
    ⟨some 17, none, .mov (.t 16)⟩,
    ⟨some 18, (some (17, true)), .faddr 3 (.t 2)⟩,
    ⟨some 19, (some (17, true)), .load none (.t 18)⟩,
    ⟨some 20, (some (17, true)), .faddr 3 (.t 3)⟩,
    ⟨some 21, (some (17, true)), .load none (.t 20)⟩,
    ⟨some 22, (some (17, true)), .call false 77 [(.t 19), (.t 21)]⟩,
    ⟨some 23, none, .pick (.t 17) (.t 22) (.c (.bool false))⟩,
    ⟨some 24, none, .mov (.t 23)⟩,
    ⟨some 25, (some (24, true)), .faddr 1 (.t 2)⟩,
    ⟨some 26, (some (24, true)), .load none (.t 25)⟩,
    ⟨some 27, (some (24, true)), .faddr 1 (.t 3)⟩,
    ⟨some 28, (some (24, true)), .load none (.t 27)⟩,
    ⟨some 29, (some (24, true)), .call false 78 [(.t 26), (.t 28), (.c (.fn (.func 79) [] []))]⟩,
    ⟨some 30, none, .pick (.t 24) (.t 29) (.c (.bool false))⟩,
    ⟨some 4, none, .mov (.t 30)⟩] [4])
  .ret))⟩

def i41_L0 : ACode :=
  (.seq (.region [⟨some 15, none, .bin .lss (.t 14) (.t 13)⟩] [1, 3, 4, 12, 13, 14, 15])
  (.seq (.cond (.t 15) .skip
  (.exit 0))
  (.seq (.block 1 (.seq (.region [⟨some 16, none, .idxas 2 (.t 12) (.t 14)⟩,
    ⟨some 17, none, .load (some 2) (.t 16)⟩,
    ⟨some 6, none, .alloc [(.int .u8 0), (.int .u64 0)] 111⟩,
    ⟨none, none, .store 2 (.t 6) (.t 17)⟩] [1, 3, 4, 6, 12, 13, 14])
  (.draw [⟨some 18, none, .mov (.t 4)⟩,
    ⟨some 19, none, .faddr 0 (.t 6)⟩,
    ⟨some 20, none, .load none (.t 19)⟩,
    ⟨some 21, none, .bslice 5 1 [(.int .u8 0)] 1 [(0, (.t 20))]⟩,
    ⟨some 22, none, .cvb2s (.t 21)⟩,
    ⟨some 23, none, .bin .add (.c (.str [105, 110, 105, 116, 32])) (.t 22)⟩,
    ⟨some 24, none, .bin .add (.t 23) (.c (.str [32, 61, 32]))⟩,
    ⟨some 25, none, .faddr 1 (.t 6)⟩,
    ⟨some 26, none, .load none (.t 25)⟩,
    ⟨some 27, none, .call false 84 [(.t 26), (.c (.int .i64 10))]⟩,
    ⟨some 28, none, .bin .add (.t 24) (.t 27)⟩,
    ⟨some 29, none, .bin .add (.t 28) (.c (.str [59]))⟩,
    ⟨some 30, none, .callv true (.t 18) [(.c (.int .i64 0)), (.t 29)]⟩] [[], [], [1], [1, 2], [1, 2, 3], [1, 2, 3, 4], [1, 2, 3, 4, 5], [], [7], [7, 8], [1, 2, 3, 4, 5, 6, 7, 8, 9], [1, 2, 3, 4, 5, 6, 7, 8, 9, 10], [0, 1, 2, 3, 4, 5, 6, 7, 8, 9, 10, 11]] [1, 3, 4, 12, 13, 14])))
  (.region [⟨some 31, none, .bin .add (.t 14) (.c (.int .i64 1))⟩,
    ⟨some 14, none, .mov (.t 31)⟩] [1, 3, 4, 12, 13, 14]))))

def i41_L1 : ACode :=
  (.seq (.region [⟨some 36, none, .bin .lss (.t 35) (.t 34)⟩] [1, 3, 4, 33, 34, 35, 36])
  (.seq (.cond (.t 36) .skip
  (.exit 2))
  (.seq (.block 3 (.seq (.region [⟨some 37, none, .idxas 1 (.t 33) (.t 35)⟩,
    ⟨some 38, none, .load none (.t 37)⟩,
    ⟨some 8, none, .mov (.t 38)⟩] [1, 3, 4, 8, 33, 34, 35])
  (.seq (.region [⟨some 39, none, .mov (.t 4)⟩,
    ⟨some 40, none, .callv true (.t 39) [(.c (.int .i64 0)), (.c (.str [116, 104, 114, 101, 97, 100, 32, 123]))]⟩] [1, 3, 4, 8, 33, 34, 35])
  (.seq (.region [⟨some 41, none, .mov (.t 4)⟩,
    ⟨some 42, none, .mov (.t 8)⟩,
    ⟨some 43, none, .call true 85 [(.t 41), (.t 42), (.c (.int .i64 1))]⟩] [1, 3, 4, 33, 34, 35])
  (.region [⟨some 44, none, .mov (.t 4)⟩,
    ⟨some 45, none, .callv true (.t 44) [(.c (.int .i64 0)), (.c (.str [125]))]⟩] [1, 3, 4, 33, 34, 35])))))
  (.region [⟨some 46, none, .bin .add (.t 35) (.c (.int .i64 1))⟩,
    ⟨some 35, none, .mov (.t 46)⟩] [1, 3, 4, 33, 34, 35]))))

/-- (troth/prog.Test).Text -/
def i41 : AFunc := ⟨1, 58, [.tmp 2],
  (.seq (.region [⟨some 1, none, .ibox (.t 0)⟩,
    ⟨some 2, none, .mov (.c (.str []))⟩] [1])
  (.seq (.region [⟨some 3, none, .alloc [.nilp, (.sl 1 [] .exact)] 128⟩] [1, 3])
  (.seq (.region [⟨some 10, none, .mkfn (.func 81) [] [(.t 3)]⟩,
    ⟨some 4, none, .mov (.t 10)⟩] [1, 3, 4])
  (.seq (.seq (.region [⟨some 11, none, .faddr 0 (.t 1)⟩,
    ⟨some 12, none, .load none (.t 11)⟩,
    ⟨some 13, none, .lensl (.t 12)⟩,
    ⟨some 14, none, .mov (.c (.int .i64 0))⟩] [1, 3, 4, 12, 13, 14])
  (.block 0 (.loop [1, 3, 4, 12, 13, 14] i41_L0)))
  (.seq (.seq (.region [⟨some 32, none, .faddr 1 (.t 1)⟩,
    ⟨some 33, none, .load none (.t 32)⟩,
    ⟨some 34, none, .lensl (.t 33)⟩,
    ⟨some 35, none, .mov (.c (.int .i64 0))⟩] [1, 3, 4, 33, 34, 35])
  (.block 2 (.loop [1, 3, 4, 33, 34, 35] i41_L1)))
  (.seq (.region [⟨some 9, none, .mov (.c (.str [101, 120, 105, 115, 116, 115, 32]))⟩] [1, 3, 4, 9])
  (.seq (.seq (.region [⟨some 47, none, .faddr 2 (.t 1)⟩,
    ⟨some 48, none, .load none (.t 47)⟩] [1, 3, 4, 9, 48])
  (.cond (.t 48) (.region [⟨some 9, none, .mov (.c (.str [102, 111, 114, 97, 108, 108, 32]))⟩] [1, 3, 4, 9])
  .skip))
  (.seq (.region [⟨some 49, none, .mov (.t 4)⟩,
    ⟨some 50, none, .mov (.t 9)⟩,
    ⟨some 51, none, .faddr 3 (.t 1)⟩,
    ⟨some 52, none, .load none (.t 51)⟩,
    ⟨some 53, none, .call false 15 [(.t 52)]⟩,
    ⟨some 54, none, .bin .add (.t 50) (.t 53)⟩,
    ⟨some 55, none, .bin .add (.t 54) (.c (.str [59]))⟩,
    ⟨some 56, none, .callv true (.t 49) [(.c (.int .i64 0)), (.t 55)]⟩] [3])
  (.seq (.region [⟨some 57, none, .call true 86 [(.t 3)]⟩,
    ⟨some 2, none, .mov (.t 57)⟩] [2])
  .ret)))))))))⟩

/-- troth/trothlaw03.wakes$1 -/
def i42 : AFunc := ⟨1, 3, [.tmp 2],
  (.seq (.region [⟨some 1, none, .ibox (.t 0)⟩,
    ⟨some 2, none, .mov (.c (.int .u64 0))⟩] [])
  (.seq (.region [⟨some 2, none, .mov (.c (.int .u64 20))⟩] [2])
  .ret))⟩

/-- troth/expr.same -/
def i43 : AFunc := ⟨2, 51, [.tmp 4],
  (.seq (.region [⟨some 4, none, .mov (.c (.bool false))⟩] [0, 1])
  (.seq (.seq (.region [⟨some 7, none, .mov (.t 0)⟩,
    ⟨some 8, none, .eqb false (.scalar .p) (.t 7) (.c .nilp)⟩,
    ⟨some 9, none, .mov (.t 8)⟩,
    ⟨some 10, (some (9, false)), .mov (.t 1)⟩,
    ⟨some 11, (some (9, false)), .eqb false (.scalar .p) (.t 10) (.c .nilp)⟩,
    ⟨some 12, none, .pick (.t 9) (.c (.bool true)) (.t 11)⟩] [0, 1, 12])
  (.cond (.t 12) (.seq (.region [⟨some 13, none, .mov (.t 0)⟩,
    ⟨some 14, none, .mov (.t 1)⟩,
    ⟨some 15, none, .eqb false (.scalar .p) (.t 13) (.t 14)⟩,
    ⟨some 4, none, .mov (.t 15)⟩] [4])
  .ret)
  .skip))
  (.seq (.draw [⟨some 16, none, .mov (.t 0)⟩,
    ⟨some 17, none, .nilchk (.t 16)⟩,
    ⟨some 18, none, .load (some 8) (.t 17)⟩,
    ⟨some 19, none, .mov (.t 1)⟩,
    ⟨some 20, none, .nilchk (.t 19)⟩,
    ⟨some 21, none, .load (some 8) (.t 20)⟩,
    ⟨some 5, none, .alloc [(.int .u8 0), (.int .u8 0), (.int .u64 0), (.int .u8 0), (.int .u8 0), (.int .u8 0), .nilp, .nilp] 38⟩,
    ⟨some 6, none, .alloc [(.int .u8 0), (.int .u8 0), (.int .u64 0), (.int .u8 0), (.int .u8 0), (.int .u8 0), .nilp, .nilp] 38⟩,
    ⟨none, none, .store 8 (.t 5) (.t 18)⟩,
    ⟨none, none, .store 8 (.t 6) (.t 21)⟩] [[], [0], [0, 1], [], [3], [3, 4], [], [], [0, 1, 2, 6, 7], [0, 1, 2, 3, 4, 5, 6, 7, 8]] [0, 1, 5, 6])
  (.seq (.region [⟨some 22, none, .faddr 6 (.t 5)⟩,
    ⟨none, none, .store 1 (.t 22) (.c .nilp)⟩,
    ⟨some 23, none, .faddr 7 (.t 5)⟩,
    ⟨none, none, .store 1 (.t 23) (.c .nilp)⟩,
    ⟨some 24, none, .faddr 6 (.t 6)⟩,
    ⟨none, none, .store 1 (.t 24) (.c .nilp)⟩,
    ⟨some 25, none, .faddr 7 (.t 6)⟩,
    ⟨none, none, .store 1 (.t 25) (.c .nilp)⟩] [0, 1, 5, 6])
  (.seq (.draw [⟨some 26, none, .load (some 8) (.t 5)⟩,
    ⟨some 27, none, .load (some 8) (.t 6)⟩,
    ⟨some 28, none, .eqb false (.fields [(0, 1, false, (.scalar .i)), (1, 1, false, (.scalar .i)), (2, 1, false, (.scalar .i)), (3, 1, false, (.scalar .i)), (4, 1, false, (.scalar .i)), (5, 1, false, (.scalar .i)), (6, 1, false, (.scalar .p)), (7, 1, false, (.scalar .p))]) (.t 26) (.t 27)⟩,
    ⟨some 29, none, .mov (.t 28)⟩,
    ⟨some 30, (some (29, true)), .mov (.t 0)⟩,
    ⟨some 31, (some (29, true)), .nilchk (.t 30)⟩,
    ⟨some 32, (some (29, true)), .faddr 6 (.t 31)⟩,
    ⟨some 33, (some (29, true)), .load none (.t 32)⟩,
    ⟨some 34, (some (29, true)), .mov (.t 1)⟩,
    ⟨some 35, (some (29, true)), .nilchk (.t 34)⟩,
    ⟨some 36, (some (29, true)), .faddr 6 (.t 35)⟩,
    ⟨some 37, (some (29, true)), .load none (.t 36)⟩,
    ⟨some 38, (some (29, true)), .call false 43 [(.t 33), (.t 37)]⟩,
    ⟨some 39, none, .pick (.t 29) (.t 38) (.c (.bool false))⟩,
    ⟨some 40, none, .mov (.t 39)⟩,
    ⟨some 41, (some (40, true)), .mov (.t 0)⟩,
    ⟨some 42, (some (40, true)), .nilchk (.t 41)⟩,
    ⟨some 43, (some (40, true)), .faddr 7 (.t 42)⟩,
    ⟨some 44, (some (40, true)), .load none (.t 43)⟩,
    ⟨some 45, (some (40, true)), .mov (.t 1)⟩,
    ⟨some 46, (some (40, true)), .nilchk (.t 45)⟩,
    ⟨some 47, (some (40, true)), .faddr 7 (.t 46)⟩,
    ⟨some 48, (some (40, true)), .load none (.t 47)⟩,
    ⟨some 49, (some (40, true)), .call false 43 [(.t 44), (.t 48)]⟩,
    ⟨some 50, none, .pick (.t 40) (.t 49) (.c (.bool false))⟩,
    ⟨some 4, none, .mov (.t 50)⟩] [[], [], [0, 1], [0, 1, 2], [0, 1, 2, 3], [0, 1, 2, 3, 4], [0, 1, 2, 3, 4, 5], [0, 1, 2, 3, 4, 5, 6], [0, 1, 2, 3], [0, 1, 2, 3, 8], [0, 1, 2, 3, 8, 9], [0, 1, 2, 3, 8, 9, 10], [0, 1, 2, 3, 4, 5, 6, 7, 8, 9, 10, 11], [0, 1, 2, 3, 4, 5, 6, 7, 8, 9, 10, 11, 12], [0, 1, 2, 3, 4, 5, 6, 7, 8, 9, 10, 11, 12, 13], [0, 1, 2, 3, 4, 5, 6, 7, 8, 9, 10, 11, 12, 13, 14], [0, 1, 2, 3, 4, 5, 6, 7, 8, 9, 10, 11, 12, 13, 14, 15], [0, 1, 2, 3, 4, 5, 6, 7, 8, 9, 10, 11, 12, 13, 14, 15, 16], [0, 1, 2, 3, 4, 5, 6, 7, 8, 9, 10, 11, 12, 13, 14, 15, 16, 17], [0, 1, 2, 3, 4, 5, 6, 7, 8, 9, 10, 11, 12, 13, 14], [0, 1, 2, 3, 4, 5, 6, 7, 8, 9, 10, 11, 12, 13, 14, 19], [0, 1, 2, 3, 4, 5, 6, 7, 8, 9, 10, 11, 12, 13, 14, 19, 20], [0, 1, 2, 3, 4, 5, 6, 7, 8, 9, 10, 11, 12, 13, 14, 19, 20, 21], [0, 1, 2, 3, 4, 5, 6, 7, 8, 9, 10, 11, 12, 13, 14, 15, 16, 17, 18, 19, 20, 21, 22], [0, 1, 2, 3, 4, 5, 6, 7, 8, 9, 10, 11, 12, 13, 14, 15, 16, 17, 18, 19, 20, 21, 22, 23], [0, 1, 2, 3, 4, 5, 6, 7, 8, 9, 10, 11, 12, 13, 14, 15, 16, 17, 18, 19, 20, 21, 22, 23, 24]] [4])
  .ret)))))⟩

/-- (*troth/expr.Expr).text -/
def i44 : AFunc := ⟨1, 85, [.tmp 2],
  (.seq (.region [⟨some 2, none, .mov (.c (.str []))⟩] [0])
  (.seq (.seq (.region [⟨some 4, none, .mov (.t 0)⟩,
    ⟨some 5, none, .nilchk (.t 4)⟩,
    ⟨some 6, none, .faddr 0 (.t 5)⟩,
    ⟨some 7, none, .load none (.t 6)⟩] [0, 7])
  (.block 0 (.seq (.region [⟨some 9, none, .bin .eql (.t 7) (.c (.int .u8 0))⟩,
    ⟨some 8, none, .mov (.t 9)⟩] [0, 7, 8])
  (.cond (.t 8) (.seq (.region [⟨some 10, none, .mov (.t 0)⟩,
    ⟨some 11, none, .nilchk (.t 10)⟩,
    ⟨some 12, none, .faddr 2 (.t 11)⟩,
    ⟨some 13, none, .load none (.t 12)⟩,
    ⟨some 14, none, .call false 84 [(.t 13), (.c (.int .i64 10))]⟩,
    ⟨some 2, none, .mov (.t 14)⟩] [2])
  .ret)
  (.seq (.region [⟨some 16, none, .bin .eql (.t 7) (.c (.int .u8 1))⟩,
    ⟨some 15, none, .mov (.t 16)⟩] [0, 7, 15])
  (.cond (.t 15) (.seq (.region [⟨some 17, none, .mov (.t 0)⟩,
    ⟨some 18, none, .nilchk (.t 17)⟩,
    ⟨some 19, none, .faddr 4 (.t 18)⟩,
    ⟨some 20, none, .load none (.t 19)⟩,
    ⟨some 21, none, .cvi .i64 (.t 20)⟩,
    ⟨some 22, none, .call false 87 [(.t 21)]⟩,
    ⟨some 23, none, .bin .add (.c (.str [114])) (.t 22)⟩,
    ⟨some 2, none, .mov (.t 23)⟩] [2])
  .ret)
  (.seq (.region [⟨some 25, none, .bin .eql (.t 7) (.c (.int .u8 2))⟩,
    ⟨some 24, none, .mov (.t 25)⟩] [0, 7, 24])
  (.cond (.t 24) (.seq (.draw [⟨some 26, none, .mov (.t 0)⟩,
    ⟨some 27, none, .nilchk (.t 26)⟩,
    ⟨some 28, none, .faddr 3 (.t 27)⟩,
    ⟨some 29, none, .load none (.t 28)⟩,
    ⟨some 30, none, .cvi .i64 (.t 29)⟩,
    ⟨some 31, none, .call false 87 [(.t 30)]⟩,
    ⟨some 32, none, .bin .add (.t 31) (.c (.str [58, 114]))⟩,
    ⟨some 33, none, .mov (.t 0)⟩,
    ⟨some 34, none, .nilchk (.t 33)⟩,
    ⟨some 35, none, .faddr 4 (.t 34)⟩,
    ⟨some 36, none, .load none (.t 35)⟩,
    ⟨some 37, none, .cvi .i64 (.t 36)⟩,
    ⟨some 38, none, .call false 87 [(.t 37)]⟩,
    ⟨some 39, none, .bin .add (.t 32) (.t 38)⟩,
    ⟨some 2, none, .mov (.t 39)⟩] [[], [0], [0, 1], [0, 1, 2], [0, 1, 2, 3], [0, 1, 2, 3, 4], [0, 1, 2, 3, 4, 5], [], [7], [7, 8], [7, 8, 9], [7, 8, 9, 10], [0, 1, 2, 3, 4, 5, 7, 8, 9, 10, 11], [0, 1, 2, 3, 4, 5, 6, 7, 8, 9, 10, 11, 12], [0, 1, 2, 3, 4, 5, 6, 7, 8, 9, 10, 11, 12, 13]] [2])
  .ret)
  (.seq (.region [⟨some 41, none, .bin .eql (.t 7) (.c (.int .u8 3))⟩,
    ⟨some 40, none, .mov (.t 41)⟩] [0, 7, 40])
  (.cond (.t 40) (.seq (.region [⟨some 42, none, .mov (.t 0)⟩,
    ⟨some 43, none, .nilchk (.t 42)⟩,
    ⟨some 44, none, .faddr 5 (.t 43)⟩,
    ⟨some 45, none, .load none (.t 44)⟩,
    ⟨some 46, none, .cvi .i32 (.t 45)⟩,
    ⟨some 47, none, .cvrune (.t 46)⟩,
    ⟨some 2, none, .mov (.t 47)⟩] [2])
  .ret)
  (.seq (.region [⟨some 49, none, .bin .eql (.t 7) (.c (.int .u8 4))⟩,
    ⟨some 48, none, .mov (.t 49)⟩] [0, 48])
  (.cond (.t 48) (.seq (.draw [⟨some 50, none, .mov (.t 0)⟩,
    ⟨some 51, none, .nilchk (.t 50)⟩,
    ⟨some 52, none, .faddr 1 (.t 51)⟩,
    ⟨some 53, none, .load none (.t 52)⟩,
    ⟨some 54, none, .call false 88 [(.t 53)]⟩,
    ⟨some 55, none, .mov (.t 0)⟩,
    ⟨some 56, none, .nilchk (.t 55)⟩,
    ⟨some 57, none, .faddr 6 (.t 56)⟩,
    ⟨some 58, none, .load none (.t 57)⟩,
    ⟨some 59, none, .call false 89 [(.t 58), (.c (.int .i64 4))]⟩,
    ⟨some 60, none, .bin .add (.t 54) (.t 59)⟩,
    ⟨some 2, none, .mov (.t 60)⟩] [[], [0], [0, 1], [0, 1, 2], [0, 1, 2, 3], [], [5], [5, 6], [5, 6, 7], [0, 1, 2, 3, 4, 5, 6, 7, 8], [0, 1, 2, 3, 4, 5, 6, 7, 8, 9], [0, 1, 2, 3, 4, 5, 6, 7, 8, 9, 10]] [2])
  .ret)
  .skip))))))))))))
  (.seq (.region [⟨some 61, none, .mov (.t 0)⟩,
    ⟨some 62, none, .call false 90 [(.t 61)]⟩,
    ⟨some 3, none, .mov (.t 62)⟩] [0, 3])
  (.seq (.draw [⟨some 63, none, .mov (.t 0)⟩,
    ⟨some 64, none, .nilchk (.t 63)⟩,
    ⟨some 65, none, .faddr 6 (.t 64)⟩,
    ⟨some 66, none, .load none (.t 65)⟩,
    ⟨some 67, none, .mov (.t 3)⟩,
    ⟨some 68, none, .call false 89 [(.t 66), (.t 67)]⟩,
    ⟨some 69, none, .bin .add (.t 68) (.c (.str [32]))⟩,
    ⟨some 70, none, .mov (.t 0)⟩,
    ⟨some 71, none, .nilchk (.t 70)⟩,
    ⟨some 72, none, .faddr 1 (.t 71)⟩,
    ⟨some 73, none, .load none (.t 72)⟩,
    ⟨some 74, none, .call false 88 [(.t 73)]⟩,
    ⟨some 75, none, .bin .add (.t 69) (.t 74)⟩,
    ⟨some 76, none, .bin .add (.t 75) (.c (.str [32]))⟩,
    ⟨some 77, none, .mov (.t 0)⟩,
    ⟨some 78, none, .nilchk (.t 77)⟩,
    ⟨some 79, none, .faddr 7 (.t 78)⟩,
    ⟨some 80, none, .load none (.t 79)⟩,
    ⟨some 81, none, .mov (.t 3)⟩,
    ⟨some 82, none, .bin .add (.t 81) (.c (.int .i64 1))⟩,
    ⟨some 83, none, .call false 89 [(.t 80), (.t 82)]⟩,
    ⟨some 84, none, .bin .add (.t 76) (.t 83)⟩,
    ⟨some 2, none, .mov (.t 84)⟩] [[], [0], [0, 1], [0, 1, 2], [], [0, 1, 2, 3, 4], [0, 1, 2, 3, 4, 5], [], [7], [7, 8], [7, 8, 9], [0, 1, 2, 3, 4, 5, 7, 8, 9, 10], [0, 1, 2, 3, 4, 5, 6, 7, 8, 9, 10, 11], [0, 1, 2, 3, 4, 5, 6, 7, 8, 9, 10, 11, 12], [], [14], [14, 15], [14, 15, 16], [], [18], [0, 1, 2, 3, 4, 5, 7, 8, 9, 10, 11, 14, 15, 16, 17, 18, 19], [0, 1, 2, 3, 4, 5, 6, 7, 8, 9, 10, 11, 12, 13, 14, 15, 16, 17, 18, 19, 20], [0, 1, 2, 3, 4, 5, 6, 7, 8, 9, 10, 11, 12, 13, 14, 15, 16, 17, 18, 19, 20, 21]] [2])
  .ret))))⟩

/-- (*troth/expr.Expr).good -/
def i45 : AFunc := ⟨1, 96, [.tmp 2],
  (.seq (.region [⟨some 2, none, .mov (.c (.bool false))⟩] [0])
  (.seq (.seq (.region [⟨some 3, none, .mov (.t 0)⟩,
    ⟨some 4, none, .eqb false (.scalar .p) (.t 3) (.c .nilp)⟩,
    ⟨some 5, none, .mov (.t 4)⟩,
    ⟨some 6, (some (5, false)), .mov (.t 0)⟩,
    ⟨some 7, (some (5, false)), .call false 91 [(.t 6)]⟩,
    ⟨some 8, (some (5, false)), .build [(.int .u8 0), (.int .u8 0), (.int .u64 0), (.int .u8 0), (.int .u8 0), (.int .u8 0), .nilp, .nilp] []⟩,
    ⟨some 9, (some (5, false)), .eqb true (.fields [(0, 1, false, (.scalar .i)), (1, 1, false, (.scalar .i)), (2, 1, false, (.scalar .i)), (3, 1, false, (.scalar .i)), (4, 1, false, (.scalar .i)), (5, 1, false, (.scalar .i)), (6, 1, false, (.scalar .p)), (7, 1, false, (.scalar .p))]) (.t 7) (.t 8)⟩,
    ⟨some 10, none, .pick (.t 5) (.c (.bool true)) (.t 9)⟩] [0, 10])
  (.cond (.t 10) (.seq (.region [⟨some 2, none, .mov (.c (.bool false))⟩] [2])
  .ret)
  .skip))
  (.seq (.seq (.region [⟨some 11, none, .mov (.t 0)⟩,
    ⟨some 12, none, .nilchk (.t 11)⟩,
    ⟨some 13, none, .faddr 0 (.t 12)⟩,
    ⟨some 14, none, .load none (.t 13)⟩] [0, 14])
  (.block 0 (.seq (.region [⟨some 16, none, .bin .eql (.t 14) (.c (.int .u8 0))⟩,
    ⟨some 15, none, .mov (.t 16)⟩] [0, 14, 15])
  (.cond (.t 15) (.seq (.region [⟨some 2, none, .mov (.c (.bool true))⟩] [2])
  .ret)
  (.seq (.region [⟨some 18, none, .bin .eql (.t 14) (.c (.int .u8 1))⟩,
    ⟨some 17, none, .mov (.t 18)⟩] [0, 14, 17])
  (.cond (.t 17) (.seq (.region [⟨some 19, none, .mov (.t 0)⟩,
    ⟨some 20, none, .nilchk (.t 19)⟩,
    ⟨some 21, none, .faddr 4 (.t 20)⟩,
    ⟨some 22, none, .load none (.t 21)⟩,
    ⟨some 23, none, .bin .lss (.t 22) (.c (.int .u8 8))⟩,
    ⟨some 2, none, .mov (.t 23)⟩] [2])
  .ret)
  (.seq (.region [⟨some 25, none, .bin .eql (.t 14) (.c (.int .u8 2))⟩,
    ⟨some 24, none, .mov (.t 25)⟩] [0, 14, 24])
  (.cond (.t 24) (.seq (.region [⟨some 26, none, .mov (.t 0)⟩,
    ⟨some 27, none, .nilchk (.t 26)⟩,
    ⟨some 28, none, .faddr 3 (.t 27)⟩,
    ⟨some 29, none, .load none (.t 28)⟩,
    ⟨some 30, none, .bin .lss (.t 29) (.c (.int .u8 4))⟩,
    ⟨some 31, none, .mov (.t 30)⟩,
    ⟨some 32, (some (31, true)), .mov (.t 0)⟩,
    ⟨some 33, (some (31, true)), .nilchk (.t 32)⟩,
    ⟨some 34, (some (31, true)), .faddr 4 (.t 33)⟩,
    ⟨some 35, (some (31, true)), .load none (.t 34)⟩,
    ⟨some 36, (some (31, true)), .bin .lss (.t 35) (.c (.int .u8 8))⟩,
    ⟨some 37, none, .pick (.t 31) (.t 36) (.c (.bool false))⟩,
    ⟨some 2, none, .mov (.t 37)⟩] [2])
  .ret)
  (.seq (.region [⟨some 39, none, .bin .eql (.t 14) (.c (.int .u8 3))⟩,
    ⟨some 38, none, .mov (.t 39)⟩] [0, 14, 38])
  (.cond (.t 38) (.seq (.region [⟨some 40, none, .mov (.t 0)⟩,
    ⟨some 41, none, .nilchk (.t 40)⟩,
    ⟨some 42, none, .faddr 5 (.t 41)⟩,
    ⟨some 43, none, .load none (.t 42)⟩,
    ⟨some 44, none, .bin .geq (.t 43) (.c (.int .u8 97))⟩,
    ⟨some 45, none, .mov (.t 44)⟩,
    ⟨some 46, (some (45, true)), .mov (.t 0)⟩,
    ⟨some 47, (some (45, true)), .nilchk (.t 46)⟩,
    ⟨some 48, (some (45, true)), .faddr 5 (.t 47)⟩,
    ⟨some 49, (some (45, true)), .load none (.t 48)⟩,
    ⟨some 50, (some (45, true)), .bin .leq (.t 49) (.c (.int .u8 122))⟩,
    ⟨some 51, none, .pick (.t 45) (.t 50) (.c (.bool false))⟩,
    ⟨some 52, none, .mov (.t 51)⟩,
    ⟨some 53, (some (52, true)), .mov (.t 0)⟩,
    ⟨some 54, (some (52, true)), .nilchk (.t 53)⟩,
    ⟨some 55, (some (52, true)), .faddr 5 (.t 54)⟩,
    ⟨some 56, (some (52, true)), .load none (.t 55)⟩,
    ⟨some 57, (some (52, true)), .bin .neq (.t 56) (.c (.int .u8 114))⟩,
    ⟨some 58, none, .pick (.t 52) (.t 57) (.c (.bool false))⟩,
    ⟨some 2, none, .mov (.t 58)⟩] [2])
  .ret)
  (.seq (.region [⟨some 60, none, .bin .eql (.t 14) (.c (.int .u8 4))⟩,
    ⟨some 59, none, .mov (.t 60)⟩] [0, 14, 59])
  (.cond (.t 59) (.seq (.region [⟨some 61, none, .mov (.t 0)⟩,
    ⟨some 62, none, .nilchk (.t 61)⟩,
    ⟨some 63, none, .faddr 1 (.t 62)⟩,
    ⟨some 64, none, .load none (.t 63)⟩,
    ⟨some 65, none, .call false 92 [(.t 64)]⟩,
    ⟨some 66, none, .bin .eql (.t 65) (.c (.int .i64 1))⟩,
    ⟨some 67, none, .mov (.t 66)⟩,
    ⟨some 68, (some (67, true)), .mov (.t 0)⟩,
    ⟨some 69, (some (67, true)), .nilchk (.t 68)⟩,
    ⟨some 70, (some (67, true)), .faddr 6 (.t 69)⟩,
    ⟨some 71, (some (67, true)), .load none (.t 70)⟩,
    ⟨some 72, (some (67, true)), .call false 45 [(.t 71)]⟩,
    ⟨some 73, none, .pick (.t 67) (.t 72) (.c (.bool false))⟩,
    ⟨some 2, none, .mov (.t 73)⟩] [2])
  .ret)
  (.seq (.region [⟨some 75, none, .bin .eql (.t 14) (.c (.int .u8 5))⟩,
    ⟨some 74, none, .mov (.t 75)⟩] [0, 74])
  (.cond (.t 74) (.seq (.region [⟨some 76, none, .mov (.t 0)⟩,
    ⟨some 77, none, .nilchk (.t 76)⟩,
    ⟨some 78, none, .faddr 1 (.t 77)⟩,
    ⟨some 79, none, .load none (.t 78)⟩,
    ⟨some 80, none, .call false 92 [(.t 79)]⟩,
    ⟨some 81, none, .bin .eql (.t 80) (.c (.int .i64 2))⟩,
    ⟨some 82, none, .mov (.t 81)⟩,
    ⟨some 83, (some (82, true)), .mov (.t 0)⟩,
    ⟨some 84, (some (82, true)), .nilchk (.t 83)⟩,
    ⟨some 85, (some (82, true)), .faddr 6 (.t 84)⟩,
    ⟨some 86, (some (82, true)), .load none (.t 85)⟩,
    ⟨some 87, (some (82, true)), .call false 45 [(.t 86)]⟩,
    ⟨some 88, none, .pick (.t 82) (.t 87) (.c (.bool false))⟩,
    ⟨some 89, none, .mov (.t 88)⟩,
    ⟨some 90, (some (89, true)), .mov (.t 0)⟩,
    ⟨some 91, (some (89, true)), .nilchk (.t 90)⟩,
    ⟨some 92, (some (89, true)), .faddr 7 (.t 91)⟩,
    ⟨some 93, (some (89, true)), .load none (.t 92)⟩,
    ⟨some 94, (some (89, true)), .call false 45 [(.t 93)]⟩,
    ⟨some 95, none, .pick (.t 89) (.t 94) (.c (.bool false))⟩,
    ⟨some 2, none, .mov (.t 95)⟩] [2])
  .ret)
  .skip))))))))))))))
  (.seq (.region [⟨some 2, none, .mov (.c (.bool false))⟩] [2])
  .ret))))⟩

/-- (*troth/expr.Expr).eval -/
def i46 : AFunc := ⟨2, 54, [.tmp 4],
  (.seq (.region [⟨some 4, none, .mov (.c (.int .u64 0))⟩] [0, 1])
  (.seq (.seq (.region [⟨some 6, none, .mov (.t 0)⟩,
    ⟨some 7, none, .nilchk (.t 6)⟩,
    ⟨some 8, none, .faddr 0 (.t 7)⟩,
    ⟨some 9, none, .load none (.t 8)⟩] [0, 1, 9])
  (.block 0 (.seq (.region [⟨some 11, none, .bin .eql (.t 9) (.c (.int .u8 0))⟩,
    ⟨some 10, none, .mov (.t 11)⟩] [0, 1, 9, 10])
  (.cond (.t 10) (.seq (.region [⟨some 12, none, .mov (.t 0)⟩,
    ⟨some 13, none, .nilchk (.t 12)⟩,
    ⟨some 14, none, .faddr 2 (.t 13)⟩,
    ⟨some 15, none, .load none (.t 14)⟩,
    ⟨some 4, none, .mov (.t 15)⟩] [4])
  .ret)
  (.seq (.region [⟨some 17, none, .bin .eql (.t 9) (.c (.int .u8 4))⟩,
    ⟨some 16, none, .mov (.t 17)⟩] [0, 1, 9, 16])
  (.cond (.t 16) (.seq (.draw [⟨some 18, none, .mov (.t 0)⟩,
    ⟨some 19, none, .nilchk (.t 18)⟩,
    ⟨some 20, none, .faddr 1 (.t 19)⟩,
    ⟨some 21, none, .load none (.t 20)⟩,
    ⟨some 22, none, .mov (.t 0)⟩,
    ⟨some 23, none, .nilchk (.t 22)⟩,
    ⟨some 24, none, .faddr 6 (.t 23)⟩,
    ⟨some 25, none, .load none (.t 24)⟩,
    ⟨some 26, none, .mov (.t 1)⟩,
    ⟨some 27, none, .call true 46 [(.t 25), (.t 26)]⟩,
    ⟨some 28, none, .call false 93 [(.t 21), (.t 27)]⟩,
    ⟨some 4, none, .mov (.t 28)⟩] [[], [0], [0, 1], [0, 1, 2], [], [4], [4, 5], [4, 5, 6], [], [4, 5, 6, 7, 8], [0, 1, 2, 3, 4, 5, 6, 7, 8, 9], [0, 1, 2, 3, 4, 5, 6, 7, 8, 9, 10]] [4])
  .ret)
  (.seq (.region [⟨some 30, none, .bin .eql (.t 9) (.c (.int .u8 5))⟩,
    ⟨some 29, none, .mov (.t 30)⟩] [0, 1, 29])
  (.cond (.t 29) (.seq (.region [⟨some 31, none, .mov (.t 0)⟩,
    ⟨some 32, none, .nilchk (.t 31)⟩,
    ⟨some 33, none, .faddr 6 (.t 32)⟩,
    ⟨some 34, none, .load none (.t 33)⟩,
    ⟨some 35, none, .mov (.t 1)⟩,
    ⟨some 36, none, .call true 46 [(.t 34), (.t 35)]⟩,
    ⟨some 5, none, .mov (.t 36)⟩] [0, 1, 5])
  (.seq (.draw [⟨some 37, none, .mov (.t 0)⟩,
    ⟨some 38, none, .nilchk (.t 37)⟩,
    ⟨some 39, none, .faddr 1 (.t 38)⟩,
    ⟨some 40, none, .load none (.t 39)⟩,
    ⟨some 41, none, .mov (.t 5)⟩,
    ⟨some 42, none, .mov (.t 0)⟩,
    ⟨some 43, none, .nilchk (.t 42)⟩,
    ⟨some 44, none, .faddr 7 (.t 43)⟩,
    ⟨some 45, none, .load none (.t 44)⟩,
    ⟨some 46, none, .mov (.t 1)⟩,
    ⟨some 47, none, .call true 46 [(.t 45), (.t 46)]⟩,
    ⟨some 48, none, .call false 94 [(.t 40), (.t 41), (.t 47)]⟩,
    ⟨some 4, none, .mov (.t 48)⟩] [[], [0], [0, 1], [0, 1, 2], [], [], [5], [5, 6], [5, 6, 7], [], [5, 6, 7, 8, 9], [0, 1, 2, 3, 4, 5, 6, 7, 8, 9, 10], [0, 1, 2, 3, 4, 5, 6, 7, 8, 9, 10, 11]] [4])
  .ret))
  .skip))))))))
  (.seq (.region [⟨some 49, none, .mov (.t 1)⟩,
    ⟨some 50, none, .mov (.t 0)⟩,
    ⟨some 51, none, .nilchk (.t 50)⟩,
    ⟨some 52, none, .load (some 8) (.t 51)⟩,
    ⟨some 53, none, .callv true (.t 49) [(.t 52)]⟩,
    ⟨some 4, none, .mov (.t 53)⟩] [4])
  .ret)))⟩

/-- troth/trothref03.Parts -/
def i47 : AFunc := ⟨1, 23, [.tmp 2],
  (.seq (.region [⟨some 1, none, .ibox (.t 0)⟩,
    ⟨some 2, none, .mov (.c (.int .i64 0))⟩] [1])
  (.seq (.seq (.region [⟨some 3, none, .faddr 0 (.t 1)⟩,
    ⟨some 4, none, .load none (.t 3)⟩,
    ⟨some 5, none, .bin .eql (.t 4) (.c (.int .u8 4))⟩,
    ⟨some 6, none, .mov (.t 5)⟩,
    ⟨some 7, (some (6, true)), .faddr 1 (.t 1)⟩,
    ⟨some 8, (some (6, true)), .load none (.t 7)⟩,
    ⟨some 9, (some (6, true)), .call false 95 [(.t 8)]⟩,
    ⟨some 10, (some (6, true)), .bin .eql (.t 9) (.c (.int .i64 1))⟩,
    ⟨some 11, none, .pick (.t 6) (.t 10) (.c (.bool false))⟩] [1, 11])
  (.cond (.t 11) (.seq (.region [⟨some 2, none, .mov (.c (.int .i64 1))⟩] [2])
  .ret)
  .skip))
  (.seq (.seq (.region [⟨some 12, none, .faddr 0 (.t 1)⟩,
    ⟨some 13, none, .load none (.t 12)⟩,
    ⟨some 14, none, .bin .eql (.t 13) (.c (.int .u8 5))⟩,
    ⟨some 15, none, .mov (.t 14)⟩,
    ⟨some 16, (some (15, true)), .faddr 1 (.t 1)⟩,
    ⟨some 17, (some (15, true)), .load none (.t 16)⟩,
    ⟨some 18, (some (15, true)), .call false 95 [(.t 17)]⟩,
    ⟨some 19, (some (15, true)), .bin .eql (.t 18) (.c (.int .i64 2))⟩,
    ⟨some 20, none, .pick (.t 15) (.t 19) (.c (.bool false))⟩] [1, 20])
  (.cond (.t 20) (.seq (.region [⟨some 2, none, .mov (.c (.int .i64 2))⟩] [2])
  .ret)
  .skip))
  (.seq (.seq (.region [⟨some 21, none, .load (some 6) (.t 1)⟩,
    ⟨some 22, none, .call false 96 [(.t 21)]⟩] [22])
  (.cond (.t 22) (.seq (.region [⟨some 2, none, .mov (.c (.int .i64 0))⟩] [2])
  .ret)
  .skip))
  (.seq (.region [⟨some 2, none, .mov (.c (.int .i64 (-1)))⟩] [2])
  .ret)))))⟩

/-- troth/trothref03.Decimal -/
def i48 : AFunc := ⟨1, 16, [.tmp 2],
  (.seq (.region [⟨some 2, none, .mov (.c (.str []))⟩] [0])
  (.seq (.seq (.region [⟨some 3, none, .mov (.t 0)⟩,
    ⟨some 4, none, .bin .lss (.t 3) (.c (.int .u64 10))⟩] [0, 4])
  (.cond (.t 4) (.seq (.region [⟨some 5, none, .mov (.t 0)⟩,
    ⟨some 6, none, .mov (.t 0)⟩,
    ⟨some 7, none, .bin .add (.t 6) (.c (.int .u64 1))⟩,
    ⟨some 8, none, .slstr (.c (.str [48, 49, 50, 51, 52, 53, 54, 55, 56, 57])) (some (.t 5)) (some (.t 7))⟩,
    ⟨some 2, none, .mov (.t 8)⟩] [2])
  .ret)
  .skip))
  (.seq (.region [⟨some 9, none, .mov (.t 0)⟩,
    ⟨some 10, none, .bin .quo (.t 9) (.c (.int .u64 10))⟩,
    ⟨some 11, none, .call false 48 [(.t 10)]⟩,
    ⟨some 12, none, .mov (.t 0)⟩,
    ⟨some 13, none, .bin .rem (.t 12) (.c (.int .u64 10))⟩,
    ⟨some 14, none, .call false 48 [(.t 13)]⟩,
    ⟨some 15, none, .bin .add (.t 11) (.t 14)⟩,
    ⟨some 2, none, .mov (.t 15)⟩] [2])
  .ret)))⟩

/-- troth/trothref03.strength -/
def i49 : AFunc := ⟨1, 15, [.tmp 2],
  (.seq (.region [⟨some 1, none, .ibox (.t 0)⟩,
    ⟨some 2, none, .mov (.c (.int .i64 0))⟩] [1])
  (.seq (.seq (.region [⟨some 3, none, .faddr 0 (.t 1)⟩,
    ⟨some 4, none, .load none (.t 3)⟩,
    ⟨some 5, none, .bin .lss (.t 4) (.c (.int .u8 4))⟩] [1, 5])
  (.cond (.t 5) (.seq (.region [⟨some 2, none, .mov (.c (.int .i64 5))⟩] [2])
  .ret)
  .skip))
  (.seq (.seq (.region [⟨some 6, none, .faddr 0 (.t 1)⟩,
    ⟨some 7, none, .load none (.t 6)⟩,
    ⟨some 8, none, .bin .eql (.t 7) (.c (.int .u8 4))⟩] [1, 8])
  (.cond (.t 8) (.seq (.region [⟨some 2, none, .mov (.c (.int .i64 4))⟩] [2])
  .ret)
  .skip))
  (.seq (.seq (.region [⟨some 9, none, .faddr 1 (.t 1)⟩,
    ⟨some 10, none, .load none (.t 9)⟩,
    ⟨some 11, none, .bin .lss (.t 10) (.c (.int .u8 5))⟩] [1, 11])
  (.cond (.t 11) (.seq (.region [⟨some 2, none, .mov (.c (.int .i64 1))⟩] [2])
  .ret)
  .skip))
  (.seq (.seq (.region [⟨some 12, none, .faddr 1 (.t 1)⟩,
    ⟨some 13, none, .load none (.t 12)⟩,
    ⟨some 14, none, .bin .lss (.t 13) (.c (.int .u8 9))⟩] [14])
  (.cond (.t 14) (.seq (.region [⟨some 2, none, .mov (.c (.int .i64 2))⟩] [2])
  .ret)
  .skip))
  (.seq (.region [⟨some 2, none, .mov (.c (.int .i64 3))⟩] [2])
  .ret))))))⟩

/-- troth/trothref01.Text -/
def i50 : AFunc := ⟨1, 14, [.tmp 2],
  (.seq (.region [⟨some 2, none, .mov (.c (.str []))⟩] [0])
  (.seq (.region [⟨some 4, none, .bslice 9 1 [(.str [])] 15 [(0, (.c (.str []))), (1, (.c (.str [61, 61]))), (2, (.c (.str [33, 61]))), (3, (.c (.str [60]))), (4, (.c (.str [60, 61]))), (5, (.c (.str [43]))), (6, (.c (.str [45]))), (7, (.c (.str [124]))), (8, (.c (.str [94]))), (9, (.c (.str [42]))), (10, (.c (.str [47]))), (11, (.c (.str [37]))), (12, (.c (.str [38]))), (13, (.c (.str [33]))), (14, (.c (.str [45])))]⟩,
    ⟨some 3, none, .mov (.t 4)⟩] [0, 3])
  (.seq (.seq (.region [⟨some 5, none, .mov (.t 0)⟩,
    ⟨some 6, none, .cvi .i64 (.t 5)⟩,
    ⟨some 7, none, .mov (.t 3)⟩,
    ⟨some 8, none, .lensl (.t 7)⟩,
    ⟨some 9, none, .bin .lss (.t 6) (.t 8)⟩] [0, 3, 9])
  (.cond (.t 9) (.seq (.region [⟨some 10, none, .mov (.t 3)⟩,
    ⟨some 11, none, .mov (.t 0)⟩,
    ⟨some 12, none, .idxas 1 (.t 10) (.t 11)⟩,
    ⟨some 13, none, .load none (.t 12)⟩,
    ⟨some 2, none, .mov (.t 13)⟩] [2])
  .ret)
  .skip))
  (.seq (.region [⟨some 2, none, .mov (.c (.str []))⟩] [2])
  .ret))))⟩

/-- troth/trothref01.One -/
def i51 : AFunc := ⟨2, 14, [.tmp 4],
  (.seq (.region [⟨some 4, none, .mov (.c (.int .u64 0))⟩] [0, 1])
  (.seq (.seq (.region [⟨some 5, none, .mov (.t 0)⟩,
    ⟨some 6, none, .bin .eql (.t 5) (.c (.int .u8 13))⟩] [0, 1, 6])
  (.cond (.t 6) (.seq (.region [⟨some 7, none, .mov (.t 1)⟩,
    ⟨some 8, none, .bin .eql (.t 7) (.c (.int .u64 0))⟩,
    ⟨some 9, none, .call false 97 [(.t 8)]⟩,
    ⟨some 4, none, .mov (.t 9)⟩] [4])
  .ret)
  .skip))
  (.seq (.seq (.region [⟨some 10, none, .mov (.t 0)⟩,
    ⟨some 11, none, .bin .eql (.t 10) (.c (.int .u8 14))⟩] [1, 11])
  (.cond (.t 11) (.seq (.region [⟨some 12, none, .mov (.t 1)⟩,
    ⟨some 13, none, .bin .sub (.c (.int .u64 0)) (.t 12)⟩,
    ⟨some 4, none, .mov (.t 13)⟩] [4])
  .ret)
  .skip))
  (.seq (.region [⟨some 4, none, .mov (.c (.int .u64 0))⟩] [4])
  .ret))))⟩

/-- troth/trothref01.Do -/
def i52 : AFunc := ⟨3, 85, [.tmp 6],
  (.seq (.region [⟨some 6, none, .mov (.c (.int .u64 0))⟩] [0, 1, 2])
  (.seq (.seq (.region [⟨some 7, none, .mov (.t 0)⟩] [1, 2, 7])
  (.block 0 (.seq (.region [⟨some 9, none, .bin .eql (.t 7) (.c (.int .u8 1))⟩,
    ⟨some 8, none, .mov (.t 9)⟩] [1, 2, 7, 8])
  (.cond (.t 8) (.seq (.region [⟨some 10, none, .mov (.t 1)⟩,
    ⟨some 11, none, .mov (.t 2)⟩,
    ⟨some 12, none, .bin .eql (.t 10) (.t 11)⟩,
    ⟨some 13, none, .call false 97 [(.t 12)]⟩,
    ⟨some 6, none, .mov (.t 13)⟩] [6])
  .ret)
  (.seq (.region [⟨some 15, none, .bin .eql (.t 7) (.c (.int .u8 2))⟩,
    ⟨some 14, none, .mov (.t 15)⟩] [1, 2, 7, 14])
  (.cond (.t 14) (.seq (.region [⟨some 16, none, .mov (.t 1)⟩,
    ⟨some 17, none, .mov (.t 2)⟩,
    ⟨some 18, none, .bin .neq (.t 16) (.t 17)⟩,
    ⟨some 19, none, .call false 97 [(.t 18)]⟩,
    ⟨some 6, none, .mov (.t 19)⟩] [6])
  .ret)
  (.seq (.region [⟨some 21, none, .bin .eql (.t 7) (.c (.int .u8 3))⟩,
    ⟨some 20, none, .mov (.t 21)⟩] [1, 2, 7, 20])
  (.cond (.t 20) (.seq (.region [⟨some 22, none, .mov (.t 1)⟩,
    ⟨some 23, none, .mov (.t 2)⟩,
    ⟨some 24, none, .bin .lss (.t 22) (.t 23)⟩,
    ⟨some 25, none, .call false 97 [(.t 24)]⟩,
    ⟨some 6, none, .mov (.t 25)⟩] [6])
  .ret)
  (.seq (.region [⟨some 27, none, .bin .eql (.t 7) (.c (.int .u8 4))⟩,
    ⟨some 26, none, .mov (.t 27)⟩] [1, 2, 7, 26])
  (.cond (.t 26) (.seq (.region [⟨some 28, none, .mov (.t 1)⟩,
    ⟨some 29, none, .mov (.t 2)⟩,
    ⟨some 30, none, .bin .lss (.t 28) (.t 29)⟩,
    ⟨some 31, none, .mov (.t 30)⟩,
    ⟨some 32, (some (31, false)), .mov (.t 1)⟩,
    ⟨some 33, (some (31, false)), .mov (.t 2)⟩,
    ⟨some 34, (some (31, false)), .bin .eql (.t 32) (.t 33)⟩,
    ⟨some 35, none, .pick (.t 31) (.c (.bool true)) (.t 34)⟩,
    ⟨some 36, none, .call false 97 [(.t 35)]⟩,
    ⟨some 6, none, .mov (.t 36)⟩] [6])
  .ret)
  (.seq (.region [⟨some 38, none, .bin .eql (.t 7) (.c (.int .u8 5))⟩,
    ⟨some 37, none, .mov (.t 38)⟩] [1, 2, 7, 37])
  (.cond (.t 37) (.seq (.region [⟨some 39, none, .mov (.t 1)⟩,
    ⟨some 40, none, .mov (.t 2)⟩,
    ⟨some 41, none, .bin .add (.t 39) (.t 40)⟩,
    ⟨some 6, none, .mov (.t 41)⟩] [6])
  .ret)
  (.seq (.region [⟨some 43, none, .bin .eql (.t 7) (.c (.int .u8 6))⟩,
    ⟨some 42, none, .mov (.t 43)⟩] [1, 2, 7, 42])
  (.cond (.t 42) (.seq (.region [⟨some 44, none, .mov (.t 1)⟩,
    ⟨some 45, none, .mov (.t 2)⟩,
    ⟨some 46, none, .bin .sub (.t 44) (.t 45)⟩,
    ⟨some 6, none, .mov (.t 46)⟩] [6])
  .ret)
  (.seq (.region [⟨some 48, none, .bin .eql (.t 7) (.c (.int .u8 7))⟩,
    ⟨some 47, none, .mov (.t 48)⟩] [1, 2, 7, 47])
  (.cond (.t 47) (.seq (.region [⟨some 49, none, .mov (.t 1)⟩,
    ⟨some 50, none, .mov (.t 2)⟩,
    ⟨some 51, none, .call false 98 [(.c (.int .i64 0)), (.t 49), (.t 50)]⟩,
    ⟨some 6, none, .mov (.t 51)⟩] [6])
  .ret)
  (.seq (.region [⟨some 53, none, .bin .eql (.t 7) (.c (.int .u8 8))⟩,
    ⟨some 52, none, .mov (.t 53)⟩] [1, 2, 7, 52])
  (.cond (.t 52) (.seq (.region [⟨some 54, none, .mov (.t 1)⟩,
    ⟨some 55, none, .mov (.t 2)⟩,
    ⟨some 56, none, .call false 98 [(.c (.int .i64 1)), (.t 54), (.t 55)]⟩,
    ⟨some 6, none, .mov (.t 56)⟩] [6])
  .ret)
  (.seq (.region [⟨some 58, none, .bin .eql (.t 7) (.c (.int .u8 9))⟩,
    ⟨some 57, none, .mov (.t 58)⟩] [1, 2, 7, 57])
  (.cond (.t 57) (.seq (.region [⟨some 59, none, .mov (.t 1)⟩,
    ⟨some 60, none, .mov (.t 2)⟩,
    ⟨some 61, none, .bin .mul (.t 59) (.t 60)⟩,
    ⟨some 6, none, .mov (.t 61)⟩] [6])
  .ret)
  (.seq (.region [⟨some 63, none, .bin .eql (.t 7) (.c (.int .u8 10))⟩,
    ⟨some 62, none, .mov (.t 63)⟩] [1, 2, 7, 62])
  (.cond (.t 62) (.seq (.region [⟨some 64, none, .mov (.t 2)⟩,
    ⟨some 65, none, .bin .gtr (.t 64) (.c (.int .u64 0))⟩] [1, 2, 65])
  (.cond (.t 65) (.seq (.region [⟨some 66, none, .mov (.t 1)⟩,
    ⟨some 67, none, .mov (.t 2)⟩,
    ⟨some 68, none, .bin .quo (.t 66) (.t 67)⟩,
    ⟨some 6, none, .mov (.t 68)⟩] [6])
  .ret)
  .skip))
  (.seq (.region [⟨some 70, none, .bin .eql (.t 7) (.c (.int .u8 11))⟩,
    ⟨some 69, none, .mov (.t 70)⟩] [1, 2, 7, 69])
  (.cond (.t 69) (.seq (.region [⟨some 71, none, .mov (.t 2)⟩,
    ⟨some 72, none, .bin .gtr (.t 71) (.c (.int .u64 0))⟩] [1, 2, 72])
  (.cond (.t 72) (.seq (.region [⟨some 73, none, .mov (.t 1)⟩,
    ⟨some 74, none, .mov (.t 1)⟩,
    ⟨some 75, none, .mov (.t 2)⟩,
    ⟨some 76, none, .bin .quo (.t 74) (.t 75)⟩,
    ⟨some 77, none, .mov (.t 2)⟩,
    ⟨some 78, none, .bin .mul (.t 76) (.t 77)⟩,
    ⟨some 79, none, .bin .sub (.t 73) (.t 78)⟩,
    ⟨some 6, none, .mov (.t 79)⟩] [6])
  .ret)
  .skip))
  (.seq (.region [⟨some 81, none, .bin .eql (.t 7) (.c (.int .u8 12))⟩,
    ⟨some 80, none, .mov (.t 81)⟩] [1, 2, 80])
  (.cond (.t 80) (.seq (.region [⟨some 82, none, .mov (.t 1)⟩,
    ⟨some 83, none, .mov (.t 2)⟩,
    ⟨some 84, none, .call false 98 [(.c (.int .i64 2)), (.t 82), (.t 83)]⟩,
    ⟨some 6, none, .mov (.t 84)⟩] [6])
  .ret)
  .skip))))))))))))))))))))))))))
  (.seq (.region [⟨some 6, none, .mov (.c (.int .u64 0))⟩] [6])
  .ret)))⟩

/-- (*troth/expr.Expr).Walk$1 -/
def i53 : AFunc := ⟨2, 9, [],
  (.seq (.region [⟨some 2, none, .ibox (.t 0)⟩] [1, 2])
  (.seq (.region [⟨some 3, none, .faddr 0 (.t 2)⟩,
    ⟨some 4, none, .load none (.t 3)⟩,
    ⟨some 5, none, .bin .lss (.t 4) (.c (.int .u8 4))⟩] [1, 2, 5])
  (.cond (.t 5) (.region [⟨some 6, none, .load none (.t 1)⟩,
    ⟨some 7, none, .load (some 8) (.t 2)⟩,
    ⟨some 8, none, .callv true (.t 6) [(.t 7)]⟩] [])
  .skip)))⟩

/-- (*troth/expr.Expr).walk -/
def i54 : AFunc := ⟨2, 41, [],
  (.seq (.draw [⟨some 5, none, .mov (.t 0)⟩,
    ⟨some 6, none, .nilchk (.t 5)⟩,
    ⟨some 7, none, .faddr 6 (.t 6)⟩,
    ⟨some 8, none, .load none (.t 7)⟩,
    ⟨some 9, none, .mkfn (.func 54) [(.t 8)] []⟩,
    ⟨some 10, none, .mov (.t 0)⟩,
    ⟨some 11, none, .nilchk (.t 10)⟩,
    ⟨some 12, none, .faddr 7 (.t 11)⟩,
    ⟨some 13, none, .load none (.t 12)⟩,
    ⟨some 14, none, .mkfn (.func 54) [(.t 13)] []⟩,
    ⟨some 15, none, .build [.nilf, .nilf] [(0, 1, (.t 9)), (1, 1, (.t 14))]⟩,
    ⟨some 4, none, .alloc [.nilf, .nilf] 140⟩,
    ⟨none, none, .store 2 (.t 4) (.t 15)⟩] [[], [0], [0, 1], [0, 1, 2], [0, 1, 2, 3], [], [5], [5, 6], [5, 6, 7], [5, 6, 7, 8], [0, 1, 2, 3, 4, 5, 6, 7, 8, 9], [], [0, 1, 2, 3, 4, 5, 6, 7, 8, 9, 10, 11]] [0, 1, 4])
  (.seq (.region [⟨some 16, none, .mov (.t 0)⟩,
    ⟨some 17, none, .nilchk (.t 16)⟩,
    ⟨some 18, none, .faddr 0 (.t 17)⟩,
    ⟨some 19, none, .load none (.t 18)⟩] [0, 1, 4, 19])
  (.block 0 (.seq (.region [⟨some 26, none, .bin .eql (.t 19) (.c (.int .u8 5))⟩,
    ⟨some 25, none, .mov (.t 26)⟩] [0, 1, 4, 19, 25])
  (.cond (.t 25) (.seq (.region [⟨some 27, none, .idxaa 2 1 (.t 4) (.c (.int .i64 0))⟩,
    ⟨some 28, none, .load none (.t 27)⟩,
    ⟨some 29, none, .mov (.t 1)⟩,
    ⟨some 30, none, .callv true (.t 28) [(.t 29)]⟩] [1, 4])
  (.region [⟨some 31, none, .idxaa 2 1 (.t 4) (.c (.int .i64 1))⟩,
    ⟨some 32, none, .load none (.t 31)⟩,
    ⟨some 33, none, .mov (.t 1)⟩,
    ⟨some 34, none, .callv true (.t 32) [(.t 33)]⟩] []))
  (.seq (.region [⟨some 36, none, .bin .eql (.t 19) (.c (.int .u8 4))⟩,
    ⟨some 35, none, .mov (.t 36)⟩] [0, 1, 4, 35])
  (.cond (.t 35) (.region [⟨some 37, none, .idxaa 2 1 (.t 4) (.c (.int .i64 0))⟩,
    ⟨some 38, none, .load none (.t 37)⟩,
    ⟨some 39, none, .mov (.t 1)⟩,
    ⟨some 40, none, .callv true (.t 38) [(.t 39)]⟩] [])
  (.region [⟨some 20, none, .mov (.t 1)⟩,
    ⟨some 21, none, .mov (.t 0)⟩,
    ⟨some 22, none, .nilchk (.t 21)⟩,
    ⟨some 23, none, .load (some 8) (.t 22)⟩,
    ⟨some 24, none, .callv true (.t 20) [(.t 23)]⟩] []))))))))⟩

/-- (*troth/expr.Expr).depth -/
def i55 : AFunc := ⟨2, 27, [.tmp 4],
  (.seq (.region [⟨some 4, none, .mov (.c (.int .i64 0))⟩] [0, 1])
  (.seq (.seq (.region [⟨some 5, none, .mov (.t 0)⟩,
    ⟨some 6, none, .eqb false (.scalar .p) (.t 5) (.c .nilp)⟩,
    ⟨some 7, none, .mov (.t 6)⟩,
    ⟨some 8, (some (7, false)), .mov (.t 1)⟩,
    ⟨some 9, (some (7, false)), .bin .eql (.t 8) (.c (.int .i64 0))⟩,
    ⟨some 10, none, .pick (.t 7) (.c (.bool true)) (.t 9)⟩] [0, 1, 10])
  (.cond (.t 10) (.seq (.region [⟨some 4, none, .mov (.c (.int .i64 0))⟩] [4])
  .ret)
  .skip))
  (.seq (.draw [⟨some 11, none, .mov (.t 0)⟩,
    ⟨some 12, none, .nilchk (.t 11)⟩,
    ⟨some 13, none, .faddr 6 (.t 12)⟩,
    ⟨some 14, none, .load none (.t 13)⟩,
    ⟨some 15, none, .mov (.t 1)⟩,
    ⟨some 16, none, .bin .sub (.t 15) (.c (.int .i64 1))⟩,
    ⟨some 17, none, .call false 55 [(.t 14), (.t 16)]⟩,
    ⟨some 18, none, .mov (.t 0)⟩,
    ⟨some 19, none, .nilchk (.t 18)⟩,
    ⟨some 20, none, .faddr 7 (.t 19)⟩,
    ⟨some 21, none, .load none (.t 20)⟩,
    ⟨some 22, none, .mov (.t 1)⟩,
    ⟨some 23, none, .bin .sub (.t 22) (.c (.int .i64 1))⟩,
    ⟨some 24, none, .call false 55 [(.t 21), (.t 23)]⟩,
    ⟨some 25, none, .max [(.t 17), (.t 24)]⟩,
    ⟨some 26, none, .bin .add (.c (.int .i64 1)) (.t 25)⟩,
    ⟨some 4, none, .mov (.t 26)⟩] [[], [0], [0, 1], [0, 1, 2], [], [4], [0, 1, 2, 3, 4, 5], [], [7], [7, 8], [7, 8, 9], [], [11], [0, 1, 2, 3, 4, 5, 6, 7, 8, 9, 10, 11, 12], [0, 1, 2, 3, 4, 5, 6, 7, 8, 9, 10, 11, 12, 13], [0, 1, 2, 3, 4, 5, 6, 7, 8, 9, 10, 11, 12, 13, 14], [0, 1, 2, 3, 4, 5, 6, 7, 8, 9, 10, 11, 12, 13, 14, 15]] [4])
  .ret)))⟩

/-- troth/lex.Lex$1 -/
def i56 : AFunc := ⟨3, 18, [.tmp 4],
  (.seq (.region [⟨some 4, none, .mov (.c (.str []))⟩] [0, 1, 2])
  (.seq (.region [⟨some 6, none, .load none (.t 1)⟩,
    ⟨some 7, none, .mov (.t 0)⟩,
    ⟨some 8, none, .slstr (.t 6) none (some (.t 7))⟩,
    ⟨some 5, none, .mov (.t 8)⟩] [0, 1, 2, 5])
  (.seq (.region [⟨some 9, none, .faddr 1 (.t 2)⟩,
    ⟨some 10, none, .load none (.t 9)⟩,
    ⟨some 11, none, .mov (.t 0)⟩,
    ⟨some 12, none, .bin .add (.t 10) (.t 11)⟩,
    ⟨some 13, none, .faddr 1 (.t 2)⟩,
    ⟨none, none, .store 1 (.t 13) (.t 12)⟩] [0, 1, 5])
  (.seq (.region [⟨some 14, none, .load none (.t 1)⟩,
    ⟨some 15, none, .mov (.t 0)⟩,
    ⟨some 16, none, .slstr (.t 14) (some (.t 15)) none⟩,
    ⟨none, none, .store 1 (.t 1) (.t 16)⟩] [5])
  (.seq (.region [⟨some 17, none, .mov (.t 5)⟩,
    ⟨some 4, none, .mov (.t 17)⟩] [4])
  .ret)))))⟩

def i57_L0 : ACode :=
  (.seq (.seq (.region [⟨some 6, none, .mov (.t 5)⟩,
    ⟨some 7, none, .mov (.t 0)⟩,
    ⟨some 8, none, .lenstr (.t 7)⟩,
    ⟨some 9, none, .bin .lss (.t 6) (.t 8)⟩,
    ⟨some 10, none, .mov (.t 9)⟩,
    ⟨some 11, (some (10, true)), .mov (.t 1)⟩,
    ⟨some 12, (some (10, true)), .mov (.t 0)⟩,
    ⟨some 13, (some (10, true)), .mov (.t 5)⟩,
    ⟨some 14, (some (10, true)), .idxstr (.t 12) (.t 13)⟩,
    ⟨some 15, (some (10, true)), .callv true (.t 11) [(.t 14)]⟩,
    ⟨some 16, none, .pick (.t 10) (.t 15) (.c (.bool false))⟩] [0, 1, 5, 16])
  (.cond (.t 16) .skip
  (.exit 0)))
  (.block 1 (.region [⟨some 17, none, .mov (.t 5)⟩,
    ⟨some 18, none, .bin .add (.t 17) (.c (.int .i64 1))⟩,
    ⟨some 5, none, .mov (.t 18)⟩] [0, 1, 5])))

/-- troth/lex.run -/
def i57 : AFunc := ⟨2, 20, [.tmp 4],
  (.seq (.region [⟨some 4, none, .mov (.c (.int .i64 0))⟩] [0, 1])
  (.seq (.region [⟨some 5, none, .mov (.c (.int .i64 0))⟩] [0, 1, 5])
  (.seq (.block 0 (.loop [0, 1, 5] i57_L0))
  (.seq (.region [⟨some 19, none, .mov (.t 5)⟩,
    ⟨some 4, none, .mov (.t 19)⟩] [4])
  .ret))))⟩

/-- troth/lex.Lex$2 -/
def i58 : AFunc := ⟨1, 5, [.tmp 2],
  (.seq (.region [⟨some 2, none, .mov (.c (.bool false))⟩] [0])
  (.seq (.region [⟨some 3, none, .mov (.t 0)⟩,
    ⟨some 4, none, .bin .neq (.t 3) (.c (.int .u8 10))⟩,
    ⟨some 2, none, .mov (.t 4)⟩] [2])
  .ret))⟩

/-- troth/lex.digit -/
def i59 : AFunc := ⟨1, 9, [.tmp 2],
  (.seq (.region [⟨some 2, none, .mov (.c (.bool false))⟩] [0])
  (.seq (.region [⟨some 3, none, .mov (.t 0)⟩,
    ⟨some 4, none, .bin .geq (.t 3) (.c (.int .u8 48))⟩,
    ⟨some 5, none, .mov (.t 4)⟩,
    ⟨some 6, (some (5, true)), .mov (.t 0)⟩,
    ⟨some 7, (some (5, true)), .bin .leq (.t 6) (.c (.int .u8 57))⟩,
    ⟨some 8, none, .pick (.t 5) (.t 7) (.c (.bool false))⟩,
    ⟨some 2, none, .mov (.t 8)⟩] [2])
  .ret))⟩

/-- strconv.ParseUint -/
def i60 : AFunc := ⟨3, 26, [.tmp 6, .tmp 7],
  (.seq (.region [⟨some 6, none, .mov (.c (.int .u64 0))⟩,
    ⟨some 7, none, .mov (.c .nili)⟩] [0, 1, 2])
  (.seq (.region [⟨some 11, none, .mov (.t 0)⟩,
    ⟨some 12, none, .mov (.t 1)⟩,
    ⟨some 13, none, .mov (.t 2)⟩,
    ⟨some 14, none, .call false 99 [(.t 11), (.t 12), (.t 13)]⟩,
    ⟨some 10, none, .mov (.t 14)⟩,
    ⟨some 15, none, .ext (.t 10) 0⟩,
    ⟨some 16, none, .ext (.t 10) 1⟩,
    ⟨some 8, none, .mov (.t 15)⟩,
    ⟨some 9, none, .mov (.t 16)⟩] [0, 1, 2, 8, 9])
  (.seq (.seq (.region [⟨some 17, none, .mov (.t 9)⟩,
    ⟨some 18, none, .eqb true (.scalar .n) (.t 17) (.c .nili)⟩] [0, 1, 2, 8, 9, 18])
  (.cond (.t 18) (.seq (.region [⟨some 19, none, .mov (.t 8)⟩,
    ⟨some 20, none, .mov (.t 0)⟩,
    ⟨some 21, none, .mov (.t 1)⟩,
    ⟨some 22, none, .mov (.t 2)⟩,
    ⟨some 23, none, .mov (.t 9)⟩,
    ⟨some 24, none, .call false 100 [(.c (.str [80, 97, 114, 115, 101, 85, 105, 110, 116])), (.t 20), (.t 21), (.t 22), (.t 23)]⟩,
    ⟨some 6, none, .mov (.t 19)⟩,
    ⟨some 7, none, .mov (.t 24)⟩] [6, 7])
  .ret)
  .skip))
  (.seq (.region [⟨some 25, none, .mov (.t 8)⟩,
    ⟨some 6, none, .mov (.t 25)⟩,
    ⟨some 7, none, .mov (.c .nili)⟩] [6, 7])
  .ret))))⟩

/-- troth/lex.letter -/
def i61 : AFunc := ⟨1, 9, [.tmp 2],
  (.seq (.region [⟨some 2, none, .mov (.c (.bool false))⟩] [0])
  (.seq (.region [⟨some 3, none, .mov (.t 0)⟩,
    ⟨some 4, none, .bin .geq (.t 3) (.c (.int .u8 97))⟩,
    ⟨some 5, none, .mov (.t 4)⟩,
    ⟨some 6, (some (5, true)), .mov (.t 0)⟩,
    ⟨some 7, (some (5, true)), .bin .leq (.t 6) (.c (.int .u8 122))⟩,
    ⟨some 8, none, .pick (.t 5) (.t 7) (.c (.bool false))⟩,
    ⟨some 2, none, .mov (.t 8)⟩] [2])
  .ret))⟩

/-- troth/lex.Lex$3 -/
def i62 : AFunc := ⟨1, 9, [.tmp 2],
  (.seq (.region [⟨some 2, none, .mov (.c (.bool false))⟩] [0])
  (.seq (.region [⟨some 3, none, .mov (.t 0)⟩,
    ⟨some 4, none, .call false 61 [(.t 3)]⟩,
    ⟨some 5, none, .mov (.t 4)⟩,
    ⟨some 6, (some (5, false)), .mov (.t 0)⟩,
    ⟨some 7, (some (5, false)), .call false 59 [(.t 6)]⟩,
    ⟨some 8, none, .pick (.t 5) (.c (.bool true)) (.t 7)⟩,
    ⟨some 2, none, .mov (.t 8)⟩] [2])
  .ret))⟩

/-- troth/lex.sign -/
def i63 : AFunc := ⟨1, 21, [.tmp 2],
  (.seq (.region [⟨some 2, none, .mov (.c (.int .i64 0))⟩] [0])
  (.seq (.block 0 (.seq (.region [⟨some 4, none, .mov (.t 0)⟩,
    ⟨some 5, none, .lenstr (.t 4)⟩,
    ⟨some 6, none, .bin .gtr (.t 5) (.c (.int .i64 1))⟩,
    ⟨some 7, none, .mov (.t 6)⟩,
    ⟨some 8, (some (7, true)), .mov (.t 0)⟩,
    ⟨some 9, (some (7, true)), .idxstr (.t 8) (.c (.int .i64 1))⟩,
    ⟨some 10, (some (7, true)), .bin .eql (.t 9) (.c (.int .u8 61))⟩,
    ⟨some 11, none, .pick (.t 7) (.t 10) (.c (.bool false))⟩,
    ⟨some 12, none, .mov (.t 11)⟩,
    ⟨some 13, (some (12, true)), .mov (.t 0)⟩,
    ⟨some 14, (some (12, true)), .slstr (.t 13) none (some (.c (.int .i64 2)))⟩,
    ⟨some 15, (some (12, true)), .call false 101 [(.c (.str [61, 61, 32, 33, 61, 32, 60, 61])), (.t 14)]⟩,
    ⟨some 16, none, .pick (.t 12) (.t 15) (.c (.bool false))⟩,
    ⟨some 3, none, .mov (.t 16)⟩] [0, 3])
  (.cond (.t 3) (.seq (.region [⟨some 2, none, .mov (.c (.int .i64 2))⟩] [2])
  .ret)
  (.seq (.region [⟨some 18, none, .mov (.t 0)⟩,
    ⟨some 19, none, .slstr (.t 18) none (some (.c (.int .i64 1)))⟩,
    ⟨some 20, none, .call false 101 [(.c (.str [60, 61, 33, 43, 45, 124, 94, 42, 47, 37, 38, 40, 41, 123, 125, 44, 59, 58])), (.t 19)]⟩,
    ⟨some 17, none, .mov (.t 20)⟩] [17])
  (.cond (.t 17) (.seq (.region [⟨some 2, none, .mov (.c (.int .i64 1))⟩] [2])
  .ret)
  .skip)))))
  (.seq (.region [⟨some 2, none, .mov (.c (.int .i64 0))⟩] [2])
  .ret)))⟩

def i64_L0 : ACode :=
  (.seq (.seq (.region [⟨some 8, none, .mov (.t 6)⟩,
    ⟨some 9, none, .mov (.t 1)⟩,
    ⟨some 10, none, .bin .lss (.t 8) (.t 9)⟩] [0, 1, 4, 5, 6, 10])
  (.cond (.t 10) .skip
  (.exit 0)))
  (.seq (.block 1 (.seq (.region [⟨some 13, none, .faddr 1 (.t 5)⟩,
    ⟨some 14, none, .load none (.t 13)⟩,
    ⟨some 15, none, .bin .add (.t 14) (.c (.int .i64 1))⟩,
    ⟨some 16, none, .faddr 1 (.t 5)⟩,
    ⟨none, none, .store 1 (.t 16) (.t 15)⟩] [0, 1, 4, 5, 6])
  (.seq (.region [⟨some 17, none, .mov (.t 0)⟩,
    ⟨some 18, none, .mov (.t 6)⟩,
    ⟨some 19, none, .idxstr (.t 17) (.t 18)⟩,
    ⟨some 20, none, .bin .eql (.t 19) (.c (.int .u8 10))⟩] [0, 1, 4, 5, 6, 20])
  (.cond (.t 20) (.region [⟨some 21, none, .faddr 0 (.t 5)⟩,
    ⟨some 22, none, .load none (.t 21)⟩,
    ⟨some 23, none, .bin .add (.t 22) (.c (.int .i64 1))⟩,
    ⟨some 24, none, .build [(.int .i64 0), (.int .i64 0)] [(0, 1, (.t 23)), (1, 1, (.c (.int .i64 1)))]⟩,
    ⟨none, none, .store 2 (.t 5) (.t 24)⟩] [0, 1, 4, 5, 6])
  .skip))))
  (.region [⟨some 11, none, .mov (.t 6)⟩,
    ⟨some 12, none, .bin .add (.t 11) (.c (.int .i64 1))⟩,
    ⟨some 6, none, .mov (.t 12)⟩] [0, 1, 4, 5, 6])))

/-- troth/trothref02.place -/
def i64 : AFunc := ⟨2, 26, [.cell 4 (some 2)],
  (.seq (.region [⟨some 4, none, .alloc [(.int .i64 0), (.int .i64 0)] 53⟩] [0, 1, 4])
  (.seq (.region [⟨some 7, none, .build [(.int .i64 0), (.int .i64 0)] [(0, 1, (.c (.int .i64 1))), (1, 1, (.c (.int .i64 1)))]⟩,
    ⟨some 5, none, .alloc [(.int .i64 0), (.int .i64 0)] 53⟩,
    ⟨none, none, .store 2 (.t 5) (.t 7)⟩] [0, 1, 4, 5])
  (.seq (.seq (.region [⟨some 6, none, .mov (.c (.int .i64 0))⟩] [0, 1, 4, 5, 6])
  (.block 0 (.loop [0, 1, 4, 5, 6] i64_L0)))
  (.seq (.region [⟨some 25, none, .load (some 2) (.t 5)⟩,
    ⟨none, none, .store 2 (.t 4) (.t 25)⟩] [4])
  .ret))))⟩

/-- troth/trothref02.word -/
def i65 : AFunc := ⟨2, 23, [.tmp 4],
  (.seq (.region [⟨some 4, none, .mov (.c (.bool false))⟩] [0, 1])
  (.seq (.region [⟨some 5, none, .mov (.t 0)⟩,
    ⟨some 6, none, .bin .geq (.t 5) (.c (.int .u8 97))⟩,
    ⟨some 7, none, .mov (.t 6)⟩,
    ⟨some 8, (some (7, true)), .mov (.t 0)⟩,
    ⟨some 9, (some (7, true)), .bin .leq (.t 8) (.c (.int .u8 122))⟩,
    ⟨some 10, none, .pick (.t 7) (.t 9) (.c (.bool false))⟩,
    ⟨some 11, none, .mov (.t 10)⟩,
    ⟨some 12, (some (11, false)), .mov (.t 1)⟩,
    ⟨some 13, (some (11, false)), .un .not (.t 12)⟩,
    ⟨some 14, (some (11, false)), .mov (.t 13)⟩,
    ⟨some 15, (some (14, true)), .mov (.t 0)⟩,
    ⟨some 16, (some (14, true)), .bin .geq (.t 15) (.c (.int .u8 48))⟩,
    ⟨some 17, (some (11, false)), .pick (.t 14) (.t 16) (.c (.bool false))⟩,
    ⟨some 18, (some (11, false)), .mov (.t 17)⟩,
    ⟨some 19, (some (18, true)), .mov (.t 0)⟩,
    ⟨some 20, (some (18, true)), .bin .leq (.t 19) (.c (.int .u8 57))⟩,
    ⟨some 21, (some (11, false)), .pick (.t 18) (.t 20) (.c (.bool false))⟩,
    ⟨some 22, none, .pick (.t 11) (.c (.bool true)) (.t 21)⟩,
    ⟨some 4, none, .mov (.t 22)⟩] [4])
  .ret))⟩

def i66_L0 : ACode :=
  (.seq (.seq (.region [⟨some 7, none, .mov (.t 5)⟩,
    ⟨some 8, none, .mov (.t 0)⟩,
    ⟨some 9, none, .lenstr (.t 8)⟩,
    ⟨some 10, none, .bin .lss (.t 7) (.t 9)⟩] [0, 4, 5, 10])
  (.cond (.t 10) .skip
  (.exit 0)))
  (.seq (.block 1 (.seq (.region [⟨some 13, none, .mov (.t 0)⟩,
    ⟨some 14, none, .mov (.t 5)⟩,
    ⟨some 15, none, .idxstr (.t 13) (.t 14)⟩,
    ⟨some 16, none, .bin .sub (.t 15) (.c (.int .u8 48))⟩,
    ⟨some 17, none, .cvi .u64 (.t 16)⟩,
    ⟨some 6, none, .mov (.t 17)⟩] [0, 4, 5, 6])
  (.seq (.seq (.region [⟨some 18, none, .mov (.t 4)⟩,
    ⟨some 19, none, .mov (.t 6)⟩,
    ⟨some 20, none, .bin .sub (.c (.int .u64 18446744073709551615)) (.t 19)⟩,
    ⟨some 21, none, .bin .quo (.t 20) (.c (.int .u64 10))⟩,
    ⟨some 22, none, .bin .gtr (.t 18) (.t 21)⟩] [0, 4, 5, 6, 22])
  (.cond (.t 22) (.seq (.region [⟨some 2, none, .mov (.c (.int .u64 0))⟩,
    ⟨some 3, none, .mov (.c (.bool false))⟩] [2, 3])
  .ret)
  .skip))
  (.region [⟨some 23, none, .mov (.t 4)⟩,
    ⟨some 24, none, .bin .mul (.c (.int .u64 10)) (.t 23)⟩,
    ⟨some 25, none, .mov (.t 6)⟩,
    ⟨some 26, none, .bin .add (.t 24) (.t 25)⟩,
    ⟨some 4, none, .mov (.t 26)⟩] [0, 4, 5]))))
  (.region [⟨some 11, none, .mov (.t 5)⟩,
    ⟨some 12, none, .bin .add (.t 11) (.c (.int .i64 1))⟩,
    ⟨some 5, none, .mov (.t 12)⟩] [0, 4, 5])))

/-- troth/trothref02.Number -/
def i66 : AFunc := ⟨1, 28, [.tmp 2, .tmp 3],
  (.seq (.region [⟨some 2, none, .mov (.c (.int .u64 0))⟩,
    ⟨some 3, none, .mov (.c (.bool false))⟩] [0])
  (.seq (.region [⟨some 4, none, .mov (.c (.int .u64 0))⟩] [0, 4])
  (.seq (.seq (.region [⟨some 5, none, .mov (.c (.int .i64 0))⟩] [0, 4, 5])
  (.block 0 (.loop [0, 4, 5] i66_L0)))
  (.seq (.region [⟨some 27, none, .mov (.t 4)⟩,
    ⟨some 2, none, .mov (.t 27)⟩,
    ⟨some 3, none, .mov (.c (.bool true))⟩] [2, 3])
  .ret))))⟩

/-- troth/trothref02.Signs -/
def i67 : AFunc := ⟨0, 2, [.tmp 0],
  (.seq (.region [⟨some 0, none, .mov (.c (.sl 1 [] .exact))⟩] [])
  (.seq (.region [⟨some 1, none, .bslice 9 1 [(.str [])] 21 [(0, (.c (.str [61, 61]))), (1, (.c (.str [33, 61]))), (2, (.c (.str [60, 61]))), (3, (.c (.str [60]))), (4, (.c (.str [61]))), (5, (.c (.str [33]))), (6, (.c (.str [43]))), (7, (.c (.str [45]))), (8, (.c (.str [124]))), (9, (.c (.str [94]))), (10, (.c (.str [42]))), (11, (.c (.str [47]))), (12, (.c (.str [37]))), (13, (.c (.str [38]))), (14, (.c (.str [40]))), (15, (.c (.str [41]))), (16, (.c (.str [123]))), (17, (.c (.str [125]))), (18, (.c (.str [44]))), (19, (.c (.str [59]))), (20, (.c (.str [58])))]⟩,
    ⟨some 0, none, .mov (.t 1)⟩] [0])
  .ret))⟩

def i68_L0 : ACode :=
  (.seq (.region [⟨some 13, none, .bin .lss (.t 12) (.t 11)⟩] [1, 2, 10, 11, 12, 13])
  (.seq (.cond (.t 13) .skip
  (.exit 0))
  (.seq (.block 1 (.seq (.region [⟨some 14, none, .idxas 8 (.t 10) (.t 12)⟩,
    ⟨some 15, none, .load (some 8) (.t 14)⟩,
    ⟨some 7, none, .alloc [(.int .u8 0), (.int .u8 0), (.int .u8 0), (.int .u8 0), .nilp, .nilp, (.sl 8 [] .exact), (.sl 8 [] .exact)] 72⟩,
    ⟨none, none, .store 8 (.t 7) (.t 15)⟩] [1, 2, 7, 10, 11, 12])
  (.seq (.region [⟨some 16, none, .mov (.t 2)⟩,
    ⟨some 17, none, .load (some 8) (.t 7)⟩,
    ⟨some 18, none, .callv true (.t 16) [(.t 17)]⟩] [1, 2, 7, 10, 11, 12])
  (.seq (.region [⟨some 19, none, .faddr 6 (.t 7)⟩,
    ⟨some 20, none, .load none (.t 19)⟩,
    ⟨some 21, none, .mov (.t 1)⟩,
    ⟨some 22, none, .bin .add (.t 21) (.c (.int .i64 1))⟩,
    ⟨some 23, none, .mov (.t 2)⟩,
    ⟨some 24, none, .call true 68 [(.t 20), (.t 22), (.t 23)]⟩] [1, 2, 7, 10, 11, 12])
  (.region [⟨some 25, none, .faddr 7 (.t 7)⟩,
    ⟨some 26, none, .load none (.t 25)⟩,
    ⟨some 27, none, .mov (.t 1)⟩,
    ⟨some 28, none, .bin .add (.t 27) (.c (.int .i64 1))⟩,
    ⟨some 29, none, .mov (.t 2)⟩,
    ⟨some 30, none, .call true 68 [(.t 26), (.t 28), (.t 29)]⟩] [1, 2, 10, 11, 12])))))
  (.region [⟨some 31, none, .bin .add (.t 12) (.c (.int .i64 1))⟩,
    ⟨some 12, none, .mov (.t 31)⟩] [1, 2, 10, 11, 12]))))

/-- troth/prog.walk -/
def i68 : AFunc := ⟨3, 32, [],
  (.seq (.seq (.region [⟨some 8, none, .mov (.t 1)⟩,
    ⟨some 9, none, .bin .gtr (.t 8) (.c (.int .i64 8))⟩] [0, 1, 2, 9])
  (.cond (.t 9) .ret
  .skip))
  (.seq (.region [⟨some 10, none, .mov (.t 0)⟩,
    ⟨some 11, none, .lensl (.t 10)⟩,
    ⟨some 12, none, .mov (.c (.int .i64 0))⟩] [1, 2, 10, 11, 12])
  (.block 0 (.loop [1, 2, 10, 11, 12] i68_L0))))⟩

def i69_L0 : ACode :=
  (.seq (.region [⟨some 13, none, .bin .lss (.t 12) (.t 11)⟩] [1, 5, 10, 11, 12, 13])
  (.seq (.cond (.t 13) .skip
  (.exit 0))
  (.seq (.block 1 (.seq (.region [⟨some 14, none, .idxas 8 (.t 10) (.t 12)⟩,
    ⟨some 15, none, .load (some 8) (.t 14)⟩,
    ⟨some 7, none, .alloc [(.int .u8 0), (.int .u8 0), (.int .u8 0), (.int .u8 0), .nilp, .nilp, (.sl 8 [] .exact), (.sl 8 [] .exact)] 72⟩,
    ⟨none, none, .store 8 (.t 7) (.t 15)⟩] [1, 5, 7, 10, 11, 12])
  (.seq (.region [⟨some 16, none, .faddr 0 (.t 7)⟩,
    ⟨some 17, none, .load none (.t 16)⟩,
    ⟨some 18, none, .bin .eql (.t 17) (.c (.int .u8 8))⟩,
    ⟨some 19, none, .mov (.t 18)⟩,
    ⟨some 20, (some (19, false)), .faddr 0 (.t 7)⟩,
    ⟨some 21, (some (19, false)), .load none (.t 20)⟩,
    ⟨some 22, (some (19, false)), .bin .eql (.t 21) (.c (.int .u8 9))⟩,
    ⟨some 23, none, .pick (.t 19) (.c (.bool true)) (.t 22)⟩] [1, 5, 7, 10, 11, 12, 23])
  (.cond (.t 23) (.draw [⟨some 24, none, .mov (.t 5)⟩,
    ⟨some 25, none, .faddr 6 (.t 7)⟩,
    ⟨some 26, none, .load none (.t 25)⟩,
    ⟨some 27, none, .mov (.t 1)⟩,
    ⟨some 28, none, .bin .sub (.t 27) (.c (.int .i64 1))⟩,
    ⟨some 29, none, .call false 69 [(.t 26), (.t 28)]⟩,
    ⟨some 30, none, .faddr 7 (.t 7)⟩,
    ⟨some 31, none, .load none (.t 30)⟩,
    ⟨some 32, none, .mov (.t 1)⟩,
    ⟨some 33, none, .bin .sub (.t 32) (.c (.int .i64 1))⟩,
    ⟨some 34, none, .call false 69 [(.t 31), (.t 33)]⟩,
    ⟨some 35, none, .max [(.t 24), (.t 29), (.t 34)]⟩,
    ⟨some 5, none, .mov (.t 35)⟩] [[], [], [1], [], [3], [1, 2, 3, 4], [], [6], [], [8], [1, 2, 3, 4, 5, 6, 7, 8, 9], [0, 1, 2, 3, 4, 5, 6, 7, 8, 9, 10], [0, 1, 2, 3, 4, 5, 6, 7, 8, 9, 10, 11]] [1, 5, 10, 11, 12])
  .skip))))
  (.region [⟨some 36, none, .bin .add (.t 12) (.c (.int .i64 1))⟩,
    ⟨some 12, none, .mov (.t 36)⟩] [1, 5, 10, 11, 12]))))

/-- troth/prog.nest -/
def i69 : AFunc := ⟨2, 39, [.tmp 4],
  (.seq (.region [⟨some 4, none, .mov (.c (.int .i64 0))⟩] [0, 1])
  (.seq (.seq (.region [⟨some 8, none, .mov (.t 1)⟩,
    ⟨some 9, none, .bin .eql (.t 8) (.c (.int .i64 0))⟩] [0, 1, 9])
  (.cond (.t 9) (.seq (.region [⟨some 4, none, .mov (.c (.int .i64 0))⟩] [4])
  .ret)
  .skip))
  (.seq (.region [⟨some 5, none, .mov (.c (.int .i64 0))⟩] [0, 1, 5])
  (.seq (.seq (.region [⟨some 10, none, .mov (.t 0)⟩,
    ⟨some 11, none, .lensl (.t 10)⟩,
    ⟨some 12, none, .mov (.c (.int .i64 0))⟩] [1, 5, 10, 11, 12])
  (.block 0 (.loop [1, 5, 10, 11, 12] i69_L0)))
  (.seq (.region [⟨some 37, none, .mov (.t 5)⟩,
    ⟨some 38, none, .bin .add (.t 37) (.c (.int .i64 1))⟩,
    ⟨some 4, none, .mov (.t 38)⟩] [4])
  .ret)))))⟩

/-- troth/trothlaw04.wakes$1 -/
def i70 : AFunc := ⟨2, 5, [],
  (.seq (.region [⟨some 2, none, .ibox (.t 0)⟩] [1])
  (.region [⟨some 3, none, .load none (.t 1)⟩,
    ⟨some 4, none, .bin .add (.t 3) (.c (.int .i64 1))⟩,
    ⟨none, none, .store 1 (.t 1) (.t 4)⟩] []))⟩

def i71_L0 : ACode :=
  (.seq (.seq (.region [⟨some 30, none, .mov (.t 8)⟩,
    ⟨some 31, none, .bin .lss (.t 30) (.c (.int .i64 2))⟩,
    ⟨some 32, none, .mov (.t 31)⟩,
    ⟨some 33, (some (32, true)), .mov (.t 7)⟩,
    ⟨some 34, (some (32, true)), .bin .eql (.t 33) (.c (.int .u8 8))⟩,
    ⟨some 35, (some (32, true)), .mov (.t 34)⟩,
    ⟨some 36, (some (35, false)), .mov (.t 7)⟩,
    ⟨some 37, (some (35, false)), .bin .eql (.t 36) (.c (.int .u8 9))⟩,
    ⟨some 38, (some (35, false)), .mov (.t 37)⟩,
    ⟨some 39, (some (38, true)), .mov (.t 8)⟩,
    ⟨some 40, (some (38, true)), .bin .eql (.t 39) (.c (.int .i64 0))⟩,
    ⟨some 41, (some (35, false)), .pick (.t 38) (.t 40) (.c (.bool false))⟩,
    ⟨some 42, (some (32, true)), .pick (.t 35) (.c (.bool true)) (.t 41)⟩,
    ⟨some 43, none, .pick (.t 32) (.t 42) (.c (.bool false))⟩] [0, 1, 6, 7, 8, 43])
  (.cond (.t 43) .skip
  (.exit 2)))
  (.seq (.block 3 (.seq (.region [⟨some 47, none, .mov (.t 0)⟩,
    ⟨some 48, none, .mov (.t 1)⟩,
    ⟨some 49, none, .call false 71 [(.t 47), (.t 48)]⟩,
    ⟨some 46, none, .mov (.t 49)⟩,
    ⟨some 50, none, .ext (.t 46) 0⟩,
    ⟨some 51, none, .ext (.t 46) 1⟩,
    ⟨some 9, none, .mov (.t 50)⟩,
    ⟨some 10, none, .mov (.t 51)⟩] [0, 6, 7, 8, 9, 10])
  (.seq (.region [⟨some 52, none, .mov (.t 6)⟩,
    ⟨some 53, none, .mov (.t 9)⟩,
    ⟨some 54, none, .max [(.t 52), (.t 53)]⟩,
    ⟨some 6, none, .mov (.t 54)⟩] [0, 6, 7, 8, 10])
  (.region [⟨some 55, none, .mov (.t 10)⟩,
    ⟨some 56, none, .bin .add (.t 55) (.c (.int .i64 1))⟩,
    ⟨some 1, none, .mov (.t 56)⟩] [0, 1, 6, 7, 8]))))
  (.region [⟨some 44, none, .mov (.t 8)⟩,
    ⟨some 45, none, .bin .add (.t 44) (.c (.int .i64 1))⟩,
    ⟨some 8, none, .mov (.t 45)⟩] [0, 1, 6, 7, 8])))

def i71_L1 : ACode :=
  (.seq (.seq (.region [⟨some 11, none, .mov (.t 1)⟩,
    ⟨some 12, none, .mov (.t 0)⟩,
    ⟨some 13, none, .lensl (.t 12)⟩,
    ⟨some 14, none, .bin .lss (.t 11) (.t 13)⟩,
    ⟨some 15, none, .mov (.t 14)⟩,
    ⟨some 16, (some (15, true)), .mov (.t 0)⟩,
    ⟨some 17, (some (15, true)), .mov (.t 1)⟩,
    ⟨some 18, (some (15, true)), .idxas 6 (.t 16) (.t 17)⟩,
    ⟨some 19, (some (15, true)), .faddr 0 (.t 18)⟩,
    ⟨some 20, (some (15, true)), .load none (.t 19)⟩,
    ⟨some 21, (some (15, true)), .bin .neq (.t 20) (.c (.int .u8 0))⟩,
    ⟨some 22, none, .pick (.t 15) (.t 21) (.c (.bool false))⟩] [0, 1, 6, 22])
  (.cond (.t 22) .skip
  (.exit 0)))
  (.block 1 (.seq (.region [⟨some 23, none, .mov (.t 0)⟩,
    ⟨some 24, none, .mov (.t 1)⟩,
    ⟨some 25, none, .idxas 6 (.t 23) (.t 24)⟩,
    ⟨some 26, none, .faddr 0 (.t 25)⟩,
    ⟨some 27, none, .load none (.t 26)⟩,
    ⟨some 7, none, .mov (.t 27)⟩] [0, 1, 6, 7])
  (.seq (.region [⟨some 28, none, .mov (.t 1)⟩,
    ⟨some 29, none, .bin .add (.t 28) (.c (.int .i64 1))⟩,
    ⟨some 1, none, .mov (.t 29)⟩] [0, 1, 6, 7])
  (.seq (.region [⟨some 8, none, .mov (.c (.int .i64 0))⟩] [0, 1, 6, 7, 8])
  (.block 2 (.loop [0, 1, 6, 7, 8] i71_L0)))))))

/-- troth/trothref04.Deep -/
def i71 : AFunc := ⟨2, 60, [.tmp 4, .tmp 5],
  (.seq (.region [⟨some 4, none, .mov (.c (.int .i64 0))⟩,
    ⟨some 5, none, .mov (.c (.int .i64 0))⟩] [0, 1])
  (.seq (.region [⟨some 6, none, .mov (.c (.int .i64 0))⟩] [0, 1, 6])
  (.seq (.block 0 (.loop [0, 1, 6] i71_L1))
  (.seq (.region [⟨some 57, none, .mov (.t 6)⟩,
    ⟨some 58, none, .bin .add (.t 57) (.c (.int .i64 1))⟩,
    ⟨some 59, none, .mov (.t 1)⟩,
    ⟨some 4, none, .mov (.t 58)⟩,
    ⟨some 5, none, .mov (.t 59)⟩] [4, 5])
  .ret))))⟩

/-- troth/trothref04.Expr -/
def i72 : AFunc := ⟨1, 24, [.tmp 2],
  (.seq (.region [⟨some 2, none, .mov (.c (.str []))⟩] [0])
  (.seq (.region [⟨some 8, none, .mov (.t 0)⟩,
    ⟨some 9, none, .call false 19 [(.t 8), (.c (.int .i64 0))]⟩,
    ⟨some 7, none, .mov (.t 9)⟩,
    ⟨some 10, none, .ext (.t 7) 0⟩,
    ⟨some 11, none, .ext (.t 7) 1⟩,
    ⟨some 3, none, .mov (.t 10)⟩,
    ⟨some 4, none, .mov (.t 11)⟩] [0, 3, 4])
  (.seq (.seq (.region [⟨some 12, none, .mov (.t 3)⟩,
    ⟨some 13, none, .bin .lss (.t 12) (.c (.int .i64 0))⟩,
    ⟨some 14, none, .mov (.t 13)⟩,
    ⟨some 15, (some (14, false)), .mov (.t 4)⟩,
    ⟨some 16, (some (14, false)), .bin .gtr (.t 15) (.c (.int .i64 12))⟩,
    ⟨some 17, none, .pick (.t 14) (.c (.bool true)) (.t 16)⟩] [0, 17])
  (.cond (.t 17) (.seq (.region [⟨some 2, none, .mov (.c (.str []))⟩] [2])
  .ret)
  .skip))
  (.seq (.region [⟨some 19, none, .mov (.t 0)⟩,
    ⟨some 20, none, .call false 20 [(.t 19), (.c (.int .i64 0))]⟩,
    ⟨some 18, none, .mov (.t 20)⟩,
    ⟨some 21, none, .ext (.t 18) 0⟩,
    ⟨some 22, none, .ext (.t 18) 1⟩,
    ⟨some 5, none, .mov (.t 21)⟩,
    ⟨some 6, none, .mov (.t 22)⟩] [5])
  (.seq (.region [⟨some 23, none, .mov (.t 5)⟩,
    ⟨some 2, none, .mov (.t 23)⟩] [2])
  .ret)))))⟩

def i73_L0 : ACode :=
  (.seq (.seq (.region [⟨some 13, none, .mov (.t 5)⟩,
    ⟨some 14, none, .mov (.t 4)⟩,
    ⟨some 15, none, .lensl (.t 14)⟩,
    ⟨some 16, none, .bin .lss (.t 13) (.t 15)⟩] [1, 3, 4, 5, 16])
  (.cond (.t 16) .skip
  (.exit 0)))
  (.seq (.block 1 (.draw [⟨some 19, none, .mov (.t 3)⟩,
    ⟨some 20, none, .mov (.t 19)⟩,
    ⟨some 21, (some (20, false)), .mov (.t 4)⟩,
    ⟨some 22, (some (20, false)), .mov (.t 5)⟩,
    ⟨some 23, (some (20, false)), .idxas 1 (.t 21) (.t 22)⟩,
    ⟨some 24, (some (20, false)), .load none (.t 23)⟩,
    ⟨some 25, (some (20, false)), .faddr 2 (.t 1)⟩,
    ⟨some 26, (some (20, false)), .load none (.t 25)⟩,
    ⟨some 27, (some (20, false)), .bin .eql (.t 24) (.t 26)⟩,
    ⟨some 28, none, .pick (.t 20) (.c (.bool true)) (.t 27)⟩,
    ⟨some 3, none, .mov (.t 28)⟩] [[], [0], [0, 1], [0, 1], [0, 1, 2, 3], [0, 1, 2, 3, 4], [0, 1], [0, 1, 6], [0, 1, 2, 3, 4, 5, 6, 7], [0, 1, 2, 3, 4, 5, 6, 7, 8], [0, 1, 2, 3, 4, 5, 6, 7, 8, 9]] [1, 3, 4, 5]))
  (.region [⟨some 17, none, .mov (.t 5)⟩,
    ⟨some 18, none, .bin .add (.t 17) (.c (.int .i64 1))⟩,
    ⟨some 5, none, .mov (.t 18)⟩] [1, 3, 4, 5])))

/-- troth/trothlaw04.proper -/
def i73 : AFunc := ⟨1, 173, [.tmp 2],
  (.seq (.region [⟨some 1, none, .ibox (.t 0)⟩,
    ⟨some 2, none, .mov (.c (.bool false))⟩] [1])
  (.seq (.region [⟨some 3, none, .mov (.c (.bool false))⟩] [1, 3])
  (.seq (.region [⟨some 10, none, .faddr 0 (.t 1)⟩,
    ⟨some 11, none, .load none (.t 10)⟩,
    ⟨some 12, none, .call false 29 [(.t 11)]⟩,
    ⟨some 4, none, .mov (.t 12)⟩] [1, 3, 4])
  (.seq (.seq (.region [⟨some 5, none, .mov (.c (.int .i64 0))⟩] [1, 3, 4, 5])
  (.block 0 (.loop [1, 3, 4, 5] i73_L0)))
  (.seq (.seq (.region [⟨some 29, none, .mov (.t 4)⟩,
    ⟨some 30, none, .lensl (.t 29)⟩,
    ⟨some 31, none, .bin .eql (.t 30) (.c (.int .i64 0))⟩] [1, 3, 31])
  (.cond (.t 31) (.region [⟨some 32, none, .faddr 2 (.t 1)⟩,
    ⟨some 33, none, .load none (.t 32)⟩,
    ⟨some 34, none, .bin .eql (.t 33) (.c (.int .u8 0))⟩,
    ⟨some 3, none, .mov (.t 34)⟩] [1, 3])
  .skip))
  (.seq (.region [⟨some 35, none, .faddr 3 (.t 1)⟩,
    ⟨some 36, none, .load none (.t 35)⟩,
    ⟨some 37, none, .bin .geq (.t 36) (.c (.int .u8 97))⟩,
    ⟨some 38, none, .mov (.t 37)⟩,
    ⟨some 39, (some (38, true)), .faddr 3 (.t 1)⟩,
    ⟨some 40, (some (38, true)), .load none (.t 39)⟩,
    ⟨some 41, (some (38, true)), .bin .leq (.t 40) (.c (.int .u8 122))⟩,
    ⟨some 42, none, .pick (.t 38) (.t 41) (.c (.bool false))⟩,
    ⟨some 6, none, .mov (.t 42)⟩] [1, 3, 6])
  (.seq (.draw [⟨some 43, none, .faddr 4 (.t 1)⟩,
    ⟨some 44, none, .load none (.t 43)⟩,
    ⟨some 45, none, .call false 72 [(.t 44)]⟩,
    ⟨some 46, none, .bin .neq (.t 45) (.c (.str []))⟩,
    ⟨some 47, none, .faddr 5 (.t 1)⟩,
    ⟨some 48, none, .load none (.t 47)⟩,
    ⟨some 49, none, .call false 72 [(.t 48)]⟩,
    ⟨some 50, none, .bin .neq (.t 49) (.c (.str []))⟩,
    ⟨some 7, none, .mov (.t 46)⟩,
    ⟨some 8, none, .mov (.t 50)⟩] [[], [0], [0, 1], [0, 1, 2], [], [4], [0, 1, 2, 4, 5], [0, 1, 2, 4, 5, 6], [0, 1, 2, 3, 4, 5, 6], [0, 1, 2, 3, 4, 5, 6, 7, 8]] [1, 3, 6, 7, 8])
  (.seq (.region [⟨some 51, none, .faddr 5 (.t 1)⟩,
    ⟨some 52, none, .load none (.t 51)⟩,
    ⟨some 53, none, .lensl (.t 52)⟩,
    ⟨some 54, none, .bin .eql (.t 53) (.c (.int .i64 0))⟩,
    ⟨some 9, none, .mov (.t 54)⟩] [1, 3, 6, 7, 8, 9])
  (.seq (.seq (.region [⟨some 55, none, .faddr 0 (.t 1)⟩,
    ⟨some 56, none, .load none (.t 55)⟩] [1, 3, 6, 7, 8, 9, 56])
  (.block 2 (.seq (.region [⟨some 58, none, .bin .eql (.t 56) (.c (.int .u8 1))⟩,
    ⟨some 57, none, .mov (.t 58)⟩] [1, 3, 6, 7, 8, 9, 56, 57])
  (.cond (.t 57) (.seq (.region [⟨some 59, none, .mov (.t 3)⟩,
    ⟨some 60, none, .mov (.t 59)⟩,
    ⟨some 61, (some (60, true)), .faddr 3 (.t 1)⟩,
    ⟨some 62, (some (60, true)), .load none (.t 61)⟩,
    ⟨some 63, (some (60, true)), .bin .eql (.t 62) (.c (.int .u8 0))⟩,
    ⟨some 64, none, .pick (.t 60) (.t 63) (.c (.bool false))⟩,
    ⟨some 65, none, .mov (.t 64)⟩,
    ⟨some 66, (some (65, true)), .mov (.t 7)⟩,
    ⟨some 67, none, .pick (.t 65) (.t 66) (.c (.bool false))⟩,
    ⟨some 68, none, .mov (.t 67)⟩,
    ⟨some 69, (some (68, true)), .mov (.t 9)⟩,
    ⟨some 70, none, .pick (.t 68) (.t 69) (.c (.bool false))⟩,
    ⟨some 2, none, .mov (.t 70)⟩] [2])
  .ret)
  (.seq (.region [⟨some 72, none, .bin .eql (.t 56) (.c (.int .u8 2))⟩,
    ⟨some 71, none, .mov (.t 72)⟩] [1, 3, 6, 7, 8, 9, 56, 71])
  (.cond (.t 71) (.seq (.region [⟨some 73, none, .mov (.t 3)⟩,
    ⟨some 74, none, .mov (.t 73)⟩,
    ⟨some 75, (some (74, true)), .mov (.t 6)⟩,
    ⟨some 76, none, .pick (.t 74) (.t 75) (.c (.bool false))⟩,
    ⟨some 77, none, .mov (.t 76)⟩,
    ⟨some 78, (some (77, true)), .faddr 4 (.t 1)⟩,
    ⟨some 79, (some (77, true)), .load none (.t 78)⟩,
    ⟨some 80, (some (77, true)), .lensl (.t 79)⟩,
    ⟨some 81, (some (77, true)), .bin .eql (.t 80) (.c (.int .i64 0))⟩,
    ⟨some 82, none, .pick (.t 77) (.t 81) (.c (.bool false))⟩,
    ⟨some 83, none, .mov (.t 82)⟩,
    ⟨some 84, (some (83, true)), .mov (.t 9)⟩,
    ⟨some 85, none, .pick (.t 83) (.t 84) (.c (.bool false))⟩,
    ⟨some 2, none, .mov (.t 85)⟩] [2])
  .ret)
  (.seq (.region [⟨some 87, none, .bin .eql (.t 56) (.c (.int .u8 3))⟩,
    ⟨some 86, none, .mov (.t 87)⟩] [1, 3, 6, 7, 8, 9, 56, 86])
  (.cond (.t 86) (.seq (.region [⟨some 88, none, .mov (.t 3)⟩,
    ⟨some 89, none, .mov (.t 88)⟩,
    ⟨some 90, (some (89, true)), .mov (.t 6)⟩,
    ⟨some 91, none, .pick (.t 89) (.t 90) (.c (.bool false))⟩,
    ⟨some 92, none, .mov (.t 91)⟩,
    ⟨some 93, (some (92, true)), .faddr 1 (.t 1)⟩,
    ⟨some 94, (some (92, true)), .load none (.t 93)⟩,
    ⟨some 95, (some (92, true)), .bin .eql (.t 94) (.c (.int .u8 0))⟩,
    ⟨some 96, none, .pick (.t 92) (.t 95) (.c (.bool false))⟩,
    ⟨some 97, none, .mov (.t 96)⟩,
    ⟨some 98, (some (97, true)), .mov (.t 7)⟩,
    ⟨some 99, none, .pick (.t 97) (.t 98) (.c (.bool false))⟩,
    ⟨some 100, none, .mov (.t 99)⟩,
    ⟨some 101, (some (100, true)), .mov (.t 9)⟩,
    ⟨some 102, none, .pick (.t 100) (.t 101) (.c (.bool false))⟩,
    ⟨some 2, none, .mov (.t 102)⟩] [2])
  .ret)
  (.seq (.seq (.region [⟨some 104, none, .bin .eql (.t 56) (.c (.int .u8 4))⟩,
    ⟨some 103, none, .mov (.t 104)⟩] [1, 3, 6, 7, 8, 9, 56, 103])
  (.cond (.t 103) .skip
  (.region [⟨some 105, none, .bin .eql (.t 56) (.c (.int .u8 5))⟩,
    ⟨some 103, none, .mov (.t 105)⟩] [1, 3, 6, 7, 8, 9, 56, 103])))
  (.cond (.t 103) (.seq (.region [⟨some 106, none, .mov (.t 3)⟩,
    ⟨some 107, none, .mov (.t 106)⟩,
    ⟨some 108, (some (107, true)), .mov (.t 6)⟩,
    ⟨some 109, none, .pick (.t 107) (.t 108) (.c (.bool false))⟩,
    ⟨some 110, none, .mov (.t 109)⟩,
    ⟨some 111, (some (110, true)), .mov (.t 7)⟩,
    ⟨some 112, none, .pick (.t 110) (.t 111) (.c (.bool false))⟩,
    ⟨some 113, none, .mov (.t 112)⟩,
    ⟨some 114, (some (113, true)), .mov (.t 9)⟩,
    ⟨some 115, none, .pick (.t 113) (.t 114) (.c (.bool false))⟩,
    ⟨some 2, none, .mov (.t 115)⟩] [2])
  .ret)
  (.seq (.region [⟨some 117, none, .bin .eql (.t 56) (.c (.int .u8 6))⟩,
    ⟨some 116, none, .mov (.t 117)⟩] [1, 3, 6, 7, 8, 9, 56, 116])
  (.cond (.t 116) (.seq (.region [⟨some 118, none, .mov (.t 3)⟩,
    ⟨some 119, none, .mov (.t 118)⟩,
    ⟨some 120, (some (119, true)), .mov (.t 6)⟩,
    ⟨some 121, none, .pick (.t 119) (.t 120) (.c (.bool false))⟩,
    ⟨some 122, none, .mov (.t 121)⟩,
    ⟨some 123, (some (122, true)), .mov (.t 7)⟩,
    ⟨some 124, none, .pick (.t 122) (.t 123) (.c (.bool false))⟩,
    ⟨some 125, none, .mov (.t 124)⟩,
    ⟨some 126, (some (125, true)), .mov (.t 8)⟩,
    ⟨some 127, none, .pick (.t 125) (.t 126) (.c (.bool false))⟩,
    ⟨some 2, none, .mov (.t 127)⟩] [2])
  .ret)
  (.seq (.region [⟨some 129, none, .bin .eql (.t 56) (.c (.int .u8 7))⟩,
    ⟨some 128, none, .mov (.t 129)⟩] [1, 3, 7, 9, 56, 128])
  (.cond (.t 128) (.seq (.region [⟨some 130, none, .mov (.t 3)⟩,
    ⟨some 131, none, .mov (.t 130)⟩,
    ⟨some 132, (some (131, true)), .faddr 3 (.t 1)⟩,
    ⟨some 133, (some (131, true)), .load none (.t 132)⟩,
    ⟨some 134, (some (131, true)), .bin .eql (.t 133) (.c (.int .u8 0))⟩,
    ⟨some 135, none, .pick (.t 131) (.t 134) (.c (.bool false))⟩,
    ⟨some 136, none, .mov (.t 135)⟩,
    ⟨some 137, (some (136, true)), .faddr 1 (.t 1)⟩,
    ⟨some 138, (some (136, true)), .load none (.t 137)⟩,
    ⟨some 139, (some (136, true)), .bin .eql (.t 138) (.c (.int .u8 0))⟩,
    ⟨some 140, none, .pick (.t 136) (.t 139) (.c (.bool false))⟩,
    ⟨some 141, none, .mov (.t 140)⟩,
    ⟨some 142, (some (141, true)), .faddr 4 (.t 1)⟩,
    ⟨some 143, (some (141, true)), .load none (.t 142)⟩,
    ⟨some 144, (some (141, true)), .lensl (.t 143)⟩,
    ⟨some 145, (some (141, true)), .bin .eql (.t 144) (.c (.int .i64 0))⟩,
    ⟨some 146, none, .pick (.t 141) (.t 145) (.c (.bool false))⟩,
    ⟨some 147, none, .mov (.t 146)⟩,
    ⟨some 148, (some (147, true)), .mov (.t 9)⟩,
    ⟨some 149, none, .pick (.t 147) (.t 148) (.c (.bool false))⟩,
    ⟨some 2, none, .mov (.t 149)⟩] [2])
  .ret)
  (.seq (.seq (.region [⟨some 151, none, .bin .eql (.t 56) (.c (.int .u8 8))⟩,
    ⟨some 150, none, .mov (.t 151)⟩] [1, 3, 7, 9, 56, 150])
  (.cond (.t 150) .skip
  (.region [⟨some 152, none, .bin .eql (.t 56) (.c (.int .u8 9))⟩,
    ⟨some 150, none, .mov (.t 152)⟩] [1, 3, 7, 9, 150])))
  (.cond (.t 150) (.seq (.region [⟨some 153, none, .mov (.t 3)⟩,
    ⟨some 154, none, .mov (.t 153)⟩,
    ⟨some 155, (some (154, true)), .faddr 3 (.t 1)⟩,
    ⟨some 156, (some (154, true)), .load none (.t 155)⟩,
    ⟨some 157, (some (154, true)), .bin .eql (.t 156) (.c (.int .u8 0))⟩,
    ⟨some 158, none, .pick (.t 154) (.t 157) (.c (.bool false))⟩,
    ⟨some 159, none, .mov (.t 158)⟩,
    ⟨some 160, (some (159, true)), .faddr 1 (.t 1)⟩,
    ⟨some 161, (some (159, true)), .load none (.t 160)⟩,
    ⟨some 162, (some (159, true)), .bin .eql (.t 161) (.c (.int .u8 0))⟩,
    ⟨some 163, none, .pick (.t 159) (.t 162) (.c (.bool false))⟩,
    ⟨some 164, none, .mov (.t 163)⟩,
    ⟨some 165, (some (164, true)), .mov (.t 7)⟩,
    ⟨some 166, none, .pick (.t 164) (.t 165) (.c (.bool false))⟩,
    ⟨some 167, none, .mov (.t 166)⟩,
    ⟨some 168, (some (167, true)), .mov (.t 9)⟩,
    ⟨some 169, none, .pick (.t 167) (.t 168) (.c (.bool false))⟩,
    ⟨some 2, none, .mov (.t 169)⟩] [2])
  .ret)
  .skip))))))))))))))))
  (.seq (.region [⟨some 170, none, .faddr 0 (.t 1)⟩,
    ⟨some 171, none, .load none (.t 170)⟩,
    ⟨some 172, none, .bin .eql (.t 171) (.c (.int .u8 0))⟩,
    ⟨some 2, none, .mov (.t 172)⟩] [2])
  .ret))))))))))⟩

/-- troth/trothlaw04.Expr -/
def i74 : AFunc := ⟨1, 20, [.tmp 2],
  (.seq (.region [⟨some 2, none, .mov (.c .nilp)⟩] [0])
  (.seq (.region [⟨some 8, none, .mov (.t 0)⟩,
    ⟨some 9, none, .call false 11 [(.t 8)]⟩,
    ⟨some 7, none, .mov (.t 9)⟩,
    ⟨some 10, none, .ext (.t 7) 0⟩,
    ⟨some 11, none, .ext (.t 7) 1⟩,
    ⟨some 3, none, .mov (.t 10)⟩,
    ⟨some 4, none, .mov (.t 11)⟩] [0, 4])
  (.seq (.seq (.region [⟨some 12, none, .mov (.t 4)⟩,
    ⟨some 13, none, .un .not (.t 12)⟩] [0, 13])
  (.cond (.t 13) (.seq (.region [⟨some 2, none, .mov (.c .nilp)⟩] [2])
  .ret)
  .skip))
  (.seq (.region [⟨some 15, none, .mov (.t 0)⟩,
    ⟨some 16, none, .call false 12 [(.t 15), (.c (.int .i64 0)), (.c (.int .i64 20))]⟩,
    ⟨some 14, none, .mov (.t 16)⟩,
    ⟨some 17, none, .ext (.t 14) 0⟩,
    ⟨some 18, none, .ext (.t 14) 1⟩,
    ⟨some 5, none, .mov (.t 17)⟩,
    ⟨some 6, none, .mov (.t 18)⟩] [5])
  (.seq (.region [⟨some 19, none, .mov (.t 5)⟩,
    ⟨some 2, none, .mov (.t 19)⟩] [2])
  .ret)))))⟩

def i75_L0 : ACode :=
  (.seq (.seq (.region [⟨some 10, none, .mov (.t 1)⟩,
    ⟨some 11, none, .mov (.t 0)⟩,
    ⟨some 12, none, .lensl (.t 11)⟩,
    ⟨some 13, none, .bin .lss (.t 10) (.t 12)⟩,
    ⟨some 14, none, .mov (.t 13)⟩,
    ⟨some 15, (some (14, true)), .mov (.t 0)⟩,
    ⟨some 16, (some (14, true)), .mov (.t 1)⟩,
    ⟨some 17, (some (14, true)), .idxas 6 (.t 15) (.t 16)⟩,
    ⟨some 18, (some (14, true)), .faddr 0 (.t 17)⟩,
    ⟨some 19, (some (14, true)), .load none (.t 18)⟩,
    ⟨some 20, (some (14, true)), .bin .neq (.t 19) (.c (.int .u8 0))⟩,
    ⟨some 21, none, .pick (.t 14) (.t 20) (.c (.bool false))⟩] [0, 1, 6, 21])
  (.cond (.t 21) .skip
  (.exit 0)))
  (.block 1 (.seq (.region [⟨some 22, none, .mov (.t 0)⟩,
    ⟨some 23, none, .mov (.t 1)⟩,
    ⟨some 24, none, .idxas 6 (.t 22) (.t 23)⟩,
    ⟨some 25, none, .load (some 6) (.t 24)⟩,
    ⟨some 7, none, .alloc [(.int .u8 0), (.int .u8 0), (.int .u8 0), (.int .u8 0), (.sl 6 [] .exact), (.sl 6 [] .exact)] 114⟩,
    ⟨none, none, .store 6 (.t 7) (.t 25)⟩] [0, 1, 6, 7])
  (.seq (.draw [⟨some 26, none, .faddr 0 (.t 7)⟩,
    ⟨some 27, none, .load none (.t 26)⟩,
    ⟨some 28, none, .faddr 1 (.t 7)⟩,
    ⟨some 29, none, .load none (.t 28)⟩,
    ⟨some 30, none, .faddr 2 (.t 7)⟩,
    ⟨some 31, none, .load none (.t 30)⟩,
    ⟨some 32, none, .faddr 3 (.t 7)⟩,
    ⟨some 33, none, .load none (.t 32)⟩,
    ⟨some 34, none, .faddr 4 (.t 7)⟩,
    ⟨some 35, none, .load none (.t 34)⟩,
    ⟨some 36, none, .call false 74 [(.t 35)]⟩,
    ⟨some 37, none, .faddr 5 (.t 7)⟩,
    ⟨some 38, none, .load none (.t 37)⟩,
    ⟨some 39, none, .call false 74 [(.t 38)]⟩,
    ⟨some 40, none, .build [(.int .u8 0), (.int .u8 0), (.int .u8 0), (.int .u8 0), .nilp, .nilp, (.sl 8 [] .exact), (.sl 8 [] .exact)] [(0, 1, (.t 27)), (1, 1, (.t 29)), (2, 1, (.t 31)), (3, 1, (.t 33)), (4, 1, (.t 36)), (5, 1, (.t 39))]⟩,
    ⟨some 8, none, .alloc [(.int .u8 0), (.int .u8 0), (.int .u8 0), (.int .u8 0), .nilp, .nilp, (.sl 8 [] .exact), (.sl 8 [] .exact)] 72⟩,
    ⟨none, none, .store 8 (.t 8) (.t 40)⟩] [[], [0], [], [2], [], [4], [], [6], [], [8], [8, 9], [], [11], [8, 9, 10, 11, 12], [0, 1, 2, 3, 4, 5, 6, 7, 8, 9, 10, 11, 12, 13], [], [0, 1, 2, 3, 4, 5, 6, 7, 8, 9, 10, 11, 12, 13, 14, 15]] [0, 1, 6, 7, 8])
  (.seq (.region [⟨some 41, none, .mov (.t 1)⟩,
    ⟨some 42, none, .bin .add (.t 41) (.c (.int .i64 1))⟩,
    ⟨some 1, none, .mov (.t 42)⟩] [0, 1, 6, 7, 8])
  (.seq (.region [⟨some 43, none, .mov (.t 1)⟩,
    ⟨some 44, none, .bin .sub (.t 43) (.c (.int .i64 1))⟩,
    ⟨some 9, none, .mov (.t 44)⟩] [0, 1, 6, 7, 8])
  (.seq (.seq (.region [⟨some 45, none, .faddr 0 (.t 7)⟩,
    ⟨some 46, none, .load none (.t 45)⟩,
    ⟨some 47, none, .bin .eql (.t 46) (.c (.int .u8 8))⟩,
    ⟨some 48, none, .mov (.t 47)⟩,
    ⟨some 49, (some (48, false)), .faddr 0 (.t 7)⟩,
    ⟨some 50, (some (48, false)), .load none (.t 49)⟩,
    ⟨some 51, (some (48, false)), .bin .eql (.t 50) (.c (.int .u8 9))⟩,
    ⟨some 52, none, .pick (.t 48) (.c (.bool true)) (.t 51)⟩] [0, 1, 6, 7, 8, 52])
  (.cond (.t 52) (.seq (.region [⟨some 54, none, .mov (.t 0)⟩,
    ⟨some 55, none, .mov (.t 1)⟩,
    ⟨some 56, none, .call false 75 [(.t 54), (.t 55)]⟩,
    ⟨some 53, none, .mov (.t 56)⟩,
    ⟨some 57, none, .ext (.t 53) 0⟩,
    ⟨some 58, none, .ext (.t 53) 1⟩,
    ⟨some 59, none, .faddr 6 (.t 8)⟩,
    ⟨none, none, .store 1 (.t 59) (.t 57)⟩,
    ⟨some 9, none, .mov (.t 58)⟩] [0, 6, 7, 8, 9])
  (.region [⟨some 60, none, .mov (.t 9)⟩,
    ⟨some 61, none, .bin .add (.t 60) (.c (.int .i64 1))⟩,
    ⟨some 1, none, .mov (.t 61)⟩] [0, 1, 6, 7, 8]))
  .skip))
  (.seq (.seq (.region [⟨some 62, none, .faddr 0 (.t 7)⟩,
    ⟨some 63, none, .load none (.t 62)⟩,
    ⟨some 64, none, .bin .eql (.t 63) (.c (.int .u8 8))⟩] [0, 1, 6, 8, 64])
  (.cond (.t 64) (.seq (.region [⟨some 66, none, .mov (.t 0)⟩,
    ⟨some 67, none, .mov (.t 1)⟩,
    ⟨some 68, none, .call false 75 [(.t 66), (.t 67)]⟩,
    ⟨some 65, none, .mov (.t 68)⟩,
    ⟨some 69, none, .ext (.t 65) 0⟩,
    ⟨some 70, none, .ext (.t 65) 1⟩,
    ⟨some 71, none, .faddr 7 (.t 8)⟩,
    ⟨none, none, .store 1 (.t 71) (.t 69)⟩,
    ⟨some 9, none, .mov (.t 70)⟩] [0, 6, 8, 9])
  (.region [⟨some 72, none, .mov (.t 9)⟩,
    ⟨some 73, none, .bin .add (.t 72) (.c (.int .i64 1))⟩,
    ⟨some 1, none, .mov (.t 73)⟩] [0, 1, 6, 8]))
  .skip))
  (.region [⟨some 74, none, .mov (.t 6)⟩,
    ⟨some 75, none, .load (some 8) (.t 8)⟩,
    ⟨some 76, none, .bslice 72 8 [(.int .u8 0), (.int .u8 0), (.int .u8 0), (.int .u8 0), .nilp, .nilp, (.sl 8 [] .exact), (.sl 8 [] .exact)] 1 [(0, (.t 75))]⟩,
    ⟨some 77, none, .app 72 8 72 (.t 74) (.t 76)⟩,
    ⟨some 6, none, .mov (.t 77)⟩] [0, 1, 6])))))))))

/-- troth/trothlaw04.Block -/
def i75 : AFunc := ⟨2, 80, [.tmp 4, .tmp 5],
  (.seq (.region [⟨some 4, none, .mov (.c (.sl 8 [] .exact))⟩,
    ⟨some 5, none, .mov (.c (.int .i64 0))⟩] [0, 1])
  (.seq (.region [⟨some 6, none, .mov (.c (.sl 8 [] .exact))⟩] [0, 1, 6])
  (.seq (.block 0 (.loop [0, 1, 6] i75_L0))
  (.seq (.region [⟨some 78, none, .mov (.t 6)⟩,
    ⟨some 79, none, .mov (.t 1)⟩,
    ⟨some 4, none, .mov (.t 78)⟩,
    ⟨some 5, none, .mov (.t 79)⟩] [4, 5])
  .ret))))⟩

def i76_L0 : ACode :=
  (.seq (.region [⟨some 14, none, .bin .lss (.t 13) (.t 12)⟩] [0, 1, 12, 13, 14])
  (.seq (.cond (.t 14) .skip
  (.exit 0))
  (.seq (.block 1 (.seq (.region [⟨some 15, none, .mov (.t 13)⟩,
    ⟨some 5, none, .mov (.t 15)⟩] [0, 1, 5, 12, 13])
  (.seq (.draw [⟨some 16, none, .mov (.t 0)⟩,
    ⟨some 17, none, .mov (.t 5)⟩,
    ⟨some 18, none, .idxas 2 (.t 16) (.t 17)⟩,
    ⟨some 19, none, .load (some 2) (.t 18)⟩,
    ⟨some 20, none, .mov (.t 1)⟩,
    ⟨some 21, none, .mov (.t 5)⟩,
    ⟨some 22, none, .idxas 2 (.t 20) (.t 21)⟩,
    ⟨some 23, none, .load (some 2) (.t 22)⟩,
    ⟨some 24, none, .eqb true (.fields [(0, 1, false, (.scalar .i)), (1, 1, false, (.scalar .i))]) (.t 19) (.t 23)⟩] [[], [], [0, 1], [0, 1, 2], [], [], [4, 5], [4, 5, 6], [0, 1, 2, 3, 4, 5, 6, 7]] [0, 1, 12, 13, 24])
  (.cond (.t 24) (.seq (.region [⟨some 4, none, .mov (.c (.bool false))⟩] [4])
  .ret)
  .skip))))
  (.region [⟨some 25, none, .bin .add (.t 13) (.c (.int .i64 1))⟩,
    ⟨some 13, none, .mov (.t 25)⟩] [0, 1, 12, 13]))))

/-- slices.Equal[[]troth/prog.Init,troth/prog.Init] -/
def i76 : AFunc := ⟨2, 26, [.tmp 4],
  (.seq (.region [⟨some 4, none, .mov (.c (.bool false))⟩] [0, 1])
  (.seq (.seq (.region [⟨some 6, none, .mov (.t 0)⟩,
    ⟨some 7, none, .lensl (.t 6)⟩,
    ⟨some 8, none, .mov (.t 1)⟩,
    ⟨some 9, none, .lensl (.t 8)⟩,
    ⟨some 10, none, .bin .neq (.t 7) (.t 9)⟩] [0, 1, 10])
  (.cond (.t 10) (.seq (.region [⟨some 4, none, .mov (.c (.bool false))⟩] [4])
  .ret)
  .skip))
  (.seq (.seq (.region [⟨some 11, none, .mov (.t 0)⟩,
    ⟨some 12, none, .lensl (.t 11)⟩,
    ⟨some 13, none, .mov (.c (.int .i64 0))⟩] [0, 1, 12, 13])
  (.block 0 (.loop [0, 1, 12, 13] i76_L0)))
  (.seq (.region [⟨some 4, none, .mov (.c (.bool true))⟩] [4])
  .ret))))⟩

/-- troth/prog.same -/
def i77 : AFunc := ⟨2, 16, [.tmp 4],
  (.seq (.region [⟨some 4, none, .mov (.c (.bool false))⟩] [0, 1])
  (.seq (.region [⟨some 5, none, .mov (.t 0)⟩,
    ⟨some 6, none, .eqb false (.scalar .p) (.t 5) (.c .nilp)⟩,
    ⟨some 7, none, .mov (.t 6)⟩,
    ⟨some 8, (some (7, true)), .mov (.t 1)⟩,
    ⟨some 9, (some (7, true)), .eqb false (.scalar .p) (.t 8) (.c .nilp)⟩,
    ⟨some 10, none, .pick (.t 7) (.t 9) (.c (.bool false))⟩,
    ⟨some 11, none, .mov (.t 10)⟩,
    ⟨some 12, (some (11, false)), .mov (.t 0)⟩,
    ⟨some 13, (some (11, false)), .mov (.t 1)⟩,
    ⟨some 14, (some (11, false)), .call false 14 [(.t 12), (.t 13)]⟩,
    ⟨some 15, none, .pick (.t 11) (.c (.bool true)) (.t 14)⟩,
    ⟨some 4, none, .mov (.t 15)⟩] [4])
  .ret))⟩

def i78_L0 : ACode :=
  (.seq (.region [⟨some 18, none, .bin .lss (.t 17) (.t 16)⟩] [1, 2, 15, 16, 17, 18])
  (.seq (.cond (.t 18) .skip
  (.exit 0))
  (.seq (.block 1 (.seq (.region [⟨some 19, none, .mov (.t 17)⟩,
    ⟨some 20, none, .idxas 1 (.t 15) (.t 17)⟩,
    ⟨some 21, none, .load none (.t 20)⟩,
    ⟨some 7, none, .mov (.t 19)⟩,
    ⟨some 8, none, .mov (.t 21)⟩] [1, 2, 7, 8, 15, 16, 17])
  (.seq (.region [⟨some 22, none, .mov (.t 1)⟩,
    ⟨some 23, none, .mov (.t 7)⟩,
    ⟨some 24, none, .idxas 1 (.t 22) (.t 23)⟩,
    ⟨some 25, none, .load none (.t 24)⟩,
    ⟨some 9, none, .mov (.t 25)⟩] [1, 2, 8, 9, 15, 16, 17])
  (.seq (.region [⟨some 26, none, .mov (.t 2)⟩,
    ⟨some 27, none, .mov (.t 8)⟩,
    ⟨some 28, none, .mov (.t 9)⟩,
    ⟨some 29, none, .callv true (.t 26) [(.t 27), (.t 28)]⟩,
    ⟨some 30, none, .un .not (.t 29)⟩] [1, 2, 15, 16, 17, 30])
  (.cond (.t 30) (.seq (.region [⟨some 6, none, .mov (.c (.bool false))⟩] [6])
  .ret)
  .skip)))))
  (.region [⟨some 31, none, .bin .add (.t 17) (.c (.int .i64 1))⟩,
    ⟨some 17, none, .mov (.t 31)⟩] [1, 2, 15, 16, 17]))))

/-- slices.EqualFunc[[][]troth/prog.Stmt,[][]troth/prog.Stmt,[]troth/prog.Stmt,[]troth/prog.Stmt] -/
def i78 : AFunc := ⟨3, 32, [.tmp 6],
  (.seq (.region [⟨some 6, none, .mov (.c (.bool false))⟩] [0, 1, 2])
  (.seq (.seq (.region [⟨some 10, none, .mov (.t 0)⟩,
    ⟨some 11, none, .lensl (.t 10)⟩,
    ⟨some 12, none, .mov (.t 1)⟩,
    ⟨some 13, none, .lensl (.t 12)⟩,
    ⟨some 14, none, .bin .neq (.t 11) (.t 13)⟩] [0, 1, 2, 14])
  (.cond (.t 14) (.seq (.region [⟨some 6, none, .mov (.c (.bool false))⟩] [6])
  .ret)
  .skip))
  (.seq (.seq (.region [⟨some 15, none, .mov (.t 0)⟩,
    ⟨some 16, none, .lensl (.t 15)⟩,
    ⟨some 17, none, .mov (.c (.int .i64 0))⟩] [1, 2, 15, 16, 17])
  (.block 0 (.loop [1, 2, 15, 16, 17] i78_L0)))
  (.seq (.region [⟨some 6, none, .mov (.c (.bool true))⟩] [6])
  .ret))))⟩

/-- troth/prog.Same$1 -/
def i79 : AFunc := ⟨2, 8, [.tmp 4],
  (.seq (.region [⟨some 4, none, .mov (.c (.bool false))⟩] [0, 1])
  (.seq (.region [⟨some 5, none, .mov (.t 0)⟩,
    ⟨some 6, none, .mov (.t 1)⟩,
    ⟨some 7, none, .call false 80 [(.t 5), (.t 6), (.c (.int .i64 1))]⟩,
    ⟨some 4, none, .mov (.t 7)⟩] [4])
  .ret))⟩

/-- troth/prog.blocks -/
def i80 : AFunc := ⟨3, 21, [.tmp 6],
  (.seq (.region [⟨some 5, none, .box 3 1 (.t 2)⟩,
    ⟨some 6, none, .mov (.c (.bool false))⟩] [0, 1, 5])
  (.seq (.seq (.region [⟨some 7, none, .load none (.t 5)⟩,
    ⟨some 8, none, .bin .gtr (.t 7) (.c (.int .i64 8))⟩] [0, 1, 5, 8])
  (.cond (.t 8) (.seq (.region [⟨some 9, none, .mov (.t 0)⟩,
    ⟨some 10, none, .lensl (.t 9)⟩,
    ⟨some 11, none, .bin .eql (.t 10) (.c (.int .i64 0))⟩,
    ⟨some 12, none, .mov (.t 11)⟩,
    ⟨some 13, (some (12, true)), .mov (.t 1)⟩,
    ⟨some 14, (some (12, true)), .lensl (.t 13)⟩,
    ⟨some 15, (some (12, true)), .bin .eql (.t 14) (.c (.int .i64 0))⟩,
    ⟨some 16, none, .pick (.t 12) (.t 15) (.c (.bool false))⟩,
    ⟨some 6, none, .mov (.t 16)⟩] [6])
  .ret)
  .skip))
  (.seq (.region [⟨some 17, none, .mov (.t 0)⟩,
    ⟨some 18, none, .mov (.t 1)⟩,
    ⟨some 19, none, .mkfn (.func 103) [] [(.t 5)]⟩,
    ⟨some 20, none, .call false 102 [(.t 17), (.t 18), (.t 19)]⟩,
    ⟨some 6, none, .mov (.t 20)⟩] [6])
  .ret)))⟩

/-- (troth/prog.Test).Text$1 -/
def i81 : AFunc := ⟨3, 11, [],
  (.region [⟨some 5, none, .mov (.t 0)⟩,
    ⟨some 6, none, .call false 83 [(.c (.str [32, 32])), (.t 5)]⟩,
    ⟨some 7, none, .mov (.t 1)⟩,
    ⟨some 8, none, .bin .add (.t 6) (.t 7)⟩,
    ⟨some 9, none, .bin .add (.t 8) (.c (.str [10]))⟩,
    ⟨some 10, none, .call true 82 [(.t 2), (.t 9)]⟩] [])⟩

/-- (*strings.Builder).WriteString -/
def i82 : AFunc := ⟨2, 19, [.tmp 4, .tmp 5],
  (.seq (.region [⟨some 4, none, .mov (.c (.int .i64 0))⟩,
    ⟨some 5, none, .mov (.c .nili)⟩] [0, 1])
  (.seq (.region [⟨some 6, none, .mov (.t 0)⟩,
    ⟨some 7, none, .call true 104 [(.t 6)]⟩] [0, 1])
  (.seq (.region [⟨some 8, none, .mov (.t 0)⟩,
    ⟨some 9, none, .mov (.t 0)⟩,
    ⟨some 10, none, .nilchk (.t 9)⟩,
    ⟨some 11, none, .faddr 1 (.t 10)⟩,
    ⟨some 12, none, .load none (.t 11)⟩,
    ⟨some 13, none, .mov (.t 1)⟩,
    ⟨some 14, none, .app 5 1 1 (.t 12) (.t 13)⟩,
    ⟨some 15, none, .nilchk (.t 8)⟩,
    ⟨some 16, none, .faddr 1 (.t 15)⟩,
    ⟨none, none, .store 1 (.t 16) (.t 14)⟩] [1])
  (.seq (.region [⟨some 17, none, .mov (.t 1)⟩,
    ⟨some 18, none, .lenstr (.t 17)⟩,
    ⟨some 4, none, .mov (.t 18)⟩,
    ⟨some 5, none, .mov (.c .nili)⟩] [4, 5])
  .ret))))⟩

def i83_L0 : ACode :=
  (.seq (.seq (.region [⟨some 111, none, .call true 108 [(.t 9)]⟩,
    ⟨some 112, none, .mov (.t 7)⟩,
    ⟨some 113, none, .bin .lss (.t 111) (.t 112)⟩] [7, 8, 9, 113])
  (.cond (.t 113) .skip
  (.exit 3)))
  (.block 4 (.seq (.region [⟨some 114, none, .mov (.t 7)⟩,
    ⟨some 115, none, .call true 108 [(.t 9)]⟩,
    ⟨some 116, none, .bin .sub (.t 114) (.t 115)⟩,
    ⟨some 117, none, .call true 108 [(.t 9)]⟩,
    ⟨some 118, none, .mov (.t 8)⟩,
    ⟨some 119, none, .min [(.t 116), (.t 117), (.t 118)]⟩,
    ⟨some 10, none, .mov (.t 119)⟩] [7, 8, 9, 10])
  (.region [⟨some 120, none, .call true 86 [(.t 9)]⟩,
    ⟨some 121, none, .mov (.t 10)⟩,
    ⟨some 122, none, .slstr (.t 120) none (some (.t 121))⟩,
    ⟨some 123, none, .call true 82 [(.t 9), (.t 122)]⟩] [7, 8, 9]))))

/-- strings.Repeat -/
def i83 : AFunc := ⟨2, 125, [.tmp 4],
  (.seq (.region [⟨some 4, none, .mov (.c (.str []))⟩] [0, 1])
  (.seq (.seq (.region [⟨some 11, none, .mov (.t 1)⟩] [0, 1, 11])
  (.block 0 (.seq (.region [⟨some 13, none, .bin .eql (.t 11) (.c (.int .i64 0))⟩,
    ⟨some 12, none, .mov (.t 13)⟩] [0, 1, 11, 12])
  (.cond (.t 12) (.seq (.region [⟨some 4, none, .mov (.c (.str []))⟩] [4])
  .ret)
  (.seq (.region [⟨some 15, none, .bin .eql (.t 11) (.c (.int .i64 1))⟩,
    ⟨some 14, none, .mov (.t 15)⟩] [0, 1, 14])
  (.cond (.t 14) (.seq (.region [⟨some 16, none, .mov (.t 0)⟩,
    ⟨some 4, none, .mov (.t 16)⟩] [4])
  .ret)
  .skip))))))
  (.seq (.seq (.region [⟨some 17, none, .mov (.t 1)⟩,
    ⟨some 18, none, .bin .lss (.t 17) (.c (.int .i64 0))⟩] [0, 1, 18])
  (.cond (.t 18) (.region [⟨some 19, none, .mkif 9 (.c (.str [115, 116, 114, 105, 110, 103, 115, 58, 32, 110, 101, 103, 97, 116, 105, 118, 101, 32, 82, 101, 112, 101, 97, 116, 32, 99, 111, 117, 110, 116]))⟩,
    ⟨none, none, .panic (.t 19)⟩] [0, 1])
  .skip))
  (.seq (.region [⟨some 21, none, .mov (.t 0)⟩,
    ⟨some 22, none, .lenstr (.t 21)⟩,
    ⟨some 23, none, .cvi .u64 (.t 22)⟩,
    ⟨some 24, none, .mov (.t 1)⟩,
    ⟨some 25, none, .cvi .u64 (.t 24)⟩,
    ⟨some 26, none, .call false 105 [(.t 23), (.t 25)]⟩,
    ⟨some 20, none, .mov (.t 26)⟩,
    ⟨some 27, none, .ext (.t 20) 0⟩,
    ⟨some 28, none, .ext (.t 20) 1⟩,
    ⟨some 5, none, .mov (.t 27)⟩,
    ⟨some 6, none, .mov (.t 28)⟩] [0, 5, 6])
  (.seq (.seq (.region [⟨some 29, none, .mov (.t 5)⟩,
    ⟨some 30, none, .bin .gtr (.t 29) (.c (.int .u64 0))⟩,
    ⟨some 31, none, .mov (.t 30)⟩,
    ⟨some 32, (some (31, false)), .mov (.t 6)⟩,
    ⟨some 33, (some (31, false)), .bin .gtr (.t 32) (.c (.int .u64 9223372036854775807))⟩,
    ⟨some 34, none, .pick (.t 31) (.c (.bool true)) (.t 33)⟩] [0, 6, 34])
  (.cond (.t 34) (.region [⟨some 35, none, .mkif 9 (.c (.str [115, 116, 114, 105, 110, 103, 115, 58, 32, 82, 101, 112, 101, 97, 116, 32, 111, 117, 116, 112, 117, 116, 32, 108, 101, 110, 103, 116, 104, 32, 111, 118, 101, 114, 102, 108, 111, 119]))⟩,
    ⟨none, none, .panic (.t 35)⟩] [0, 6])
  .skip))
  (.seq (.region [⟨some 36, none, .mov (.t 6)⟩,
    ⟨some 37, none, .cvi .i64 (.t 36)⟩,
    ⟨some 7, none, .mov (.t 37)⟩] [0, 7])
  (.seq (.seq (.region [⟨some 38, none, .mov (.t 0)⟩,
    ⟨some 39, none, .lenstr (.t 38)⟩,
    ⟨some 40, none, .bin .eql (.t 39) (.c (.int .i64 0))⟩] [0, 7, 40])
  (.cond (.t 40) (.seq (.region [⟨some 4, none, .mov (.c (.str []))⟩] [4])
  .ret)
  .skip))
  (.seq (.seq (.region [⟨some 41, none, .mov (.t 0)⟩,
    ⟨some 42, none, .idxstr (.t 41) (.c (.int .i64 0))⟩] [0, 7, 42])
  (.block 1 (.seq (.seq (.region [⟨some 44, none, .bin .eql (.t 42) (.c (.int .u8 32))⟩,
    ⟨some 43, none, .mov (.t 44)⟩] [0, 7, 42, 43])
  (.cond (.t 43) .skip
  (.seq (.region [⟨some 45, none, .bin .eql (.t 42) (.c (.int .u8 45))⟩,
    ⟨some 43, none, .mov (.t 45)⟩] [0, 7, 42, 43])
  (.cond (.t 43) .skip
  (.seq (.region [⟨some 46, none, .bin .eql (.t 42) (.c (.int .u8 48))⟩,
    ⟨some 43, none, .mov (.t 46)⟩] [0, 7, 42, 43])
  (.cond (.t 43) .skip
  (.seq (.region [⟨some 47, none, .bin .eql (.t 42) (.c (.int .u8 61))⟩,
    ⟨some 43, none, .mov (.t 47)⟩] [0, 7, 42, 43])
  (.cond (.t 43) .skip
  (.region [⟨some 48, none, .bin .eql (.t 42) (.c (.int .u8 9))⟩,
    ⟨some 43, none, .mov (.t 48)⟩] [0, 7, 43])))))))))
  (.cond (.t 43) (.block 2 (.seq (.region [⟨some 50, none, .mov (.t 7)⟩,
    ⟨some 51, none, .bin .leq (.t 50) (.c (.int .i64 128))⟩,
    ⟨some 52, none, .mov (.t 51)⟩,
    ⟨some 53, (some (52, true)), .mov (.t 0)⟩,
    ⟨some 54, (some (52, true)), .call false 106 [(.c (.str [32, 32, 32, 32, 32, 32, 32, 32, 32, 32, 32, 32, 32, 32, 32, 32, 32, 32, 32, 32, 32, 32, 32, 32, 32, 32, 32, 32, 32, 32, 32, 32, 32, 32, 32, 32, 32, 32, 32, 32, 32, 32, 32, 32, 32, 32, 32, 32, 32, 32, 32, 32, 32, 32, 32, 32, 32, 32, 32, 32, 32, 32, 32, 32, 32, 32, 32, 32, 32, 32, 32, 32, 32, 32, 32, 32, 32, 32, 32, 32, 32, 32, 32, 32, 32, 32, 32, 32, 32, 32, 32, 32, 32, 32, 32, 32, 32, 32, 32, 32, 32, 32, 32, 32, 32, 32, 32, 32, 32, 32, 32, 32, 32, 32, 32, 32, 32, 32, 32, 32, 32, 32, 32, 32, 32, 32, 32, 32])), (.t 53)]⟩,
    ⟨some 55, none, .pick (.t 52) (.t 54) (.c (.bool false))⟩,
    ⟨some 49, none, .mov (.t 55)⟩] [0, 7, 49])
  (.cond (.t 49) (.seq (.region [⟨some 56, none, .mov (.t 7)⟩,
    ⟨some 57, none, .slstr (.c (.str [32, 32, 32, 32, 32, 32, 32, 32, 32, 32, 32, 32, 32, 32, 32, 32, 32, 32, 32, 32, 32, 32, 32, 32, 32, 32, 32, 32, 32, 32, 32, 32, 32, 32, 32, 32, 32, 32, 32, 32, 32, 32, 32, 32, 32, 32, 32, 32, 32, 32, 32, 32, 32, 32, 32, 32, 32, 32, 32, 32, 32, 32, 32, 32, 32, 32, 32, 32, 32, 32, 32, 32, 32, 32, 32, 32, 32, 32, 32, 32, 32, 32, 32, 32, 32, 32, 32, 32, 32, 32, 32, 32, 32, 32, 32, 32, 32, 32, 32, 32, 32, 32, 32, 32, 32, 32, 32, 32, 32, 32, 32, 32, 32, 32, 32, 32, 32, 32, 32, 32, 32, 32, 32, 32, 32, 32, 32, 32])) none (some (.t 56))⟩,
    ⟨some 4, none, .mov (.t 57)⟩] [4])
  .ret)
  (.seq (.region [⟨some 59, none, .mov (.t 7)⟩,
    ⟨some 60, none, .bin .leq (.t 59) (.c (.int .i64 128))⟩,
    ⟨some 61, none, .mov (.t 60)⟩,
    ⟨some 62, (some (61, true)), .mov (.t 0)⟩,
    ⟨some 63, (some (61, true)), .call false 106 [(.c (.str [45, 45, 45, 45, 45, 45, 45, 45, 45, 45, 45, 45, 45, 45, 45, 45, 45, 45, 45, 45, 45, 45, 45, 45, 45, 45, 45, 45, 45, 45, 45, 45, 45, 45, 45, 45, 45, 45, 45, 45, 45, 45, 45, 45, 45, 45, 45, 45, 45, 45, 45, 45, 45, 45, 45, 45, 45, 45, 45, 45, 45, 45, 45, 45, 45, 45, 45, 45, 45, 45, 45, 45, 45, 45, 45, 45, 45, 45, 45, 45, 45, 45, 45, 45, 45, 45, 45, 45, 45, 45, 45, 45, 45, 45, 45, 45, 45, 45, 45, 45, 45, 45, 45, 45, 45, 45, 45, 45, 45, 45, 45, 45, 45, 45, 45, 45, 45, 45, 45, 45, 45, 45, 45, 45, 45, 45, 45, 45])), (.t 62)]⟩,
    ⟨some 64, none, .pick (.t 61) (.t 63) (.c (.bool false))⟩,
    ⟨some 58, none, .mov (.t 64)⟩] [0, 7, 58])
  (.cond (.t 58) (.seq (.region [⟨some 65, none, .mov (.t 7)⟩,
    ⟨some 66, none, .slstr (.c (.str [45, 45, 45, 45, 45, 45, 45, 45, 45, 45, 45, 45, 45, 45, 45, 45, 45, 45, 45, 45, 45, 45, 45, 45, 45, 45, 45, 45, 45, 45, 45, 45, 45, 45, 45, 45, 45, 45, 45, 45, 45, 45, 45, 45, 45, 45, 45, 45, 45, 45, 45, 45, 45, 45, 45, 45, 45, 45, 45, 45, 45, 45, 45, 45, 45, 45, 45, 45, 45, 45, 45, 45, 45, 45, 45, 45, 45, 45, 45, 45, 45, 45, 45, 45, 45, 45, 45, 45, 45, 45, 45, 45, 45, 45, 45, 45, 45, 45, 45, 45, 45, 45, 45, 45, 45, 45, 45, 45, 45, 45, 45, 45, 45, 45, 45, 45, 45, 45, 45, 45, 45, 45, 45, 45, 45, 45, 45, 45])) none (some (.t 65))⟩,
    ⟨some 4, none, .mov (.t 66)⟩] [4])
  .ret)
  (.seq (.region [⟨some 68, none, .mov (.t 7)⟩,
    ⟨some 69, none, .bin .leq (.t 68) (.c (.int .i64 64))⟩,
    ⟨some 70, none, .mov (.t 69)⟩,
    ⟨some 71, (some (70, true)), .mov (.t 0)⟩,
    ⟨some 72, (some (70, true)), .call false 106 [(.c (.str [48, 48, 48, 48, 48, 48, 48, 48, 48, 48, 48, 48, 48, 48, 48, 48, 48, 48, 48, 48, 48, 48, 48, 48, 48, 48, 48, 48, 48, 48, 48, 48, 48, 48, 48, 48, 48, 48, 48, 48, 48, 48, 48, 48, 48, 48, 48, 48, 48, 48, 48, 48, 48, 48, 48, 48, 48, 48, 48, 48, 48, 48, 48, 48])), (.t 71)]⟩,
    ⟨some 73, none, .pick (.t 70) (.t 72) (.c (.bool false))⟩,
    ⟨some 67, none, .mov (.t 73)⟩] [0, 7, 67])
  (.cond (.t 67) (.seq (.region [⟨some 74, none, .mov (.t 7)⟩,
    ⟨some 75, none, .slstr (.c (.str [48, 48, 48, 48, 48, 48, 48, 48, 48, 48, 48, 48, 48, 48, 48, 48, 48, 48, 48, 48, 48, 48, 48, 48, 48, 48, 48, 48, 48, 48, 48, 48, 48, 48, 48, 48, 48, 48, 48, 48, 48, 48, 48, 48, 48, 48, 48, 48, 48, 48, 48, 48, 48, 48, 48, 48, 48, 48, 48, 48, 48, 48, 48, 48])) none (some (.t 74))⟩,
    ⟨some 4, none, .mov (.t 75)⟩] [4])
  .ret)
  (.seq (.region [⟨some 77, none, .mov (.t 7)⟩,
    ⟨some 78, none, .bin .leq (.t 77) (.c (.int .i64 128))⟩,
    ⟨some 79, none, .mov (.t 78)⟩,
    ⟨some 80, (some (79, true)), .mov (.t 0)⟩,
    ⟨some 81, (some (79, true)), .call false 106 [(.c (.str [61, 61, 61, 61, 61, 61, 61, 61, 61, 61, 61, 61, 61, 61, 61, 61, 61, 61, 61, 61, 61, 61, 61, 61, 61, 61, 61, 61, 61, 61, 61, 61, 61, 61, 61, 61, 61, 61, 61, 61, 61, 61, 61, 61, 61, 61, 61, 61, 61, 61, 61, 61, 61, 61, 61, 61, 61, 61, 61, 61, 61, 61, 61, 61, 61, 61, 61, 61, 61, 61, 61, 61, 61, 61, 61, 61, 61, 61, 61, 61, 61, 61, 61, 61, 61, 61, 61, 61, 61, 61, 61, 61, 61, 61, 61, 61, 61, 61, 61, 61, 61, 61, 61, 61, 61, 61, 61, 61, 61, 61, 61, 61, 61, 61, 61, 61, 61, 61, 61, 61, 61, 61, 61, 61, 61, 61, 61, 61])), (.t 80)]⟩,
    ⟨some 82, none, .pick (.t 79) (.t 81) (.c (.bool false))⟩,
    ⟨some 76, none, .mov (.t 82)⟩] [0, 7, 76])
  (.cond (.t 76) (.seq (.region [⟨some 83, none, .mov (.t 7)⟩,
    ⟨some 84, none, .slstr (.c (.str [61, 61, 61, 61, 61, 61, 61, 61, 61, 61, 61, 61, 61, 61, 61, 61, 61, 61, 61, 61, 61, 61, 61, 61, 61, 61, 61, 61, 61, 61, 61, 61, 61, 61, 61, 61, 61, 61, 61, 61, 61, 61, 61, 61, 61, 61, 61, 61, 61, 61, 61, 61, 61, 61, 61, 61, 61, 61, 61, 61, 61, 61, 61, 61, 61, 61, 61, 61, 61, 61, 61, 61, 61, 61, 61, 61, 61, 61, 61, 61, 61, 61, 61, 61, 61, 61, 61, 61, 61, 61, 61, 61, 61, 61, 61, 61, 61, 61, 61, 61, 61, 61, 61, 61, 61, 61, 61, 61, 61, 61, 61, 61, 61, 61, 61, 61, 61, 61, 61, 61, 61, 61, 61, 61, 61, 61, 61, 61])) none (some (.t 83))⟩,
    ⟨some 4, none, .mov (.t 84)⟩] [4])
  .ret)
  (.seq (.region [⟨some 86, none, .mov (.t 7)⟩,
    ⟨some 87, none, .bin .leq (.t 86) (.c (.int .i64 64))⟩,
    ⟨some 88, none, .mov (.t 87)⟩,
    ⟨some 89, (some (88, true)), .mov (.t 0)⟩,
    ⟨some 90, (some (88, true)), .call false 106 [(.c (.str [9, 9, 9, 9, 9, 9, 9, 9, 9, 9, 9, 9, 9, 9, 9, 9, 9, 9, 9, 9, 9, 9, 9, 9, 9, 9, 9, 9, 9, 9, 9, 9, 9, 9, 9, 9, 9, 9, 9, 9, 9, 9, 9, 9, 9, 9, 9, 9, 9, 9, 9, 9, 9, 9, 9, 9, 9, 9, 9, 9, 9, 9, 9, 9])), (.t 89)]⟩,
    ⟨some 91, none, .pick (.t 88) (.t 90) (.c (.bool false))⟩,
    ⟨some 85, none, .mov (.t 91)⟩] [0, 7, 85])
  (.cond (.t 85) (.seq (.region [⟨some 92, none, .mov (.t 7)⟩,
    ⟨some 93, none, .slstr (.c (.str [9, 9, 9, 9, 9, 9, 9, 9, 9, 9, 9, 9, 9, 9, 9, 9, 9, 9, 9, 9, 9, 9, 9, 9, 9, 9, 9, 9, 9, 9, 9, 9, 9, 9, 9, 9, 9, 9, 9, 9, 9, 9, 9, 9, 9, 9, 9, 9, 9, 9, 9, 9, 9, 9, 9, 9, 9, 9, 9, 9, 9, 9, 9, 9])) none (some (.t 92))⟩,
    ⟨some 4, none, .mov (.t 93)⟩] [4])
  .ret)
  .skip)))))))))))
  .skip))))
  (.seq (.region [⟨some 94, none, .mov (.t 7)⟩,
    ⟨some 8, none, .mov (.t 94)⟩] [0, 7, 8])
  (.seq (.seq (.region [⟨some 95, none, .mov (.t 7)⟩,
    ⟨some 96, none, .bin .gtr (.t 95) (.c (.int .i64 8192))⟩] [0, 7, 8, 96])
  (.cond (.t 96) (.seq (.region [⟨some 97, none, .mov (.t 0)⟩,
    ⟨some 98, none, .lenstr (.t 97)⟩,
    ⟨some 99, none, .bin .quo (.c (.int .i64 8192)) (.t 98)⟩,
    ⟨some 100, none, .mov (.t 0)⟩,
    ⟨some 101, none, .lenstr (.t 100)⟩,
    ⟨some 102, none, .bin .mul (.t 99) (.t 101)⟩,
    ⟨some 8, none, .mov (.t 102)⟩] [0, 7, 8])
  (.seq (.region [⟨some 103, none, .mov (.t 8)⟩,
    ⟨some 104, none, .bin .eql (.t 103) (.c (.int .i64 0))⟩] [0, 7, 8, 104])
  (.cond (.t 104) (.region [⟨some 105, none, .mov (.t 0)⟩,
    ⟨some 106, none, .lenstr (.t 105)⟩,
    ⟨some 8, none, .mov (.t 106)⟩] [0, 7, 8])
  .skip)))
  .skip))
  (.seq (.region [⟨some 9, none, .alloc [.nilp, (.sl 1 [] .exact)] 128⟩] [0, 7, 8, 9])
  (.seq (.region [⟨some 107, none, .mov (.t 7)⟩,
    ⟨some 108, none, .call true 107 [(.t 9), (.t 107)]⟩] [0, 7, 8, 9])
  (.seq (.region [⟨some 109, none, .mov (.t 0)⟩,
    ⟨some 110, none, .call true 82 [(.t 9), (.t 109)]⟩] [7, 8, 9])
  (.seq (.block 3 (.loop [7, 8, 9] i83_L0))
  (.seq (.region [⟨some 124, none, .call true 86 [(.t 9)]⟩,
    ⟨some 4, none, .mov (.t 124)⟩] [4])
  .ret)))))))))))))))⟩

/-- strconv.FormatUint -/
def i84 : AFunc := ⟨2, 8, [.tmp 4],
  (.seq (.region [⟨some 4, none, .mov (.c (.str []))⟩] [0, 1])
  (.seq (.region [⟨some 5, none, .mov (.t 0)⟩,
    ⟨some 6, none, .mov (.t 1)⟩,
    ⟨some 7, none, .call false 109 [(.t 5), (.t 6)]⟩,
    ⟨some 4, none, .mov (.t 7)⟩] [4])
  .ret))⟩

def i85_L0 : ACode :=
  (.seq (.region [⟨some 15, none, .bin .lss (.t 14) (.t 13)⟩] [0, 2, 12, 13, 14, 15])
  (.seq (.cond (.t 15) .skip
  (.exit 0))
  (.seq (.block 1 (.seq (.region [⟨some 16, none, .idxas 8 (.t 12) (.t 14)⟩,
    ⟨some 17, none, .load (some 8) (.t 16)⟩,
    ⟨some 7, none, .alloc [(.int .u8 0), (.int .u8 0), (.int .u8 0), (.int .u8 0), .nilp, .nilp, (.sl 8 [] .exact), (.sl 8 [] .exact)] 72⟩,
    ⟨none, none, .store 8 (.t 7) (.t 17)⟩] [0, 2, 7, 12, 13, 14])
  (.seq (.region [⟨some 18, none, .faddr 0 (.t 7)⟩,
    ⟨some 19, none, .load none (.t 18)⟩] [0, 2, 7, 12, 13, 14, 19])
  (.block 2 (.seq (.seq (.region [⟨some 30, none, .bin .eql (.t 19) (.c (.int .u8 8))⟩,
    ⟨some 29, none, .mov (.t 30)⟩] [0, 2, 7, 12, 13, 14, 19, 29])
  (.cond (.t 29) .skip
  (.region [⟨some 31, none, .bin .eql (.t 19) (.c (.int .u8 9))⟩,
    ⟨some 29, none, .mov (.t 31)⟩] [0, 2, 7, 12, 13, 14, 29])))
  (.cond (.t 29) (.seq (.region [⟨some 8, none, .mov (.c (.str [105, 102, 32, 40]))⟩] [0, 2, 7, 8, 12, 13, 14])
  (.seq (.seq (.region [⟨some 32, none, .faddr 0 (.t 7)⟩,
    ⟨some 33, none, .load none (.t 32)⟩,
    ⟨some 34, none, .bin .eql (.t 33) (.c (.int .u8 9))⟩] [0, 2, 7, 8, 12, 13, 14, 34])
  (.cond (.t 34) (.region [⟨some 8, none, .mov (.c (.str [119, 104, 105, 108, 101, 32, 40]))⟩] [0, 2, 7, 8, 12, 13, 14])
  .skip))
  (.seq (.region [⟨some 35, none, .mov (.t 0)⟩,
    ⟨some 36, none, .mov (.t 2)⟩,
    ⟨some 37, none, .mov (.t 8)⟩,
    ⟨some 38, none, .faddr 4 (.t 7)⟩,
    ⟨some 39, none, .load none (.t 38)⟩,
    ⟨some 40, none, .call false 15 [(.t 39)]⟩,
    ⟨some 41, none, .bin .add (.t 37) (.t 40)⟩,
    ⟨some 42, none, .bin .add (.t 41) (.c (.str [41, 32, 123]))⟩,
    ⟨some 43, none, .callv true (.t 35) [(.t 36), (.t 42)]⟩] [0, 2, 7, 12, 13, 14])
  (.seq (.region [⟨some 44, none, .mov (.t 0)⟩,
    ⟨some 45, none, .faddr 6 (.t 7)⟩,
    ⟨some 46, none, .load none (.t 45)⟩,
    ⟨some 47, none, .mov (.t 2)⟩,
    ⟨some 48, none, .bin .add (.t 47) (.c (.int .i64 1))⟩,
    ⟨some 49, none, .call true 85 [(.t 44), (.t 46), (.t 48)]⟩] [0, 2, 7, 12, 13, 14])
  (.seq (.seq (.region [⟨some 50, none, .faddr 0 (.t 7)⟩,
    ⟨some 51, none, .load none (.t 50)⟩,
    ⟨some 52, none, .bin .eql (.t 51) (.c (.int .u8 8))⟩,
    ⟨some 53, none, .mov (.t 52)⟩,
    ⟨some 54, (some (53, true)), .faddr 7 (.t 7)⟩,
    ⟨some 55, (some (53, true)), .load none (.t 54)⟩,
    ⟨some 56, (some (53, true)), .lensl (.t 55)⟩,
    ⟨some 57, (some (53, true)), .bin .gtr (.t 56) (.c (.int .i64 0))⟩,
    ⟨some 58, none, .pick (.t 53) (.t 57) (.c (.bool false))⟩] [0, 2, 7, 12, 13, 14, 58])
  (.cond (.t 58) (.seq (.region [⟨some 59, none, .mov (.t 0)⟩,
    ⟨some 60, none, .mov (.t 2)⟩,
    ⟨some 61, none, .callv true (.t 59) [(.t 60), (.c (.str [125, 32, 101, 108, 115, 101, 32, 123]))]⟩] [0, 2, 7, 12, 13, 14])
  (.region [⟨some 62, none, .mov (.t 0)⟩,
    ⟨some 63, none, .faddr 7 (.t 7)⟩,
    ⟨some 64, none, .load none (.t 63)⟩,
    ⟨some 65, none, .mov (.t 2)⟩,
    ⟨some 66, none, .bin .add (.t 65) (.c (.int .i64 1))⟩,
    ⟨some 67, none, .call true 85 [(.t 62), (.t 64), (.t 66)]⟩] [0, 2, 12, 13, 14]))
  .skip))
  (.region [⟨some 68, none, .mov (.t 0)⟩,
    ⟨some 69, none, .mov (.t 2)⟩,
    ⟨some 70, none, .callv true (.t 68) [(.t 69), (.c (.str [125]))]⟩] [0, 2, 12, 13, 14]))))))
  (.seq (.region [⟨some 20, none, .load (some 8) (.t 7)⟩,
    ⟨some 21, none, .call false 110 [(.t 20)]⟩,
    ⟨some 9, none, .mov (.t 21)⟩] [0, 2, 9, 12, 13, 14])
  (.seq (.region [⟨some 22, none, .mov (.t 9)⟩,
    ⟨some 23, none, .bin .neq (.t 22) (.c (.str []))⟩] [0, 2, 9, 12, 13, 14, 23])
  (.cond (.t 23) (.region [⟨some 24, none, .mov (.t 0)⟩,
    ⟨some 25, none, .mov (.t 2)⟩,
    ⟨some 26, none, .mov (.t 9)⟩,
    ⟨some 27, none, .bin .add (.t 26) (.c (.str [59]))⟩,
    ⟨some 28, none, .callv true (.t 24) [(.t 25), (.t 27)]⟩] [0, 2, 12, 13, 14])
  .skip)))))))))
  (.region [⟨some 71, none, .bin .add (.t 14) (.c (.int .i64 1))⟩,
    ⟨some 14, none, .mov (.t 71)⟩] [0, 2, 12, 13, 14]))))

/-- troth/prog.block -/
def i85 : AFunc := ⟨3, 72, [],
  (.seq (.seq (.region [⟨some 10, none, .mov (.t 2)⟩,
    ⟨some 11, none, .bin .gtr (.t 10) (.c (.int .i64 8))⟩] [0, 1, 2, 11])
  (.cond (.t 11) .ret
  .skip))
  (.seq (.region [⟨some 12, none, .mov (.t 1)⟩,
    ⟨some 13, none, .lensl (.t 12)⟩,
    ⟨some 14, none, .mov (.c (.int .i64 0))⟩] [0, 2, 12, 13, 14])
  (.block 0 (.loop [0, 2, 12, 13, 14] i85_L0))))⟩

/-- strconv.Itoa -/
def i87 : AFunc := ⟨1, 5, [.tmp 2],
  (.seq (.region [⟨some 2, none, .mov (.c (.str []))⟩] [0])
  (.seq (.region [⟨some 3, none, .mov (.t 0)⟩,
    ⟨some 4, none, .call false 111 [(.t 3)]⟩,
    ⟨some 2, none, .mov (.t 4)⟩] [2])
  .ret))⟩

/-- troth/num.Text -/
def i88 : AFunc := ⟨1, 9, [.tmp 2],
  (.seq (.region [⟨some 2, none, .mov (.c (.str []))⟩] [0])
  (.seq (.seq (.region [⟨some 3, none, .mov (.t 0)⟩,
    ⟨some 4, none, .cvi .i64 (.t 3)⟩,
    ⟨some 5, none, .bin .geq (.t 4) (.c (.int .i64 15))⟩] [0, 5])
  (.cond (.t 5) (.seq (.region [⟨some 2, none, .mov (.c (.str []))⟩] [2])
  .ret)
  .skip))
  (.seq (.region [⟨some 6, none, .mov (.t 0)⟩,
    ⟨some 7, none, .idxaa 15 1 (.g 1) (.t 6)⟩,
    ⟨some 8, none, .load none (.t 7)⟩,
    ⟨some 2, none, .mov (.t 8)⟩] [2])
  .ret)))⟩


end Go.Pm
end
