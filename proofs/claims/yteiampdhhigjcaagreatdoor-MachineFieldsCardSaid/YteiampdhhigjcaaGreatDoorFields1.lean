/- Packed: Tb Ta Tf Te Tc Td Lf -/
import Derived.Test.YteiampdhhigjcaaGreatDoorChk5
import Derived.Test.YteiampdhhigjcaaGreatDoorProg
set_option linter.all false
/- The program's functions as trees of our logic (group b). -/
namespace Go.Proofs.YteiampdhhigjcaaGreatDoorV
open Go
set_option maxRecDepth 100000
end Go.Proofs.YteiampdhhigjcaaGreatDoorV

/- The program's functions as trees of our logic (group a). -/
namespace Go.Proofs.YteiampdhhigjcaaGreatDoorV
open Go
set_option maxRecDepth 100000
end Go.Proofs.YteiampdhhigjcaaGreatDoorV

/- The program's functions as trees of our logic (group f). -/
namespace Go.Proofs.YteiampdhhigjcaaGreatDoorV
open Go
set_option maxRecDepth 100000
/- "retarget/retargetlaw08.MachineFields" -/
def c_retargetlaw08_MachineFields : C :=
.seq (.reg [⟨some 4, none, .box 7 (.t 0)⟩, ⟨some 5, none, .box 2 (.t 1)⟩, ⟨some 8, none, .mov (.c (.pv (.bool false)))⟩]) (.seq (.reg [⟨some 22, none, .callf 37 []⟩, ⟨some 9, none, .mov (.t 22)⟩]) (.seq (.seq (.reg [⟨some 23, none, .load (some 7) (.t 4)⟩, ⟨some 24, none, .callf 11 [(.t 23)]⟩, ⟨some 25, none, .mov (.t 24)⟩, ⟨some 26, some (25, false), .fad 1 (.t 5)⟩, ⟨some 27, some (25, false), .load none (.t 26)⟩, ⟨some 28, some (25, false), .len (.t 27)⟩, ⟨some 29, some (25, false), .bin .gtr (.t 28) (.c (.pv (.int .i64 20)))⟩, ⟨some 30, none, .lor (.t 25) (.t 29)⟩, ⟨some 31, none, .mov (.t 30)⟩, ⟨some 32, some (31, false), .mov (.t 9)⟩, ⟨some 33, some (31, false), .un .not (.t 32)⟩, ⟨some 34, none, .lor (.t 31) (.t 33)⟩]) (.cond (.t 34) (.seq (.reg [⟨some 35, none, .mov (.t 9)⟩, ⟨some 8, none, .mov (.t 35)⟩]) (.ret)) (.skip))) (.seq (.reg [⟨some 37, none, .load (some 7) (.t 4)⟩, ⟨some 38, none, .load (some 2) (.t 5)⟩, ⟨some 39, none, .mov (.t 2)⟩, ⟨some 40, none, .callf 34 [(.t 37), (.t 38), (.t 39)]⟩, ⟨some 36, none, .mov (.t 40)⟩, ⟨some 41, none, .ext (.t 36) 0⟩, ⟨some 42, none, .ext (.t 36) 1⟩, ⟨some 10, none, .mov (.t 41)⟩, ⟨some 11, none, .mov (.t 42)⟩]) (.seq (.seq (.reg [⟨some 43, none, .mov (.t 11)⟩, ⟨some 44, none, .bin .neq (.t 43) (.c (.pv (.int .i64 0)))⟩]) (.cond (.t 44) (.seq (.reg [⟨some 45, none, .mov (.t 9)⟩, ⟨some 46, none, .mov (.t 45)⟩, ⟨some 47, some (46, true), .mov (.t 10)⟩, ⟨some 48, some (46, true), .len (.t 47)⟩, ⟨some 49, some (46, true), .bin .eql (.t 48) (.c (.pv (.int .i64 0)))⟩, ⟨some 50, none, .land (.t 46) (.t 49)⟩, ⟨some 8, none, .mov (.t 50)⟩]) (.ret)) (.skip))) (.seq (.seq (.reg [⟨some 51, none, .fad 0 (.t 5)⟩, ⟨some 52, none, .load none (.t 51)⟩, ⟨some 53, none, .bin .lss (.t 52) (.c (.pv (.int .i64 0)))⟩, ⟨some 54, none, .mov (.t 53)⟩, ⟨some 55, some (54, false), .fad 0 (.t 5)⟩, ⟨some 56, some (54, false), .load none (.t 55)⟩, ⟨some 57, some (54, false), .fad 6 (.t 4)⟩, ⟨some 58, some (54, false), .load none (.t 57)⟩, ⟨some 59, some (54, false), .len (.t 58)⟩, ⟨some 60, some (54, false), .bin .geq (.t 56) (.t 59)⟩, ⟨some 61, none, .lor (.t 54) (.t 60)⟩, ⟨some 62, none, .mov (.t 61)⟩, ⟨some 63, some (62, false), .fad 2 (.t 4)⟩, ⟨some 64, some (62, false), .load none (.t 63)⟩, ⟨some 65, some (62, false), .bin .neq (.t 64) (.c (.pv (.int .i64 16)))⟩, ⟨some 66, some (62, false), .mov (.t 65)⟩, ⟨some 67, some (66, true), .fad 2 (.t 4)⟩, ⟨some 68, some (66, true), .load none (.t 67)⟩, ⟨some 69, some (66, true), .bin .neq (.t 68) (.c (.pv (.int .i64 32)))⟩, ⟨some 70, some (62, false), .land (.t 66) (.t 69)⟩, ⟨some 71, none, .lor (.t 62) (.t 70)⟩]) (.cond (.t 71) (.seq (.reg [⟨some 8, none, .mov (.c (.pv (.bool false)))⟩]) (.ret)) (.skip))) (.seq (.reg [⟨some 72, none, .fad 6 (.t 4)⟩, ⟨some 73, none, .load none (.t 72)⟩, ⟨some 74, none, .fad 0 (.t 5)⟩, ⟨some 75, none, .load none (.t 74)⟩, ⟨some 76, none, .iad 9 (.t 73) (.t 75)⟩, ⟨some 77, none, .load (some 9) (.t 76)⟩, ⟨some 12, none, .alloc [.pv (.str ⟨#[]⟩), .pv (.int .u64 0), .pv (.int .u64 0), .nilS 6, .nilS 21, .pv (.int .i64 0), .pv (.int .i64 0), .pv (.int .i64 0), .pv (.int .i64 0)]⟩, ⟨none, none, .store 9 (.t 12) (.t 77)⟩]) (.seq (.seq (.reg [⟨some 78, none, .fad 3 (.t 12)⟩, ⟨some 79, none, .load none (.t 78)⟩, ⟨some 80, none, .len (.t 79)⟩, ⟨some 81, none, .fad 1 (.t 5)⟩, ⟨some 82, none, .load none (.t 81)⟩, ⟨some 83, none, .len (.t 82)⟩, ⟨some 84, none, .bin .neq (.t 80) (.t 83)⟩]) (.cond (.t 84) (.seq (.reg [⟨some 8, none, .mov (.c (.pv (.bool false)))⟩]) (.ret)) (.skip))) (.seq (.reg [⟨some 13, none, .mov (.c (.pv (.int .i64 0)))⟩]) (.seq (.seq (.reg [⟨some 14, none, .mov (.c (.pv (.int .i64 0)))⟩]) (.blk 0 (.loop ⟨[2, 3, 4, 5, 9, 10, 12, 13, 14], [0, 1, 2], 3⟩ (.seq (.seq (.reg [⟨some 85, none, .mov (.t 14)⟩, ⟨some 86, none, .fad 3 (.t 12)⟩, ⟨some 87, none, .load none (.t 86)⟩, ⟨some 88, none, .len (.t 87)⟩, ⟨some 89, none, .bin .lss (.t 85) (.t 88)⟩]) (.cond (.t 89) (.skip) (.ext 0))) (.seq (.blk 1 (.seq (.reg [⟨some 92, none, .fad 3 (.t 12)⟩, ⟨some 93, none, .load none (.t 92)⟩, ⟨some 94, none, .mov (.t 14)⟩, ⟨some 95, none, .iad 6 (.t 93) (.t 94)⟩, ⟨some 96, none, .load (some 6) (.t 95)⟩, ⟨some 15, none, .alloc [.pv (.str ⟨#[]⟩), .pv (.int .u8 0), .pv (.int .i64 0), .pv (.int .i64 0), .nilS 2, .pv (.int .i64 0)]⟩, ⟨none, none, .store 6 (.t 15) (.t 96)⟩]) (.seq (.seq (.reg [⟨some 97, none, .fad 1 (.t 15)⟩, ⟨some 98, none, .load none (.t 97)⟩, ⟨some 99, none, .bin .eql (.t 98) (.c (.pv (.int .u8 1)))⟩]) (.cond (.t 99) (.ext 1) (.skip))) (.seq (.reg [⟨some 100, none, .fad 1 (.t 5)⟩, ⟨some 101, none, .load none (.t 100)⟩, ⟨some 102, none, .mov (.t 14)⟩, ⟨some 103, none, .iad 1 (.t 101) (.t 102)⟩, ⟨some 104, none, .load none (.t 103)⟩, ⟨some 16, none, .mov (.t 104)⟩]) (.seq (.seq (.reg [⟨some 105, none, .fad 1 (.t 15)⟩, ⟨some 106, none, .load none (.t 105)⟩, ⟨some 107, none, .bin .eql (.t 106) (.c (.pv (.int .u8 4)))⟩]) (.cond (.t 107) (.reg [⟨some 108, none, .mov (.t 2)⟩, ⟨some 109, none, .conv .i64 (.t 108)⟩, ⟨some 110, none, .fad 1 (.t 4)⟩, ⟨some 111, none, .load none (.t 110)⟩, ⟨some 112, none, .mov (.t 16)⟩, ⟨some 113, none, .bin .add (.t 112) (.c (.pv (.int .i64 1)))⟩, ⟨some 114, none, .bin .mul (.t 111) (.t 113)⟩, ⟨some 115, none, .bin .add (.t 109) (.t 114)⟩, ⟨some 16, none, .mov (.t 115)⟩]) (.skip))) (.seq (.seq (.dreg [⟨some 116, none, .mov (.t 13)⟩, ⟨some 117, none, .mov (.t 10)⟩, ⟨some 118, none, .len (.t 117)⟩, ⟨some 119, none, .bin .geq (.t 116) (.t 118)⟩, ⟨some 120, none, .mov (.t 119)⟩, ⟨some 121, some (120, false), .mov (.t 10)⟩, ⟨some 122, some (120, false), .mov (.t 13)⟩, ⟨some 123, some (120, false), .iad 3 (.t 121) (.t 122)⟩, ⟨some 124, some (120, false), .load (some 3) (.t 123)⟩, ⟨some 125, some (120, false), .fad 0 (.t 15)⟩, ⟨some 126, some (120, false), .load none (.t 125)⟩, ⟨some 127, some (120, false), .fad 2 (.t 4)⟩, ⟨some 128, some (120, false), .load none (.t 127)⟩, ⟨some 129, some (120, false), .mov (.t 16)⟩, ⟨some 130, some (120, false), .conv .u64 (.t 129)⟩, ⟨some 131, some (120, false), .fad 2 (.t 4)⟩, ⟨some 132, some (120, false), .load none (.t 131)⟩, ⟨some 133, some (120, false), .conv .u64 (.t 132)⟩, ⟨some 134, some (120, false), .bin .shl (.c (.pv (.int .u64 1))) (.t 133)⟩, ⟨some 135, some (120, false), .bin .sub (.t 134) (.c (.pv (.int .u64 1)))⟩, ⟨some 136, some (120, false), .bin .and (.t 130) (.t 135)⟩, ⟨some 137, some (120, false), .build [.pv (.str ⟨#[]⟩), .pv (.int .i64 0), .pv (.int .u64 0)] [((0, 1), (.t 126)), ((1, 1), (.t 128)), ((2, 1), (.t 136))]⟩, ⟨some 138, some (120, false), .ceq true [2, 1, 1] (.t 124) (.t 137)⟩, ⟨some 139, none, .lor (.t 120) (.t 138)⟩] [[], [], [1], [0, 1, 2], [0, 1, 2, 3], [0, 1, 2, 3, 4], [0, 1, 2, 3, 4], [0, 1, 2, 3, 4, 5, 6], [0, 1, 2, 3, 4, 5, 6, 7], [0, 1, 2, 3, 4], [0, 1, 2, 3, 4, 9], [0, 1, 2, 3, 4], [0, 1, 2, 3, 4, 11], [0, 1, 2, 3, 4], [0, 1, 2, 3, 4, 13], [0, 1, 2, 3, 4], [0, 1, 2, 3, 4, 15], [0, 1, 2, 3, 4, 15, 16], [0, 1, 2, 3, 4, 15, 16, 17], [0, 1, 2, 3, 4, 15, 16, 17, 18], [0, 1, 2, 3, 4, 13, 14, 15, 16, 17, 18, 19], [0, 1, 2, 3, 4, 9, 10, 11, 12, 13, 14, 15, 16, 17, 18, 19, 20], [0, 1, 2, 3, 4, 5, 6, 7, 8, 9, 10, 11, 12, 13, 14, 15, 16, 17, 18, 19, 20, 21], [0, 1, 2, 3, 4, 5, 6, 7, 8, 9, 10, 11, 12, 13, 14, 15, 16, 17, 18, 19, 20, 21, 22]]) (.cond (.t 139) (.seq (.reg [⟨some 8, none, .mov (.c (.pv (.bool false)))⟩]) (.ret)) (.skip))) (.seq (.reg [⟨some 140, none, .mov (.t 13)⟩, ⟨some 141, none, .bin .add (.t 140) (.c (.pv (.int .i64 1)))⟩, ⟨some 13, none, .mov (.t 141)⟩]) (.seq (.reg [⟨some 17, none, .mov (.c (.pv (.int .i64 1)))⟩]) (.seq (.seq (.reg [⟨some 18, none, .mov (.c (.pv (.int .i64 0)))⟩]) (.blk 2 (.loop ⟨[2, 3, 4, 5, 9, 10, 12, 13, 14, 15, 17, 18], [0, 1, 2, 3], 28⟩ (.seq (.seq (.reg [⟨some 142, none, .mov (.t 18)⟩, ⟨some 143, none, .fad 4 (.t 15)⟩, ⟨some 144, none, .load none (.t 143)⟩, ⟨some 145, none, .len (.t 144)⟩, ⟨some 146, none, .bin .lss (.t 142) (.t 145)⟩]) (.cond (.t 146) (.skip) (.ext 2))) (.seq (.blk 3 (.seq (.reg [⟨some 19, none, .mov (.c (.pv (.int .i64 0)))⟩]) (.blk 4 (.loop ⟨[2, 3, 4, 5, 9, 10, 12, 13, 14, 15, 17, 18, 19], [0, 1, 2, 3], 28⟩ (.seq (.seq (.reg [⟨some 149, none, .mov (.t 19)⟩, ⟨some 150, none, .fad 4 (.t 15)⟩, ⟨some 151, none, .load none (.t 150)⟩, ⟨some 152, none, .mov (.t 18)⟩, ⟨some 153, none, .iad 2 (.t 151) (.t 152)⟩, ⟨some 154, none, .fad 1 (.t 153)⟩, ⟨some 155, none, .load none (.t 154)⟩, ⟨some 156, none, .bin .lss (.t 149) (.t 155)⟩, ⟨some 157, none, .mov (.t 156)⟩, ⟨some 158, some (157, true), .mov (.t 19)⟩, ⟨some 159, some (157, true), .bin .lss (.t 158) (.c (.pv (.int .i64 64)))⟩, ⟨some 160, none, .land (.t 157) (.t 159)⟩]) (.cond (.t 160) (.skip) (.ext 4))) (.seq (.blk 5 (.reg [⟨some 163, none, .mov (.t 17)⟩, ⟨some 164, none, .bin .mul (.c (.pv (.int .i64 2))) (.t 163)⟩, ⟨some 17, none, .mov (.t 164)⟩])) (.reg [⟨some 161, none, .mov (.t 19)⟩, ⟨some 162, none, .bin .add (.t 161) (.c (.pv (.int .i64 1)))⟩, ⟨some 19, none, .mov (.t 162)⟩]))))))) (.reg [⟨some 147, none, .mov (.t 18)⟩, ⟨some 148, none, .bin .add (.t 147) (.c (.pv (.int .i64 1)))⟩, ⟨some 18, none, .mov (.t 148)⟩])))))) (.seq (.reg [⟨some 165, none, .mov (.t 14)⟩, ⟨some 166, none, .mov (.t 3)⟩, ⟨some 167, none, .bin .eql (.t 165) (.t 166)⟩, ⟨some 168, none, .mov (.t 167)⟩, ⟨some 169, some (168, true), .fad 3 (.t 15)⟩, ⟨some 170, some (168, true), .load none (.t 169)⟩, ⟨some 171, some (168, true), .bin .geq (.t 170) (.c (.pv (.int .i64 0)))⟩, ⟨some 172, none, .land (.t 168) (.t 171)⟩, ⟨some 173, none, .mov (.t 172)⟩, ⟨some 174, some (173, true), .fad 3 (.t 15)⟩, ⟨some 175, some (173, true), .load none (.t 174)⟩, ⟨some 176, some (173, true), .bin .leq (.t 175) (.c (.pv (.int .i64 3)))⟩, ⟨some 177, none, .land (.t 173) (.t 176)⟩]) (.cond (.t 177) (.seq (.dreg [⟨some 178, none, .lit 1 []⟩, ⟨some 179, none, .fad 1 (.t 5)⟩, ⟨some 180, none, .load none (.t 179)⟩, ⟨some 181, none, .appm 1 8 (.t 178) (.t 180)⟩, ⟨some 182, none, .lit 1 []⟩, ⟨some 183, none, .fad 1 (.t 5)⟩, ⟨some 184, none, .load none (.t 183)⟩, ⟨some 185, none, .appm 1 8 (.t 182) (.t 184)⟩, ⟨some 20, none, .mov (.t 181)⟩, ⟨some 21, none, .mov (.t 185)⟩] [[], [], [1], [0, 1, 2], [], [], [5], [0, 1, 2, 3, 4, 5, 6], [0, 1, 2, 3, 4, 5, 6, 7], [0, 1, 2, 3, 4, 5, 6, 7, 8]]) (.seq (.dreg [⟨some 186, none, .mov (.t 20)⟩, ⟨some 187, none, .mov (.t 14)⟩, ⟨some 188, none, .mov (.t 20)⟩, ⟨some 189, none, .mov (.t 14)⟩, ⟨some 190, none, .iad 1 (.t 188) (.t 189)⟩, ⟨some 191, none, .load none (.t 190)⟩, ⟨some 192, none, .mov (.t 17)⟩, ⟨some 193, none, .fad 3 (.t 15)⟩, ⟨some 194, none, .load none (.t 193)⟩, ⟨some 195, none, .conv .u64 (.t 194)⟩, ⟨some 196, none, .bin .shl (.t 192) (.t 195)⟩, ⟨some 197, none, .bin .add (.t 191) (.t 196)⟩, ⟨some 198, none, .iad 1 (.t 186) (.t 187)⟩, ⟨none, none, .store 1 (.t 198) (.t 197)⟩] [[], [], [], [], [2, 3], [2, 3, 4], [], [], [7], [7, 8], [6, 7, 8, 9], [2, 3, 4, 5, 6, 7, 8, 9, 10], [0, 1, 2, 3, 4, 5, 6, 7, 8, 9, 10, 11], [0, 1, 2, 3, 4, 5, 6, 7, 8, 9, 10, 11, 12]]) (.gh (.frz 20) (.seq (.dreg [⟨some 199, none, .mov (.t 21)⟩, ⟨some 200, none, .mov (.t 14)⟩, ⟨some 201, none, .mov (.t 21)⟩, ⟨some 202, none, .mov (.t 14)⟩, ⟨some 203, none, .iad 1 (.t 201) (.t 202)⟩, ⟨some 204, none, .load none (.t 203)⟩, ⟨some 205, none, .mov (.t 17)⟩, ⟨some 206, none, .fad 3 (.t 15)⟩, ⟨some 207, none, .load none (.t 206)⟩, ⟨some 208, none, .conv .u64 (.t 207)⟩, ⟨some 209, none, .bin .shl (.t 205) (.t 208)⟩, ⟨some 210, none, .bin .sub (.t 204) (.t 209)⟩, ⟨some 211, none, .iad 1 (.t 199) (.t 200)⟩, ⟨none, none, .store 1 (.t 211) (.t 210)⟩] [[], [], [], [], [2, 3], [2, 3, 4], [], [], [7], [7, 8], [6, 7, 8, 9], [2, 3, 4, 5, 6, 7, 8, 9, 10], [0, 1, 2, 3, 4, 5, 6, 7, 8, 9, 10, 11], [0, 1, 2, 3, 4, 5, 6, 7, 8, 9, 10, 11, 12]]) (.gh (.frz 21) (.seq (.reg [⟨some 212, none, .load (some 7) (.t 4)⟩, ⟨some 213, none, .fad 0 (.t 5)⟩, ⟨some 214, none, .load none (.t 213)⟩, ⟨some 215, none, .mov (.t 20)⟩, ⟨some 216, none, .build [.pv (.int .i64 0), .nilS 1] [((0, 1), (.t 214)), ((1, 1), (.t 215))]⟩, ⟨some 217, none, .callf 36 [(.t 212), (.t 216)]⟩, ⟨some 218, none, .bin .neq (.t 217) (.c (.pv (.int .i64 24)))⟩, ⟨some 219, none, .mov (.t 218)⟩, ⟨some 220, some (219, false), .load (some 7) (.t 4)⟩, ⟨some 221, some (219, false), .fad 0 (.t 5)⟩, ⟨some 222, some (219, false), .load none (.t 221)⟩, ⟨some 223, some (219, false), .mov (.t 21)⟩, ⟨some 224, some (219, false), .build [.pv (.int .i64 0), .nilS 1] [((0, 1), (.t 222)), ((1, 1), (.t 223))]⟩, ⟨some 225, some (219, false), .callf 36 [(.t 220), (.t 224)]⟩, ⟨some 226, some (219, false), .bin .neq (.t 225) (.c (.pv (.int .i64 24)))⟩, ⟨some 227, none, .lor (.t 219) (.t 226)⟩]) (.cond (.t 227) (.seq (.reg [⟨some 8, none, .mov (.c (.pv (.bool false)))⟩]) (.ret)) (.skip)))))))) (.skip)))))))))))) (.reg [⟨some 90, none, .mov (.t 14)⟩, ⟨some 91, none, .bin .add (.t 90) (.c (.pv (.int .i64 1)))⟩, ⟨some 14, none, .mov (.t 91)⟩])))))) (.seq (.dreg [⟨some 228, none, .mov (.t 9)⟩, ⟨some 229, none, .mov (.t 228)⟩, ⟨some 230, some (229, true), .mov (.t 13)⟩, ⟨some 231, some (229, true), .bin .add (.t 230) (.c (.pv (.int .i64 1)))⟩, ⟨some 232, some (229, true), .mov (.t 10)⟩, ⟨some 233, some (229, true), .len (.t 232)⟩, ⟨some 234, some (229, true), .bin .eql (.t 231) (.t 233)⟩, ⟨some 235, none, .land (.t 229) (.t 234)⟩, ⟨some 236, none, .mov (.t 235)⟩, ⟨some 237, some (236, true), .mov (.t 10)⟩, ⟨some 238, some (236, true), .mov (.t 13)⟩, ⟨some 239, some (236, true), .iad 3 (.t 237) (.t 238)⟩, ⟨some 240, some (236, true), .load (some 3) (.t 239)⟩, ⟨some 241, some (236, true), .fad 2 (.t 4)⟩, ⟨some 242, some (236, true), .load none (.t 241)⟩, ⟨some 243, some (236, true), .mov (.t 2)⟩, ⟨some 244, some (236, true), .build [.pv (.str ⟨#[]⟩), .pv (.int .i64 0), .pv (.int .u64 0)] [((0, 1), (.c (.pv (.str ⟨#[112, 99]⟩)))), ((1, 1), (.t 242)), ((2, 1), (.t 243))]⟩, ⟨some 245, some (236, true), .ceq false [2, 1, 1] (.t 240) (.t 244)⟩, ⟨some 246, none, .land (.t 236) (.t 245)⟩, ⟨some 8, none, .mov (.t 246)⟩] [[], [0], [0, 1], [0, 1, 2], [0, 1], [0, 1, 4], [0, 1, 2, 3, 4, 5], [0, 1, 2, 3, 4, 5, 6], [0, 1, 2, 3, 4, 5, 6, 7], [0, 1, 2, 3, 4, 5, 6, 7, 8], [0, 1, 2, 3, 4, 5, 6, 7, 8], [0, 1, 2, 3, 4, 5, 6, 7, 8, 9, 10], [0, 1, 2, 3, 4, 5, 6, 7, 8, 9, 10, 11], [0, 1, 2, 3, 4, 5, 6, 7, 8], [0, 1, 2, 3, 4, 5, 6, 7, 8, 13], [0, 1, 2, 3, 4, 5, 6, 7, 8], [0, 1, 2, 3, 4, 5, 6, 7, 8, 13, 14, 15], [0, 1, 2, 3, 4, 5, 6, 7, 8, 9, 10, 11, 12, 13, 14, 15, 16], [0, 1, 2, 3, 4, 5, 6, 7, 8, 9, 10, 11, 12, 13, 14, 15, 16, 17], [0, 1, 2, 3, 4, 5, 6, 7, 8, 9, 10, 11, 12, 13, 14, 15, 16, 17, 18]]) (.ret)))))))))))
theorem k_retargetlaw08_MachineFields : FnOk Tryz.prog 10 247 c_retargetlaw08_MachineFields [.tmp 8] := .mk' (fn := Tryz.f10) rfl rfl (by kernel_rfl) rfl (by kernel_rfl) (by kernel_rfl)
end Go.Proofs.YteiampdhhigjcaaGreatDoorV

/- The program's functions as trees of our logic (group e). -/
namespace Go.Proofs.YteiampdhhigjcaaGreatDoorV
open Go
set_option maxRecDepth 100000
end Go.Proofs.YteiampdhhigjcaaGreatDoorV

/- The program's functions as trees of our logic (group c). -/
namespace Go.Proofs.YteiampdhhigjcaaGreatDoorV
open Go
set_option maxRecDepth 100000
end Go.Proofs.YteiampdhhigjcaaGreatDoorV

/- The program's functions as trees of our logic (group d). -/
namespace Go.Proofs.YteiampdhhigjcaaGreatDoorV
open Go
set_option maxRecDepth 100000
end Go.Proofs.YteiampdhhigjcaaGreatDoorV

/- The law MachineFields gives true. -/
namespace Go.Proofs.YteiampdhhigjcaaGreatDoorV
open Go
set_option maxRecDepth 100000
set_option maxHeartbeats 4000000

theorem fieldN_mono {o : Opnd} {wd : Int} (hp : okPieces o wd = true) (hw : wd ≤ 4) (hl : o.pieces.length ≤ 4) {k : Nat} : ∀ n, k ≤ n → n ≤ o.pieces.length → fieldN o.pieces k ≤ fieldN o.pieces n
  | 0, h, _ => by obtain rfl : k = 0 := by omega
                  omega
  | n + 1, h, hn => by
    rcases Nat.lt_or_eq_of_le h with h | rfl
    · have h1 := fieldN_mono hp hw hl (k := k) n (by omega) (by omega)
      obtain ⟨-, -, h3⟩ := fieldN_bd hp hw hl n (by omega)
      have := h3 (by omega); omega
    · omega
theorem two_step : ∀ n : Nat, n < 62 → IntKind.i64.wrap (2 * 2 ^ n) = 2 ^ (n + 1) := by decide
theorem flat_ints (l : List Int) : flat (ints l) = ints l := by
  induction l with
  | nil => rfl
  | cons x r ih => simp only [ints, List.map_cons, flat, List.flatMap_cons] at ih ⊢; rw [ih]; rfl
theorem ints_set {l : List Int} {p : Nat} {v : Int} : ((ints l).map DV.pv).set p (.pv (.int .i64 v)) = (ints (l.set p v)).map DV.pv := by
  simp only [ints, ← List.map_set]
theorem ints_cells {l : List Int} : ∀ x ∈ ints l, x.cells.length = 1 := by
  intro x hx; simp only [ints, List.mem_map] at hx; obtain ⟨y, -, rfl⟩ := hx; rfl
theorem ints_one {l : List Int} : ∀ x ∈ ints l, x.one = true := by
  intro x hx; simp only [ints, List.mem_map] at hx; obtain ⟨y, -, rfl⟩ := hx; rfl
theorem ints_at {l : List Int} {p : Nat} (h : p < (ints l).length) : (ints l)[p] = .int .i64 (gt l (p : Nat)) := by
  have h2 : p < l.length := by simpa using h
  rw [gt_nat h2]; simp [ints]
theorem shl_pow : ∀ F : Nat, F < 33 → ∀ s : Nat, s < 4 → shlI .i64 (2 ^ F) (s : Int) = 2 ^ (F + s) := by decide
theorem wrapS (x : Int) : IntKind.i64.wrap x = (x + 9223372036854775808) % 18446744073709551616 - 9223372036854775808 := by
  simp [IntKind.wrap, IntKind.signed, IntKind.bits]
  split <;> omega
theorem jump_go {A : Nat} (hA : A = 16 ∨ A = 32) {w : Int} (hw : 1 ≤ w ∧ w ≤ 4) (p n : Int) : bandI .u64 (IntKind.u64.wrap (IntKind.i64.wrap (IntKind.i64.wrap p + IntKind.i64.wrap (w * IntKind.i64.wrap (n + 1))))) ((2 ^ A - 1 : Nat) : Int) = (p + w + w * n) % 2 ^ A := by
  rw [num_val hA]
  have h : w = 1 ∨ w = 2 ∨ w = 3 ∨ w = 4 := by omega
  simp only [wrapS]
  rcases h with rfl | rfl | rfl | rfl <;> rcases hA with rfl | rfl <;> omega
theorem p_MachineFields (m : Mach) (op : MOp) (pcv which : Int) : PCall Tryz.prog glob 10 [.pv m.pv, .pv op.pv, .pv (.int .u64 pcv), .pv (.int .i64 which)] (.pv (.bool true)) := by
  refine k_retargetlaw08_MachineFields.pcall (by simp) (by simp) (by simp) fun hwf => ?_
  have hp0 := hwf (.pv (.int .u64 pcv)) (by simp)
  simp [IntKind.min, IntKind.max, IntKind.signed, IntKind.bits] at hp0
  simp [c_retargetlaw08_MachineFields]
  refine CallNext.data p_alive ?_
  simp
  refine CallNext.pure (p_r8_Great glob m) fun _ => ?_
  simp
  intro hg hn
  have ht := great_terms hg
  refine CallNext.data (p_machine_Vars m op pcv ht) ?_
  simp
  by_cases hE : varsE m op pcv = 0
  · have hOp : opE m op = 0 := by
      rw [varsE] at hE; split at hE
      · assumption
      · exact hE
    have hpv : pcv < 2 ^ m.address.toNat := by
      rw [varsE, if_pos hOp] at hE; split at hE
      · assumption
      · omega
    obtain ⟨hc, hsuit⟩ := opE_ok hOp
    obtain ⟨hi, hal, harg⟩ := suit_ok hsuit
    have hlim := inLimits_iff (mcheck_regs hc).2
    obtain ⟨hwd, had, hbk, hins⟩ := mcheck_all hc
    have hi' : 0 ≤ op.instr ∧ op.instr ≤ (m.instrs.length : Int) - 1 := by simpa [inR] using hi
    have hne : m.instrs ≠ [] := by intro h; simp [h] at hi'; omega
    have hsm : gt m.instrs op.instr ∈ m.instrs := gt_mem hi'.1 (by omega)
    have hos : ∀ i, i < (gt m.instrs op.instr).operands.length → okOperand m (gt m.instrs op.instr) i = true := by
      have := hins op.instr.toNat (by omega)
      rw [Int.toNat_of_nonneg hi'.1] at this
      exact okInstr_ops this
    have hoff := fun (i : Nat) (x : Int) (h1 : i < op.args.length) (h2 : (gt (gt m.instrs op.instr).operands (i : Nat)).kind ≠ 1) (h3 : rangedB (gt (gt m.instrs op.instr).operands (i : Nat)) x = false) => op_off hOp h1 h2 h3 hos
    have hL : varsL m op pcv = varsN m (gt m.instrs op.instr) op.args pcv (gt m.instrs op.instr).operands.length ++ [⟨pc, m.address, pcv⟩] := by rw [varsL, if_pos hE]
    generalize hsd : gt m.instrs op.instr = s at *
    have hsl := hlim.2.2.2.2.2 s hsm
    obtain ⟨A, hA⟩ : ∃ A : Nat, m.address = A := ⟨m.address.toNat, by omega⟩
    have hA' : A = 16 ∨ A = 32 := by omega
    simp [hE]
    refine ⟨⟨⟨hi'.1, by omega⟩, fun h => by omega⟩, fun _ _ _ => ⟨⟨hi'.1, by omega⟩, ?_⟩⟩
    simp [hne, hsd, hal]
    have hcl : (varsN m s op.args pcv s.operands.length).length ≤ 4 := Nat.le_trans (varsN_len m s op.args pcv _) hsl.1
    generalize hLL : varsL m op pcv = L at *
    have hvne : L ≠ [] := by rw [hL]; simp
    have hlen : L.length = (varsN m s op.args pcv s.operands.length).length + 1 := by rw [hL]; simp
    have hlast : gt L ((varsN m s op.args pcv s.operands.length).length : Nat) = ⟨⟨#[112, 99]⟩, m.address, pcv⟩ := by rw [hL, gt_app_at]; rfl
    have hmask : IntKind.u64.wrap (shlI .u64 1 (IntKind.u64.wrap (A : Int)) - 1) = ((2 ^ A - 1 : Nat) : Int) := by rcases hA' with rfl | rfl <;> decide
    refine Loop.nat (fun i => { e := [(2, .pv (.int .u64 pcv)), (3, .pv (.int .i64 which)), (4, .ptr 0 0), (5, .ptr 1 0), (9, .pv (.bool true)), (10, .pv (.lst 3 (L.map Bnd.pv))), (12, .ptr 2 0), (13, .pv (.int .i64 (varsN m s op.args pcv i).length)), (14, .pv (.int .i64 i))], h := [(0, m.bx), (1, op.bx), (2, s.bx)], nx := 3 }) s.operands.length (fun _ => True) (by simp [Mach.bx, MOp.bx, Ins_.bx]) trivial (by simp [Mach.bx, MOp.bx, Ins_.bx, varsN]) fun i hi2 hinv => ?_
    by_cases hlt : i < s.operands.length
    · have hai : i < op.args.length := by omega
      have hane : op.args ≠ [] := by intro hh; simp [hh] at hai
      have hone : s.operands ≠ [] := by intro hh; simp [hh] at hlt
      have hok := hos i hlt
      have hci : (varsN m s op.args pcv i).length ≤ i := varsN_len m s op.args pcv i
      by_cases hk : (gt s.operands (i : Nat)).kind = 1
      · simp [hlt, hai, Mach.bx, MOp.bx, Ins_.bx, hone, hk, varsN_len1 hk]
        exact wrap_nat (show (0:Int) ≤ i + 1 by omega) (by omega)
      · have hat := varsN_at (m := m) (s := s) (args := op.args) (pcv := pcv) hlt hk [⟨pc, m.address, pcv⟩]
        rw [← hL] at hat
        have hq := opnd_num hok hk
        have hom : gt s.operands (i : Nat) ∈ s.operands := gt_mem (by omega) (by omega)
        have hpl := hsl.2.2 _ hom
        have hpc : okPieces (gt s.operands (i : Nat)) m.word = true := by simp only [okOperand, Bool.and_eq_true] at hok; exact hok.1.1.2
        have hnum : ∀ q : Int, (if (gt s.operands (i : Nat)).kind = 4 then pcv + m.word + m.word * q else q) % 2 ^ A = numI m (gt s.operands (i : Nat)) q pcv := fun q => by rw [numI, hA, Int.toNat_natCast]
        have hn2 := varsN_len2 (m := m) (args := op.args) (pcv := pcv) hk
        generalize hoo : gt s.operands (i : Nat) = o at *
        have hge : ¬ L.length ≤ (varsN m s op.args pcv i).length := by omega
        have hwA : IntKind.u64.wrap (A : Int) = A := wrap_u64 (by omega) (by omega)
        have hmask' : IntKind.u64.wrap (shlI .u64 1 (A : Int) - 1) = ((2 ^ A - 1 : Nat) : Int) := by rcases hA' with rfl | rfl <;> decide
        have hj := jump_go hA' hwd pcv (gt op.args (i : Nat))
        have hv := num_val hA' (gt op.args (i : Nat))
        by_cases h4 : o.kind = 4
        all_goals
          have hq1 := hnum (gt op.args (i : Nat))
          simp only [h4, if_true, if_false] at hq1
          simp [hlt, hai, Mach.bx, MOp.bx, Ins_.bx, hone, hoo, hk, h4, hvne, hge, hat.2, hA, hwA, hmask', hj, hv, hq1, ceqs_three]
          refine ⟨hat.1, ?_⟩
          refine Loop.nat (fun k => { e := [(2, .pv (.int .u64 pcv)), (3, .pv (.int .i64 which)), (4, .ptr 0 0), (5, .ptr 1 0), (9, .pv (.bool true)), (10, .pv (.lst 3 (L.map Bnd.pv))), (12, .ptr 2 0), (13, .pv (.int .i64 (varsN m s op.args pcv (i + 1)).length)), (14, .pv (.int .i64 i)), (15, .ptr 3 0), (17, .pv (.int .i64 (2 ^ (fieldN o.pieces k).toNat))), (18, .pv (.int .i64 k))], h := [(0, m.bx), (1, op.bx), (2, s.bx), (3, o.bx)], nx := 28 }) o.pieces.length (fun _ => True) (by simp [Mach.bx, MOp.bx, Ins_.bx, Opnd.bx]) trivial (by simp [Mach.bx, MOp.bx, Ins_.bx, Opnd.bx, fieldN, hA, hn2, h4]; exact wrap_nat (by omega) (by omega)) fun k hk2 hinv2 => ?_
          obtain ⟨f1, f2, f3⟩ := fieldN_bd hpc hwd.2 hpl k hk2
          by_cases hkl : k < o.pieces.length
          · obtain ⟨f4, f5, f6⟩ := f3 hkl
            have f7 := fieldN_mono hpc hwd.2 hpl (k := k + 1) _ (by omega) (Nat.le_refl _)
            rw [← fieldI] at f7
            have hpne : o.pieces ≠ [] := by intro hh; simp [hh] at hkl
            obtain ⟨fk, hfk⟩ : ∃ fk : Nat, fieldN o.pieces k = fk := ⟨(fieldN o.pieces k).toNat, by omega⟩
            obtain ⟨ln, hln⟩ : ∃ ln : Nat, (gt o.pieces (k : Nat)).len = ln := ⟨(gt o.pieces (k : Nat)).len.toNat, by omega⟩
            have hf1 : (fieldN o.pieces (k + 1)).toNat = fk + ln := by omega
            simp [hkl, hpne, hfk, Mach.bx, MOp.bx, Ins_.bx, Opnd.bx]
            refine Loop.nat (fun b => { e := [(2, .pv (.int .u64 pcv)), (3, .pv (.int .i64 which)), (4, .ptr 0 0), (5, .ptr 1 0), (9, .pv (.bool true)), (10, .pv (.lst 3 (L.map Bnd.pv))), (12, .ptr 2 0), (13, .pv (.int .i64 (varsN m s op.args pcv (i + 1)).length)), (14, .pv (.int .i64 i)), (15, .ptr 3 0), (17, .pv (.int .i64 (2 ^ (fk + b)))), (18, .pv (.int .i64 k)), (19, .pv (.int .i64 b))], h := [(0, m.bx), (1, op.bx), (2, s.bx), (3, o.bx)], nx := 28 }) ln (fun _ => True) (by simp [Mach.bx, MOp.bx, Ins_.bx, Opnd.bx]) trivial (by simp [Mach.bx, MOp.bx, Ins_.bx, Opnd.bx]) fun b hb hinv3 => ?_
            by_cases hbl : b < ln
            · simp [hkl, hpne, hbl, hln, show b < 64 by omega, Mach.bx, MOp.bx, Ins_.bx, Opnd.bx]
              exact ⟨fun _ => ⟨two_step (fk + b) (by omega), wrap_nat (by omega) (by omega)⟩, fun _ => by omega⟩
            · obtain rfl : b = ln := by omega
              simp [hkl, hpne, hln, hf1, Mach.bx, MOp.bx, Ins_.bx, Opnd.bx]
              exact wrap_nat (by omega) (by omega)
          · obtain rfl : k = o.pieces.length := by omega
            have hnea : ints op.args ≠ [] := by simpa [ints] using hane
            simp [Mach.bx, MOp.bx, Ins_.bx, Opnd.bx, ownOf0, flat_ints, hnea]
            refine ⟨fun hwh g0 g3 => ?_, fun _ => ⟨hlt, wrap_nat (by omega) (by omega), hA⟩⟩
            have hrng : rangedB o (gt op.args (i : Nat)) = true := by
              have h := harg i hlt
              simp only [argE, hoo, hk, if_false] at h
              split at h
              · assumption
              · omega
            obtain ⟨r1, r2, r3, r4⟩ := ranged_off hq.2.1 hrng
            have hoi := fun x => hoff i x hai
            rw [hoo] at hoi
            have hup := hoi _ hk r1
            have hdn := hoi _ hk r2
            have hF : (fieldN o.pieces o.pieces.length).toNat = (fieldI o).toNat := rfl
            generalize hFF : (fieldI o).toNat = F at *
            obtain ⟨sc, hsc⟩ : ∃ sc : Nat, o.scale = sc := ⟨o.scale.toNat, by omega⟩
            have hsc' : o.scale.toNat = sc := by omega
            rw [hsc'] at r1 r2 r3 r4 hup hdn
            have hp32 : (2 : Int) ^ (F + sc) ≤ 4294967296 := (pow_le (F + sc) (by omega)).1
            have hws : IntKind.u64.wrap (sc : Int) = sc := wrap_u64 (by omega) (by omega)
            have hsh := shl_pow F (by omega) sc (by omega)
            have hw1 : IntKind.i64.wrap (gt op.args (i : Nat) + 2 ^ (F + sc)) = gt op.args (i : Nat) + 2 ^ (F + sc) := wrap_i64 (by omega) (by omega)
            have hw2 : IntKind.i64.wrap (gt op.args (i : Nat) - 2 ^ (F + sc)) = gt op.args (i : Nat) - 2 ^ (F + sc) := wrap_i64 (by omega) (by omega)
            refine ⟨by omega, hai, ?_⟩
            simp [hai, ints_at, hF, hsc, hws, hsh, hw1, hw2, ints_set, show i + 1 ≤ op.args.length by omega]
            have fold1 : ∀ l, PV.agg [PV.int .i64 op.instr, PV.lst 1 (ints l)] = (MOp.mk op.instr l).pv := fun l => rfl
            rw [pvs_map]
            refine ⟨ints (op.args.set i (gt op.args (i : Nat) + 2 ^ (F + sc))), flat_ints _, by simp, ints_cells, ints_one, ?_⟩
            rw [pvs_map]
            refine ⟨ints (op.args.set i (gt op.args (i : Nat) - 2 ^ (F + sc))), flat_ints _, by simp, ints_cells, ints_one, ?_⟩
            rw [fold1]
            refine CallNext.data (p_machine_CheckOp m _ ht) ?_
            simp [hup]
            rw [fold1]
            refine ⟨_, .of (p_machine_CheckOp m _ ht), by simp, ?_⟩
            simp [hdn]
            exact ⟨hlt, wrap_nat (by omega) (by omega), hA⟩
    · obtain rfl : i = s.operands.length := by omega
      simp [Mach.bx, MOp.bx, Ins_.bx, hvne, hlast, hlen, ceqs_three, wrap_nat (show (0:Int) ≤ ((varsN m s op.args pcv s.operands.length).length : Int) + 1 by omega) (by omega)]
      omega
  · have hl : varsL m op pcv = [] := by rw [varsL, if_neg hE]
    simp [hE, hl]
end Go.Proofs.YteiampdhhigjcaaGreatDoorV
