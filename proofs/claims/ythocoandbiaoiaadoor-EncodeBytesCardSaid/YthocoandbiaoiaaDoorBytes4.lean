/- Packed: Td Ra Rb Rc Cf Cg Rd Re Rf Rg Of Ri Rs Kj -/
import Derived.Test.YthocoandbiaoiaaDoorBytes3
import Derived.Test.YthocoandbiaoiaaDoorProg
set_option linter.all false
namespace Go.Proofs.YthocoandbiaoiaaDoorV
open Go
set_option maxRecDepth 100000
/- "retarget/retargetref08.Great" -/
def c_retargetref08_Great : C :=
.seq (.reg [⟨some 1, none, .box 7 (.t 0)⟩, ⟨some 2, none, .mov (.c (.pv (.bool false)))⟩]) (.seq (.seq (.reg [⟨some 8, none, .fad 0 (.t 1)⟩, ⟨some 9, none, .load none (.t 8)⟩, ⟨some 10, none, .lens (.t 9)⟩, ⟨some 11, none, .bin .gtr (.t 10) (.c (.pv (.int .i64 100)))⟩, ⟨some 12, none, .mov (.t 11)⟩, ⟨some 13, some (12, false), .fad 3 (.t 1)⟩, ⟨some 14, some (12, false), .load none (.t 13)⟩, ⟨some 15, some (12, false), .len (.t 14)⟩, ⟨some 16, some (12, false), .bin .gtr (.t 15) (.c (.pv (.int .i64 74)))⟩, ⟨some 17, none, .lor (.t 12) (.t 16)⟩, ⟨some 18, none, .mov (.t 17)⟩, ⟨some 19, some (18, false), .fad 4 (.t 1)⟩, ⟨some 20, some (18, false), .load none (.t 19)⟩, ⟨some 21, some (18, false), .len (.t 20)⟩, ⟨some 22, some (18, false), .bin .gtr (.t 21) (.c (.pv (.int .i64 26)))⟩, ⟨some 23, none, .lor (.t 18) (.t 22)⟩, ⟨some 24, none, .mov (.t 23)⟩, ⟨some 25, some (24, false), .fad 5 (.t 1)⟩, ⟨some 26, some (24, false), .load none (.t 25)⟩, ⟨some 27, some (24, false), .len (.t 26)⟩, ⟨some 28, some (24, false), .bin .gtr (.t 27) (.c (.pv (.int .i64 18)))⟩, ⟨some 29, none, .lor (.t 24) (.t 28)⟩, ⟨some 30, none, .mov (.t 29)⟩, ⟨some 31, some (30, false), .fad 6 (.t 1)⟩, ⟨some 32, some (30, false), .load none (.t 31)⟩, ⟨some 33, some (30, false), .len (.t 32)⟩, ⟨some 34, some (30, false), .bin .gtr (.t 33) (.c (.pv (.int .i64 74)))⟩, ⟨some 35, none, .lor (.t 30) (.t 34)⟩]) (.cond (.t 35) (.seq (.reg [⟨some 2, none, .mov (.c (.pv (.bool true)))⟩]) (.ret)) (.skip))) (.seq (.seq (.reg [⟨some 3, none, .mov (.c (.pv (.int .i64 0)))⟩]) (.blk 0 (.loop ⟨[1, 3], [0], 1⟩ (.seq (.seq (.reg [⟨some 36, none, .mov (.t 3)⟩, ⟨some 37, none, .fad 4 (.t 1)⟩, ⟨some 38, none, .load none (.t 37)⟩, ⟨some 39, none, .len (.t 38)⟩, ⟨some 40, none, .bin .lss (.t 36) (.t 39)⟩]) (.cond (.t 40) (.skip) (.ext 0))) (.seq (.blk 1 (.seq (.reg [⟨some 43, none, .fad 4 (.t 1)⟩, ⟨some 44, none, .load none (.t 43)⟩, ⟨some 45, none, .mov (.t 3)⟩, ⟨some 46, none, .iad 2 (.t 44) (.t 45)⟩, ⟨some 47, none, .fad 1 (.t 46)⟩, ⟨some 48, none, .load none (.t 47)⟩, ⟨some 49, none, .len (.t 48)⟩, ⟨some 50, none, .bin .gtr (.t 49) (.c (.pv (.int .i64 74)))⟩, ⟨some 51, none, .mov (.t 50)⟩, ⟨some 52, some (51, false), .fad 4 (.t 1)⟩, ⟨some 53, some (51, false), .load none (.t 52)⟩, ⟨some 54, some (51, false), .mov (.t 3)⟩, ⟨some 55, some (51, false), .iad 2 (.t 53) (.t 54)⟩, ⟨some 56, some (51, false), .fad 0 (.t 55)⟩, ⟨some 57, some (51, false), .load none (.t 56)⟩, ⟨some 58, some (51, false), .lens (.t 57)⟩, ⟨some 59, some (51, false), .bin .gtr (.t 58) (.c (.pv (.int .i64 100)))⟩, ⟨some 60, none, .lor (.t 51) (.t 59)⟩]) (.cond (.t 60) (.seq (.reg [⟨some 2, none, .mov (.c (.pv (.bool true)))⟩]) (.ret)) (.skip)))) (.reg [⟨some 41, none, .mov (.t 3)⟩, ⟨some 42, none, .bin .add (.t 41) (.c (.pv (.int .i64 1)))⟩, ⟨some 3, none, .mov (.t 42)⟩])))))) (.seq (.seq (.reg [⟨some 4, none, .mov (.c (.pv (.int .i64 0)))⟩]) (.blk 2 (.loop ⟨[1, 4], [0], 1⟩ (.seq (.seq (.reg [⟨some 61, none, .mov (.t 4)⟩, ⟨some 62, none, .fad 6 (.t 1)⟩, ⟨some 63, none, .load none (.t 62)⟩, ⟨some 64, none, .len (.t 63)⟩, ⟨some 65, none, .bin .lss (.t 61) (.t 64)⟩]) (.cond (.t 65) (.skip) (.ext 2))) (.seq (.blk 3 (.seq (.reg [⟨some 68, none, .fad 6 (.t 1)⟩, ⟨some 69, none, .load none (.t 68)⟩, ⟨some 70, none, .mov (.t 4)⟩, ⟨some 71, none, .iad 9 (.t 69) (.t 70)⟩, ⟨some 72, none, .load (some 9) (.t 71)⟩, ⟨some 5, none, .alloc [.pv (.str ⟨#[]⟩), .pv (.int .u64 0), .pv (.int .u64 0), .nilS 6, .nilS 21, .pv (.int .i64 0), .pv (.int .i64 0), .pv (.int .i64 0), .pv (.int .i64 0)]⟩, ⟨none, none, .store 9 (.t 5) (.t 72)⟩]) (.seq (.seq (.reg [⟨some 73, none, .fad 3 (.t 5)⟩, ⟨some 74, none, .load none (.t 73)⟩, ⟨some 75, none, .len (.t 74)⟩, ⟨some 76, none, .bin .gtr (.t 75) (.c (.pv (.int .i64 14)))⟩, ⟨some 77, none, .mov (.t 76)⟩, ⟨some 78, some (77, false), .fad 4 (.t 5)⟩, ⟨some 79, some (77, false), .load none (.t 78)⟩, ⟨some 80, some (77, false), .len (.t 79)⟩, ⟨some 81, some (77, false), .bin .gtr (.t 80) (.c (.pv (.int .i64 14)))⟩, ⟨some 82, none, .lor (.t 77) (.t 81)⟩, ⟨some 83, none, .mov (.t 82)⟩, ⟨some 84, some (83, false), .fad 0 (.t 5)⟩, ⟨some 85, some (83, false), .load none (.t 84)⟩, ⟨some 86, some (83, false), .lens (.t 85)⟩, ⟨some 87, some (83, false), .bin .gtr (.t 86) (.c (.pv (.int .i64 100)))⟩, ⟨some 88, none, .lor (.t 83) (.t 87)⟩]) (.cond (.t 88) (.seq (.reg [⟨some 2, none, .mov (.c (.pv (.bool true)))⟩]) (.ret)) (.skip))) (.seq (.seq (.reg [⟨some 6, none, .mov (.c (.pv (.int .i64 0)))⟩]) (.blk 4 (.loop ⟨[1, 4, 5, 6], [0, 1], 2⟩ (.seq (.seq (.reg [⟨some 89, none, .mov (.t 6)⟩, ⟨some 90, none, .fad 3 (.t 5)⟩, ⟨some 91, none, .load none (.t 90)⟩, ⟨some 92, none, .len (.t 91)⟩, ⟨some 93, none, .bin .lss (.t 89) (.t 92)⟩]) (.cond (.t 93) (.skip) (.ext 4))) (.seq (.blk 5 (.seq (.reg [⟨some 96, none, .fad 3 (.t 5)⟩, ⟨some 97, none, .load none (.t 96)⟩, ⟨some 98, none, .mov (.t 6)⟩, ⟨some 99, none, .iad 6 (.t 97) (.t 98)⟩, ⟨some 100, none, .fad 4 (.t 99)⟩, ⟨some 101, none, .load none (.t 100)⟩, ⟨some 102, none, .len (.t 101)⟩, ⟨some 103, none, .bin .gtr (.t 102) (.c (.pv (.int .i64 14)))⟩, ⟨some 104, none, .mov (.t 103)⟩, ⟨some 105, some (104, false), .fad 3 (.t 5)⟩, ⟨some 106, some (104, false), .load none (.t 105)⟩, ⟨some 107, some (104, false), .mov (.t 6)⟩, ⟨some 108, some (104, false), .iad 6 (.t 106) (.t 107)⟩, ⟨some 109, some (104, false), .fad 0 (.t 108)⟩, ⟨some 110, some (104, false), .load none (.t 109)⟩, ⟨some 111, some (104, false), .lens (.t 110)⟩, ⟨some 112, some (104, false), .bin .gtr (.t 111) (.c (.pv (.int .i64 100)))⟩, ⟨some 113, none, .lor (.t 104) (.t 112)⟩]) (.cond (.t 113) (.seq (.reg [⟨some 2, none, .mov (.c (.pv (.bool true)))⟩]) (.ret)) (.skip)))) (.reg [⟨some 94, none, .mov (.t 6)⟩, ⟨some 95, none, .bin .add (.t 94) (.c (.pv (.int .i64 1)))⟩, ⟨some 6, none, .mov (.t 95)⟩])))))) (.seq (.reg [⟨some 7, none, .mov (.c (.pv (.int .i64 0)))⟩]) (.blk 6 (.loop ⟨[1, 4, 5, 7], [0, 1], 2⟩ (.seq (.seq (.reg [⟨some 114, none, .mov (.t 7)⟩, ⟨some 115, none, .fad 4 (.t 5)⟩, ⟨some 116, none, .load none (.t 115)⟩, ⟨some 117, none, .len (.t 116)⟩, ⟨some 118, none, .bin .lss (.t 114) (.t 117)⟩]) (.cond (.t 118) (.skip) (.ext 6))) (.seq (.blk 7 (.seq (.reg [⟨some 121, none, .fad 4 (.t 5)⟩, ⟨some 122, none, .load none (.t 121)⟩, ⟨some 123, none, .mov (.t 7)⟩, ⟨some 124, none, .iad 21 (.t 122) (.t 123)⟩, ⟨some 125, none, .fad 3 (.t 124)⟩, ⟨some 126, none, .load (some 6) (.t 125)⟩, ⟨some 127, none, .callf 24 [(.t 126)]⟩, ⟨some 128, none, .mov (.t 127)⟩, ⟨some 129, some (128, false), .fad 4 (.t 5)⟩, ⟨some 130, some (128, false), .load none (.t 129)⟩, ⟨some 131, some (128, false), .mov (.t 7)⟩, ⟨some 132, some (128, false), .iad 21 (.t 130) (.t 131)⟩, ⟨some 133, some (128, false), .fad 9 (.t 132)⟩, ⟨some 134, some (128, false), .load (some 6) (.t 133)⟩, ⟨some 135, some (128, false), .callf 24 [(.t 134)]⟩, ⟨some 136, none, .lor (.t 128) (.t 135)⟩, ⟨some 137, none, .mov (.t 136)⟩, ⟨some 138, some (137, false), .fad 4 (.t 5)⟩, ⟨some 139, some (137, false), .load none (.t 138)⟩, ⟨some 140, some (137, false), .mov (.t 7)⟩, ⟨some 141, some (137, false), .iad 21 (.t 139) (.t 140)⟩, ⟨some 142, some (137, false), .fad 15 (.t 141)⟩, ⟨some 143, some (137, false), .load (some 6) (.t 142)⟩, ⟨some 144, some (137, false), .callf 24 [(.t 143)]⟩, ⟨some 145, none, .lor (.t 137) (.t 144)⟩]) (.cond (.t 145) (.seq (.reg [⟨some 2, none, .mov (.c (.pv (.bool true)))⟩]) (.ret)) (.skip)))) (.reg [⟨some 119, none, .mov (.t 7)⟩, ⟨some 120, none, .bin .add (.t 119) (.c (.pv (.int .i64 1)))⟩, ⟨some 7, none, .mov (.t 120)⟩])))))))))) (.reg [⟨some 66, none, .mov (.t 4)⟩, ⟨some 67, none, .bin .add (.t 66) (.c (.pv (.int .i64 1)))⟩, ⟨some 4, none, .mov (.t 67)⟩])))))) (.seq (.reg [⟨some 146, none, .load (some 7) (.t 1)⟩, ⟨some 147, none, .callf 25 [(.t 146)]⟩, ⟨some 148, none, .bin .gtr (.t 147) (.c (.pv (.int .i64 1500)))⟩, ⟨some 2, none, .mov (.t 148)⟩]) (.ret)))))
theorem k_retargetref08_Great : FnOk Tryd.prog 9 149 c_retargetref08_Great [.tmp 2] := .mk' (fn := Tryd.f9) rfl rfl (by kernel_rfl) rfl (by kernel_rfl) (by kernel_rfl)
/- "retarget/retargetref08.SameWords" -/
def c_retargetref08_SameWords : C :=
.seq (.reg [⟨some 4, none, .mov (.c (.pv (.bool false)))⟩]) (.seq (.seq (.reg [⟨some 6, none, .mov (.t 0)⟩, ⟨some 7, none, .len (.t 6)⟩, ⟨some 8, none, .mov (.t 1)⟩, ⟨some 9, none, .len (.t 8)⟩, ⟨some 10, none, .bin .neq (.t 7) (.t 9)⟩]) (.cond (.t 10) (.seq (.reg [⟨some 4, none, .mov (.c (.pv (.bool false)))⟩]) (.ret)) (.skip))) (.seq (.seq (.reg [⟨some 5, none, .mov (.c (.pv (.int .i64 0)))⟩]) (.blk 0 (.loop ⟨[0, 1, 5], [], 0⟩ (.seq (.seq (.reg [⟨some 11, none, .mov (.t 5)⟩, ⟨some 12, none, .mov (.t 0)⟩, ⟨some 13, none, .len (.t 12)⟩, ⟨some 14, none, .bin .lss (.t 11) (.t 13)⟩]) (.cond (.t 14) (.skip) (.ext 0))) (.seq (.blk 1 (.seq (.dreg [⟨some 17, none, .mov (.t 0)⟩, ⟨some 18, none, .mov (.t 5)⟩, ⟨some 19, none, .iad 1 (.t 17) (.t 18)⟩, ⟨some 20, none, .load none (.t 19)⟩, ⟨some 21, none, .mov (.t 1)⟩, ⟨some 22, none, .mov (.t 5)⟩, ⟨some 23, none, .iad 1 (.t 21) (.t 22)⟩, ⟨some 24, none, .load none (.t 23)⟩, ⟨some 25, none, .bin .neq (.t 20) (.t 24)⟩] [[], [], [0, 1], [0, 1, 2], [], [], [4, 5], [4, 5, 6], [0, 1, 2, 3, 4, 5, 6, 7]]) (.cond (.t 25) (.seq (.reg [⟨some 4, none, .mov (.c (.pv (.bool false)))⟩]) (.ret)) (.skip)))) (.reg [⟨some 15, none, .mov (.t 5)⟩, ⟨some 16, none, .bin .add (.t 15) (.c (.pv (.int .i64 1)))⟩, ⟨some 5, none, .mov (.t 16)⟩])))))) (.seq (.reg [⟨some 4, none, .mov (.c (.pv (.bool true)))⟩]) (.ret))))
theorem k_retargetref08_SameWords : FnOk Tryd.prog 13 26 c_retargetref08_SameWords [.tmp 4] := .mk' (fn := Tryd.f13) rfl rfl (by kernel_rfl) rfl (by kernel_rfl) (by kernel_rfl)
/- "retarget/retargetref08.Nodes" -/
def c_retargetref08_Nodes : C :=
.seq (.reg [⟨some 1, none, .box 7 (.t 0)⟩, ⟨some 2, none, .mov (.c (.pv (.int .i64 0)))⟩]) (.seq (.reg [⟨some 3, none, .mov (.c (.pv (.int .i64 0)))⟩]) (.seq (.seq (.reg [⟨some 4, none, .mov (.c (.pv (.int .i64 0)))⟩]) (.blk 0 (.loop ⟨[1, 3, 4], [0], 1⟩ (.seq (.seq (.reg [⟨some 7, none, .mov (.t 4)⟩, ⟨some 8, none, .fad 6 (.t 1)⟩, ⟨some 9, none, .load none (.t 8)⟩, ⟨some 10, none, .len (.t 9)⟩, ⟨some 11, none, .bin .lss (.t 7) (.t 10)⟩]) (.cond (.t 11) (.skip) (.ext 0))) (.seq (.blk 1 (.seq (.reg [⟨some 5, none, .mov (.c (.pv (.int .i64 0)))⟩]) (.blk 2 (.loop ⟨[1, 3, 4, 5], [0], 1⟩ (.seq (.seq (.reg [⟨some 14, none, .mov (.t 5)⟩, ⟨some 15, none, .fad 6 (.t 1)⟩, ⟨some 16, none, .load none (.t 15)⟩, ⟨some 17, none, .mov (.t 4)⟩, ⟨some 18, none, .iad 9 (.t 16) (.t 17)⟩, ⟨some 19, none, .fad 4 (.t 18)⟩, ⟨some 20, none, .load none (.t 19)⟩, ⟨some 21, none, .len (.t 20)⟩, ⟨some 22, none, .bin .lss (.t 14) (.t 21)⟩]) (.cond (.t 22) (.skip) (.ext 2))) (.seq (.blk 3 (.seq (.reg [⟨some 25, none, .fad 6 (.t 1)⟩, ⟨some 26, none, .load none (.t 25)⟩, ⟨some 27, none, .mov (.t 4)⟩, ⟨some 28, none, .iad 9 (.t 26) (.t 27)⟩, ⟨some 29, none, .fad 4 (.t 28)⟩, ⟨some 30, none, .load none (.t 29)⟩, ⟨some 31, none, .mov (.t 5)⟩, ⟨some 32, none, .iad 21 (.t 30) (.t 31)⟩, ⟨some 33, none, .load (some 21) (.t 32)⟩, ⟨some 6, none, .alloc [.pv (.int .u8 0), .pv (.int .i64 0), .pv (.int .i64 0), .pv (.int .u8 0), .pv (.int .i64 0), .pv (.int .u64 0), .pv (.str ⟨#[]⟩), .pv (.int .i64 0), .nilS 6, .pv (.int .u8 0), .pv (.int .i64 0), .pv (.int .u64 0), .pv (.str ⟨#[]⟩), .pv (.int .i64 0), .nilS 6, .pv (.int .u8 0), .pv (.int .i64 0), .pv (.int .u64 0), .pv (.str ⟨#[]⟩), .pv (.int .i64 0), .nilS 6]⟩, ⟨none, none, .store 21 (.t 6) (.t 33)⟩]) (.dreg [⟨some 34, none, .mov (.t 3)⟩, ⟨some 35, none, .fad 3 (.t 6)⟩, ⟨some 36, none, .load (some 6) (.t 35)⟩, ⟨some 37, none, .callf 53 [(.t 36)]⟩, ⟨some 38, none, .fad 9 (.t 6)⟩, ⟨some 39, none, .load (some 6) (.t 38)⟩, ⟨some 40, none, .callf 53 [(.t 39)]⟩, ⟨some 41, none, .bin .add (.t 37) (.t 40)⟩, ⟨some 42, none, .fad 15 (.t 6)⟩, ⟨some 43, none, .load (some 6) (.t 42)⟩, ⟨some 44, none, .callf 53 [(.t 43)]⟩, ⟨some 45, none, .bin .add (.t 41) (.t 44)⟩, ⟨some 46, none, .bin .add (.t 34) (.t 45)⟩, ⟨some 3, none, .mov (.t 46)⟩] [[], [], [1], [1, 2], [], [4], [1, 2, 3, 4, 5], [1, 2, 3, 4, 5, 6], [], [8], [1, 2, 3, 4, 5, 6, 8, 9], [1, 2, 3, 4, 5, 6, 7, 8, 9, 10], [0, 1, 2, 3, 4, 5, 6, 7, 8, 9, 10, 11], [0, 1, 2, 3, 4, 5, 6, 7, 8, 9, 10, 11, 12]]))) (.reg [⟨some 23, none, .mov (.t 5)⟩, ⟨some 24, none, .bin .add (.t 23) (.c (.pv (.int .i64 1)))⟩, ⟨some 5, none, .mov (.t 24)⟩]))))))) (.reg [⟨some 12, none, .mov (.t 4)⟩, ⟨some 13, none, .bin .add (.t 12) (.c (.pv (.int .i64 1)))⟩, ⟨some 4, none, .mov (.t 13)⟩])))))) (.seq (.reg [⟨some 47, none, .mov (.t 3)⟩, ⟨some 2, none, .mov (.t 47)⟩]) (.ret))))
theorem k_retargetref08_Nodes : FnOk Tryd.prog 25 48 c_retargetref08_Nodes [.tmp 2] := .mk' (fn := Tryd.f25) rfl rfl (by kernel_rfl) rfl (by kernel_rfl) (by kernel_rfl)
/- "retarget/retargetref08.Check" -/
def c_retargetref08_Check : C :=
.seq (.reg [⟨some 1, none, .box 7 (.t 0)⟩, ⟨some 2, none, .mov (.c (.pv (.int .i64 0)))⟩]) (.seq (.seq (.reg [⟨some 6, none, .load (some 7) (.t 1)⟩, ⟨some 7, none, .callf 64 [(.t 6)]⟩, ⟨some 8, none, .un .not (.t 7)⟩]) (.cond (.t 8) (.seq (.reg [⟨some 2, none, .mov (.c (.pv (.int .i64 4)))⟩]) (.ret)) (.skip))) (.seq (.seq (.reg [⟨some 9, none, .fad 0 (.t 1)⟩, ⟨some 10, none, .load none (.t 9)⟩, ⟨some 11, none, .callf 65 [(.t 10)]⟩, ⟨some 12, none, .un .not (.t 11)⟩, ⟨some 13, none, .mov (.t 12)⟩, ⟨some 14, some (13, false), .fad 1 (.t 1)⟩, ⟨some 15, some (13, false), .load none (.t 14)⟩, ⟨some 16, some (13, false), .callf 66 [(.t 15), (.c (.pv (.int .i64 1))), (.c (.pv (.int .i64 4)))]⟩, ⟨some 17, some (13, false), .un .not (.t 16)⟩, ⟨some 18, none, .lor (.t 13) (.t 17)⟩, ⟨some 19, none, .mov (.t 18)⟩, ⟨some 20, some (19, false), .fad 2 (.t 1)⟩, ⟨some 21, some (19, false), .load none (.t 20)⟩, ⟨some 22, some (19, false), .bin .neq (.t 21) (.c (.pv (.int .i64 16)))⟩, ⟨some 23, some (19, false), .mov (.t 22)⟩, ⟨some 24, some (23, true), .fad 2 (.t 1)⟩, ⟨some 25, some (23, true), .load none (.t 24)⟩, ⟨some 26, some (23, true), .bin .neq (.t 25) (.c (.pv (.int .i64 32)))⟩, ⟨some 27, some (19, false), .land (.t 23) (.t 26)⟩, ⟨some 28, none, .lor (.t 19) (.t 27)⟩, ⟨some 29, none, .mov (.t 28)⟩, ⟨some 30, some (29, false), .load (some 7) (.t 1)⟩, ⟨some 31, some (29, false), .callf 67 [(.t 30)]⟩, ⟨some 32, some (29, false), .un .not (.t 31)⟩, ⟨some 33, none, .lor (.t 29) (.t 32)⟩, ⟨some 34, none, .mov (.t 33)⟩, ⟨some 35, some (34, false), .load (some 7) (.t 1)⟩, ⟨some 36, some (34, false), .callf 68 [(.t 35)]⟩, ⟨some 37, some (34, false), .un .not (.t 36)⟩, ⟨some 38, none, .lor (.t 34) (.t 37)⟩, ⟨some 39, none, .mov (.t 38)⟩, ⟨some 40, some (39, false), .load (some 7) (.t 1)⟩, ⟨some 41, some (39, false), .callf 69 [(.t 40)]⟩, ⟨some 42, some (39, false), .un .not (.t 41)⟩, ⟨some 43, none, .lor (.t 39) (.t 42)⟩]) (.cond (.t 43) (.seq (.reg [⟨some 2, none, .mov (.c (.pv (.int .i64 8)))⟩]) (.ret)) (.skip))) (.seq (.seq (.reg [⟨some 3, none, .mov (.c (.pv (.int .i64 0)))⟩]) (.blk 0 (.loop ⟨[1, 3], [0], 1⟩ (.seq (.seq (.reg [⟨some 44, none, .mov (.t 3)⟩, ⟨some 45, none, .fad 6 (.t 1)⟩, ⟨some 46, none, .load none (.t 45)⟩, ⟨some 47, none, .len (.t 46)⟩, ⟨some 48, none, .bin .lss (.t 44) (.t 47)⟩]) (.cond (.t 48) (.skip) (.ext 0))) (.seq (.blk 1 (.seq (.reg [⟨some 51, none, .fad 6 (.t 1)⟩, ⟨some 52, none, .load none (.t 51)⟩, ⟨some 53, none, .mov (.t 3)⟩, ⟨some 54, none, .iad 9 (.t 52) (.t 53)⟩, ⟨some 55, none, .load (some 9) (.t 54)⟩, ⟨some 4, none, .alloc [.pv (.str ⟨#[]⟩), .pv (.int .u64 0), .pv (.int .u64 0), .nilS 6, .nilS 21, .pv (.int .i64 0), .pv (.int .i64 0), .pv (.int .i64 0), .pv (.int .i64 0)]⟩, ⟨none, none, .store 9 (.t 4) (.t 55)⟩]) (.seq (.seq (.reg [⟨some 56, none, .fad 0 (.t 4)⟩, ⟨some 57, none, .load none (.t 56)⟩, ⟨some 58, none, .callf 65 [(.t 57)]⟩, ⟨some 59, none, .un .not (.t 58)⟩, ⟨some 60, none, .mov (.t 59)⟩, ⟨some 61, some (60, false), .load (some 7) (.t 1)⟩, ⟨some 62, some (60, false), .load (some 9) (.t 4)⟩, ⟨some 63, some (60, false), .callf 70 [(.t 61), (.t 62)]⟩, ⟨some 64, some (60, false), .un .not (.t 63)⟩, ⟨some 65, none, .lor (.t 60) (.t 64)⟩]) (.cond (.t 65) (.seq (.reg [⟨some 2, none, .mov (.c (.pv (.int .i64 8)))⟩]) (.ret)) (.skip))) (.seq (.reg [⟨some 5, none, .mov (.c (.pv (.int .i64 0)))⟩]) (.blk 2 (.loop ⟨[1, 3, 4, 5], [0, 1], 2⟩ (.seq (.seq (.reg [⟨some 66, none, .mov (.t 5)⟩, ⟨some 67, none, .mov (.t 3)⟩, ⟨some 68, none, .bin .lss (.t 66) (.t 67)⟩]) (.cond (.t 68) (.skip) (.ext 2))) (.seq (.blk 3 (.seq (.dreg [⟨some 71, none, .fad 6 (.t 1)⟩, ⟨some 72, none, .load none (.t 71)⟩, ⟨some 73, none, .mov (.t 5)⟩, ⟨some 74, none, .iad 9 (.t 72) (.t 73)⟩, ⟨some 75, none, .fad 0 (.t 74)⟩, ⟨some 76, none, .load none (.t 75)⟩, ⟨some 77, none, .fad 0 (.t 4)⟩, ⟨some 78, none, .load none (.t 77)⟩, ⟨some 79, none, .bin .eql (.t 76) (.t 78)⟩] [[], [0], [], [0, 1, 2], [0, 1, 2, 3], [0, 1, 2, 3, 4], [], [6], [0, 1, 2, 3, 4, 5, 6, 7]]) (.cond (.t 79) (.seq (.reg [⟨some 2, none, .mov (.c (.pv (.int .i64 8)))⟩]) (.ret)) (.skip)))) (.reg [⟨some 69, none, .mov (.t 5)⟩, ⟨some 70, none, .bin .add (.t 69) (.c (.pv (.int .i64 1)))⟩, ⟨some 5, none, .mov (.t 70)⟩]))))))))) (.reg [⟨some 49, none, .mov (.t 3)⟩, ⟨some 50, none, .bin .add (.t 49) (.c (.pv (.int .i64 1)))⟩, ⟨some 3, none, .mov (.t 50)⟩])))))) (.seq (.reg [⟨some 2, none, .mov (.c (.pv (.int .i64 0)))⟩]) (.ret)))))
theorem k_retargetref08_Check : FnOk Tryd.prog 45 80 c_retargetref08_Check [.tmp 2] := .mk' (fn := Tryd.f45) rfl rfl (by kernel_rfl) rfl (by kernel_rfl) (by kernel_rfl)
/- "retarget/retargetref08.Below" -/
def c_retargetref08_Below : C :=
.seq (.reg [⟨some 4, none, .mov (.c (.pv (.bool false)))⟩]) (.seq (.seq (.reg [⟨some 5, none, .mov (.c (.pv (.int .i64 0)))⟩]) (.blk 0 (.loop ⟨[0, 1, 5], [], 0⟩ (.seq (.seq (.reg [⟨some 6, none, .mov (.t 5)⟩, ⟨some 7, none, .mov (.t 1)⟩, ⟨some 8, none, .bin .lss (.t 6) (.t 7)⟩]) (.cond (.t 8) (.skip) (.ext 0))) (.seq (.blk 1 (.reg [⟨some 11, none, .mov (.t 0)⟩, ⟨some 12, none, .bin .quo (.t 11) (.c (.pv (.int .u64 2)))⟩, ⟨some 0, none, .mov (.t 12)⟩])) (.reg [⟨some 9, none, .mov (.t 5)⟩, ⟨some 10, none, .bin .add (.t 9) (.c (.pv (.int .i64 1)))⟩, ⟨some 5, none, .mov (.t 10)⟩])))))) (.seq (.reg [⟨some 13, none, .mov (.t 0)⟩, ⟨some 14, none, .bin .eql (.t 13) (.c (.pv (.int .u64 0)))⟩, ⟨some 4, none, .mov (.t 14)⟩]) (.ret)))
theorem k_retargetref08_Below : FnOk Tryd.prog 46 15 c_retargetref08_Below [.tmp 4] := .mk' (fn := Tryd.f46) rfl rfl (by kernel_rfl) rfl (by kernel_rfl) (by kernel_rfl)
/- "retarget/retargetref08.within" -/
def c_retargetref08_within : C :=
.seq (.reg [⟨some 1, none, .box 7 (.t 0)⟩, ⟨some 2, none, .mov (.c (.pv (.bool false)))⟩]) (.seq (.seq (.reg [⟨some 6, none, .fad 3 (.t 1)⟩, ⟨some 7, none, .load none (.t 6)⟩, ⟨some 8, none, .len (.t 7)⟩, ⟨some 9, none, .bin .gtr (.t 8) (.c (.pv (.int .i64 64)))⟩, ⟨some 10, none, .mov (.t 9)⟩, ⟨some 11, some (10, false), .fad 4 (.t 1)⟩, ⟨some 12, some (10, false), .load none (.t 11)⟩, ⟨some 13, some (10, false), .len (.t 12)⟩, ⟨some 14, some (10, false), .bin .gtr (.t 13) (.c (.pv (.int .i64 16)))⟩, ⟨some 15, none, .lor (.t 10) (.t 14)⟩, ⟨some 16, none, .mov (.t 15)⟩, ⟨some 17, some (16, false), .fad 5 (.t 1)⟩, ⟨some 18, some (16, false), .load none (.t 17)⟩, ⟨some 19, some (16, false), .len (.t 18)⟩, ⟨some 20, some (16, false), .bin .gtr (.t 19) (.c (.pv (.int .i64 8)))⟩, ⟨some 21, none, .lor (.t 16) (.t 20)⟩, ⟨some 22, none, .mov (.t 21)⟩, ⟨some 23, some (22, false), .fad 6 (.t 1)⟩, ⟨some 24, some (22, false), .load none (.t 23)⟩, ⟨some 25, some (22, false), .len (.t 24)⟩, ⟨some 26, some (22, false), .bin .gtr (.t 25) (.c (.pv (.int .i64 64)))⟩, ⟨some 27, none, .lor (.t 22) (.t 26)⟩]) (.cond (.t 27) (.seq (.reg [⟨some 2, none, .mov (.c (.pv (.bool false)))⟩]) (.ret)) (.skip))) (.seq (.seq (.reg [⟨some 3, none, .mov (.c (.pv (.int .i64 0)))⟩]) (.blk 0 (.loop ⟨[1, 3], [0], 1⟩ (.seq (.seq (.reg [⟨some 28, none, .mov (.t 3)⟩, ⟨some 29, none, .fad 4 (.t 1)⟩, ⟨some 30, none, .load none (.t 29)⟩, ⟨some 31, none, .len (.t 30)⟩, ⟨some 32, none, .bin .lss (.t 28) (.t 31)⟩]) (.cond (.t 32) (.skip) (.ext 0))) (.seq (.blk 1 (.seq (.reg [⟨some 35, none, .fad 4 (.t 1)⟩, ⟨some 36, none, .load none (.t 35)⟩, ⟨some 37, none, .mov (.t 3)⟩, ⟨some 38, none, .iad 2 (.t 36) (.t 37)⟩, ⟨some 39, none, .fad 1 (.t 38)⟩, ⟨some 40, none, .load none (.t 39)⟩, ⟨some 41, none, .len (.t 40)⟩, ⟨some 42, none, .bin .gtr (.t 41) (.c (.pv (.int .i64 64)))⟩]) (.cond (.t 42) (.seq (.reg [⟨some 2, none, .mov (.c (.pv (.bool false)))⟩]) (.ret)) (.skip)))) (.reg [⟨some 33, none, .mov (.t 3)⟩, ⟨some 34, none, .bin .add (.t 33) (.c (.pv (.int .i64 1)))⟩, ⟨some 3, none, .mov (.t 34)⟩])))))) (.seq (.seq (.reg [⟨some 4, none, .mov (.c (.pv (.int .i64 0)))⟩]) (.blk 2 (.loop ⟨[1, 4], [0], 1⟩ (.seq (.seq (.reg [⟨some 43, none, .mov (.t 4)⟩, ⟨some 44, none, .fad 6 (.t 1)⟩, ⟨some 45, none, .load none (.t 44)⟩, ⟨some 46, none, .len (.t 45)⟩, ⟨some 47, none, .bin .lss (.t 43) (.t 46)⟩]) (.cond (.t 47) (.skip) (.ext 2))) (.seq (.blk 3 (.seq (.seq (.reg [⟨some 50, none, .fad 6 (.t 1)⟩, ⟨some 51, none, .load none (.t 50)⟩, ⟨some 52, none, .mov (.t 4)⟩, ⟨some 53, none, .iad 9 (.t 51) (.t 52)⟩, ⟨some 54, none, .fad 3 (.t 53)⟩, ⟨some 55, none, .load none (.t 54)⟩, ⟨some 56, none, .len (.t 55)⟩, ⟨some 57, none, .bin .gtr (.t 56) (.c (.pv (.int .i64 4)))⟩, ⟨some 58, none, .mov (.t 57)⟩, ⟨some 59, some (58, false), .fad 6 (.t 1)⟩, ⟨some 60, some (58, false), .load none (.t 59)⟩, ⟨some 61, some (58, false), .mov (.t 4)⟩, ⟨some 62, some (58, false), .iad 9 (.t 60) (.t 61)⟩, ⟨some 63, some (58, false), .fad 4 (.t 62)⟩, ⟨some 64, some (58, false), .load none (.t 63)⟩, ⟨some 65, some (58, false), .len (.t 64)⟩, ⟨some 66, some (58, false), .bin .gtr (.t 65) (.c (.pv (.int .i64 4)))⟩, ⟨some 67, none, .lor (.t 58) (.t 66)⟩]) (.cond (.t 67) (.seq (.reg [⟨some 2, none, .mov (.c (.pv (.bool false)))⟩]) (.ret)) (.skip))) (.seq (.reg [⟨some 5, none, .mov (.c (.pv (.int .i64 0)))⟩]) (.blk 4 (.loop ⟨[1, 4, 5], [0], 1⟩ (.seq (.seq (.reg [⟨some 68, none, .mov (.t 5)⟩, ⟨some 69, none, .fad 6 (.t 1)⟩, ⟨some 70, none, .load none (.t 69)⟩, ⟨some 71, none, .mov (.t 4)⟩, ⟨some 72, none, .iad 9 (.t 70) (.t 71)⟩, ⟨some 73, none, .fad 3 (.t 72)⟩, ⟨some 74, none, .load none (.t 73)⟩, ⟨some 75, none, .len (.t 74)⟩, ⟨some 76, none, .bin .lss (.t 68) (.t 75)⟩]) (.cond (.t 76) (.skip) (.ext 4))) (.seq (.blk 5 (.seq (.reg [⟨some 79, none, .fad 6 (.t 1)⟩, ⟨some 80, none, .load none (.t 79)⟩, ⟨some 81, none, .mov (.t 4)⟩, ⟨some 82, none, .iad 9 (.t 80) (.t 81)⟩, ⟨some 83, none, .fad 3 (.t 82)⟩, ⟨some 84, none, .load none (.t 83)⟩, ⟨some 85, none, .mov (.t 5)⟩, ⟨some 86, none, .iad 6 (.t 84) (.t 85)⟩, ⟨some 87, none, .fad 4 (.t 86)⟩, ⟨some 88, none, .load none (.t 87)⟩, ⟨some 89, none, .len (.t 88)⟩, ⟨some 90, none, .bin .gtr (.t 89) (.c (.pv (.int .i64 4)))⟩]) (.cond (.t 90) (.seq (.reg [⟨some 2, none, .mov (.c (.pv (.bool false)))⟩]) (.ret)) (.skip)))) (.reg [⟨some 77, none, .mov (.t 5)⟩, ⟨some 78, none, .bin .add (.t 77) (.c (.pv (.int .i64 1)))⟩, ⟨some 5, none, .mov (.t 78)⟩])))))))) (.reg [⟨some 48, none, .mov (.t 4)⟩, ⟨some 49, none, .bin .add (.t 48) (.c (.pv (.int .i64 1)))⟩, ⟨some 4, none, .mov (.t 49)⟩])))))) (.seq (.reg [⟨some 2, none, .mov (.c (.pv (.bool true)))⟩]) (.ret)))))
theorem k_retargetref08_within : FnOk Tryd.prog 64 91 c_retargetref08_within [.tmp 2] := .mk' (fn := Tryd.f64) rfl rfl (by kernel_rfl) rfl (by kernel_rfl) (by kernel_rfl)
/- "retarget/retargetref08.In" -/
def c_retargetref08_In : C :=
.seq (.reg [⟨some 6, none, .mov (.c (.pv (.bool false)))⟩]) (.seq (.reg [⟨some 7, none, .mov (.t 1)⟩, ⟨some 8, none, .mov (.t 0)⟩, ⟨some 9, none, .bin .leq (.t 7) (.t 8)⟩, ⟨some 10, none, .mov (.t 9)⟩, ⟨some 11, some (10, true), .mov (.t 0)⟩, ⟨some 12, some (10, true), .mov (.t 2)⟩, ⟨some 13, some (10, true), .bin .leq (.t 11) (.t 12)⟩, ⟨some 14, none, .land (.t 10) (.t 13)⟩, ⟨some 6, none, .mov (.t 14)⟩]) (.ret))
theorem k_retargetref08_In : FnOk Tryd.prog 66 15 c_retargetref08_In [.tmp 6] := .mk' (fn := Tryd.f66) rfl rfl (by kernel_rfl) rfl (by kernel_rfl) (by kernel_rfl)
/- "retarget/retargetref08.okRegs" -/
def c_retargetref08_okRegs : C :=
.seq (.reg [⟨some 1, none, .box 7 (.t 0)⟩, ⟨some 2, none, .mov (.c (.pv (.bool false)))⟩]) (.seq (.seq (.reg [⟨some 3, none, .mov (.c (.pv (.int .i64 0)))⟩]) (.blk 0 (.loop ⟨[1, 3], [0], 1⟩ (.seq (.seq (.reg [⟨some 7, none, .mov (.t 3)⟩, ⟨some 8, none, .fad 3 (.t 1)⟩, ⟨some 9, none, .load none (.t 8)⟩, ⟨some 10, none, .len (.t 9)⟩, ⟨some 11, none, .bin .lss (.t 7) (.t 10)⟩]) (.cond (.t 11) (.skip) (.ext 0))) (.seq (.blk 1 (.seq (.reg [⟨some 14, none, .fad 3 (.t 1)⟩, ⟨some 15, none, .load none (.t 14)⟩, ⟨some 16, none, .mov (.t 3)⟩, ⟨some 17, none, .iad 4 (.t 15) (.t 16)⟩, ⟨some 18, none, .load (some 4) (.t 17)⟩, ⟨some 4, none, .alloc [.pv (.str ⟨#[]⟩), .pv (.int .i64 0), .pv (.int .i64 0), .pv (.int .i64 0)]⟩, ⟨none, none, .store 4 (.t 4) (.t 18)⟩]) (.seq (.seq (.reg [⟨some 19, none, .fad 0 (.t 4)⟩, ⟨some 20, none, .load none (.t 19)⟩, ⟨some 21, none, .callf 65 [(.t 20)]⟩, ⟨some 22, none, .un .not (.t 21)⟩, ⟨some 23, none, .mov (.t 22)⟩, ⟨some 24, some (23, false), .fad 1 (.t 4)⟩, ⟨some 25, some (23, false), .load none (.t 24)⟩, ⟨some 26, some (23, false), .callf 66 [(.t 25), (.c (.pv (.int .i64 1))), (.c (.pv (.int .i64 64)))]⟩, ⟨some 27, some (23, false), .un .not (.t 26)⟩, ⟨some 28, none, .lor (.t 23) (.t 27)⟩]) (.cond (.t 28) (.seq (.reg [⟨some 2, none, .mov (.c (.pv (.bool false)))⟩]) (.ret)) (.skip))) (.seq (.seq (.reg [⟨some 5, none, .mov (.c (.pv (.int .i64 0)))⟩]) (.blk 2 (.loop ⟨[1, 3, 4, 5], [0, 1], 2⟩ (.seq (.seq (.reg [⟨some 29, none, .mov (.t 5)⟩, ⟨some 30, none, .mov (.t 3)⟩, ⟨some 31, none, .bin .lss (.t 29) (.t 30)⟩]) (.cond (.t 31) (.skip) (.ext 2))) (.seq (.blk 3 (.seq (.dreg [⟨some 34, none, .fad 3 (.t 1)⟩, ⟨some 35, none, .load none (.t 34)⟩, ⟨some 36, none, .mov (.t 5)⟩, ⟨some 37, none, .iad 4 (.t 35) (.t 36)⟩, ⟨some 38, none, .fad 0 (.t 37)⟩, ⟨some 39, none, .load none (.t 38)⟩, ⟨some 40, none, .fad 0 (.t 4)⟩, ⟨some 41, none, .load none (.t 40)⟩, ⟨some 42, none, .bin .eql (.t 39) (.t 41)⟩] [[], [0], [], [0, 1, 2], [0, 1, 2, 3], [0, 1, 2, 3, 4], [], [6], [0, 1, 2, 3, 4, 5, 6, 7]]) (.cond (.t 42) (.seq (.reg [⟨some 2, none, .mov (.c (.pv (.bool false)))⟩]) (.ret)) (.skip)))) (.reg [⟨some 32, none, .mov (.t 5)⟩, ⟨some 33, none, .bin .add (.t 32) (.c (.pv (.int .i64 1)))⟩, ⟨some 5, none, .mov (.t 33)⟩])))))) (.seq (.seq (.reg [⟨some 43, none, .fad 2 (.t 4)⟩, ⟨some 44, none, .load none (.t 43)⟩, ⟨some 45, none, .bin .eql (.t 44) (.c (.pv (.int .i64 (-1))))⟩]) (.cond (.t 45) (.seq (.seq (.reg [⟨some 46, none, .fad 3 (.t 4)⟩, ⟨some 47, none, .load none (.t 46)⟩, ⟨some 48, none, .bin .neq (.t 47) (.c (.pv (.int .i64 0)))⟩]) (.cond (.t 48) (.seq (.reg [⟨some 2, none, .mov (.c (.pv (.bool false)))⟩]) (.ret)) (.skip))) (.ext 1)) (.skip))) (.seq (.seq (.reg [⟨some 49, none, .fad 2 (.t 4)⟩, ⟨some 50, none, .load none (.t 49)⟩, ⟨some 51, none, .fad 3 (.t 1)⟩, ⟨some 52, none, .load none (.t 51)⟩, ⟨some 53, none, .len (.t 52)⟩, ⟨some 54, none, .bin .sub (.t 53) (.c (.pv (.int .i64 1)))⟩, ⟨some 55, none, .callf 66 [(.t 50), (.c (.pv (.int .i64 0))), (.t 54)]⟩, ⟨some 56, none, .un .not (.t 55)⟩]) (.cond (.t 56) (.seq (.reg [⟨some 2, none, .mov (.c (.pv (.bool false)))⟩]) (.ret)) (.skip))) (.seq (.reg [⟨some 57, none, .fad 3 (.t 1)⟩, ⟨some 58, none, .load none (.t 57)⟩, ⟨some 59, none, .fad 2 (.t 4)⟩, ⟨some 60, none, .load none (.t 59)⟩, ⟨some 61, none, .iad 4 (.t 58) (.t 60)⟩, ⟨some 62, none, .load (some 4) (.t 61)⟩, ⟨some 6, none, .alloc [.pv (.str ⟨#[]⟩), .pv (.int .i64 0), .pv (.int .i64 0), .pv (.int .i64 0)]⟩, ⟨none, none, .store 4 (.t 6) (.t 62)⟩]) (.seq (.reg [⟨some 63, none, .fad 2 (.t 6)⟩, ⟨some 64, none, .load none (.t 63)⟩, ⟨some 65, none, .bin .neq (.t 64) (.c (.pv (.int .i64 (-1))))⟩, ⟨some 66, none, .mov (.t 65)⟩, ⟨some 67, some (66, false), .fad 1 (.t 6)⟩, ⟨some 68, some (66, false), .load none (.t 67)⟩, ⟨some 69, some (66, false), .callf 66 [(.t 68), (.c (.pv (.int .i64 1))), (.c (.pv (.int .i64 64)))]⟩, ⟨some 70, some (66, false), .un .not (.t 69)⟩, ⟨some 71, none, .lor (.t 66) (.t 70)⟩, ⟨some 72, none, .mov (.t 71)⟩, ⟨some 73, some (72, false), .fad 1 (.t 4)⟩, ⟨some 74, some (72, false), .load none (.t 73)⟩, ⟨some 75, some (72, false), .fad 1 (.t 6)⟩, ⟨some 76, some (72, false), .load none (.t 75)⟩, ⟨some 77, some (72, false), .bin .geq (.t 74) (.t 76)⟩, ⟨some 78, none, .lor (.t 72) (.t 77)⟩, ⟨some 79, none, .mov (.t 78)⟩, ⟨some 80, some (79, false), .fad 3 (.t 4)⟩, ⟨some 81, some (79, false), .load none (.t 80)⟩, ⟨some 82, some (79, false), .fad 1 (.t 6)⟩, ⟨some 83, some (79, false), .load none (.t 82)⟩, ⟨some 84, some (79, false), .fad 1 (.t 4)⟩, ⟨some 85, some (79, false), .load none (.t 84)⟩, ⟨some 86, some (79, false), .bin .sub (.t 83) (.t 85)⟩, ⟨some 87, some (79, false), .callf 66 [(.t 81), (.c (.pv (.int .i64 0))), (.t 86)]⟩, ⟨some 88, some (79, false), .un .not (.t 87)⟩, ⟨some 89, none, .lor (.t 79) (.t 88)⟩]) (.cond (.t 89) (.seq (.reg [⟨some 2, none, .mov (.c (.pv (.bool false)))⟩]) (.ret)) (.skip)))))))))) (.reg [⟨some 12, none, .mov (.t 3)⟩, ⟨some 13, none, .bin .add (.t 12) (.c (.pv (.int .i64 1)))⟩, ⟨some 3, none, .mov (.t 13)⟩])))))) (.seq (.reg [⟨some 90, none, .fad 3 (.t 1)⟩, ⟨some 91, none, .load none (.t 90)⟩, ⟨some 92, none, .len (.t 91)⟩, ⟨some 93, none, .bin .gtr (.t 92) (.c (.pv (.int .i64 0)))⟩, ⟨some 2, none, .mov (.t 93)⟩]) (.ret)))
theorem k_retargetref08_okRegs : FnOk Tryd.prog 67 94 c_retargetref08_okRegs [.tmp 2] := .mk' (fn := Tryd.f67) rfl rfl (by kernel_rfl) rfl (by kernel_rfl) (by kernel_rfl)
/- "retarget/retargetref08.okBanks" -/
def c_retargetref08_okBanks : C :=
.seq (.reg [⟨some 1, none, .box 7 (.t 0)⟩, ⟨some 2, none, .mov (.c (.pv (.bool false)))⟩]) (.seq (.seq (.reg [⟨some 3, none, .mov (.c (.pv (.int .i64 0)))⟩]) (.blk 0 (.loop ⟨[1, 3], [0], 1⟩ (.seq (.seq (.reg [⟨some 8, none, .mov (.t 3)⟩, ⟨some 9, none, .fad 4 (.t 1)⟩, ⟨some 10, none, .load none (.t 9)⟩, ⟨some 11, none, .len (.t 10)⟩, ⟨some 12, none, .bin .lss (.t 8) (.t 11)⟩]) (.cond (.t 12) (.skip) (.ext 0))) (.seq (.blk 1 (.seq (.reg [⟨some 15, none, .fad 4 (.t 1)⟩, ⟨some 16, none, .load none (.t 15)⟩, ⟨some 17, none, .mov (.t 3)⟩, ⟨some 18, none, .iad 2 (.t 16) (.t 17)⟩, ⟨some 19, none, .load (some 2) (.t 18)⟩, ⟨some 4, none, .alloc [.pv (.str ⟨#[]⟩), .nilS 1]⟩, ⟨none, none, .store 2 (.t 4) (.t 19)⟩]) (.seq (.seq (.reg [⟨some 20, none, .fad 0 (.t 4)⟩, ⟨some 21, none, .load none (.t 20)⟩, ⟨some 22, none, .callf 65 [(.t 21)]⟩, ⟨some 23, none, .un .not (.t 22)⟩, ⟨some 24, none, .mov (.t 23)⟩, ⟨some 25, some (24, false), .fad 1 (.t 4)⟩, ⟨some 26, some (24, false), .load none (.t 25)⟩, ⟨some 27, some (24, false), .len (.t 26)⟩, ⟨some 28, some (24, false), .bin .eql (.t 27) (.c (.pv (.int .i64 0)))⟩, ⟨some 29, none, .lor (.t 24) (.t 28)⟩]) (.cond (.t 29) (.seq (.reg [⟨some 2, none, .mov (.c (.pv (.bool false)))⟩]) (.ret)) (.skip))) (.seq (.seq (.reg [⟨some 5, none, .mov (.c (.pv (.int .i64 0)))⟩]) (.blk 2 (.loop ⟨[1, 3, 4, 5], [0, 1], 2⟩ (.seq (.seq (.reg [⟨some 30, none, .mov (.t 5)⟩, ⟨some 31, none, .mov (.t 3)⟩, ⟨some 32, none, .bin .lss (.t 30) (.t 31)⟩]) (.cond (.t 32) (.skip) (.ext 2))) (.seq (.blk 3 (.seq (.dreg [⟨some 35, none, .fad 4 (.t 1)⟩, ⟨some 36, none, .load none (.t 35)⟩, ⟨some 37, none, .mov (.t 5)⟩, ⟨some 38, none, .iad 2 (.t 36) (.t 37)⟩, ⟨some 39, none, .fad 0 (.t 38)⟩, ⟨some 40, none, .load none (.t 39)⟩, ⟨some 41, none, .fad 0 (.t 4)⟩, ⟨some 42, none, .load none (.t 41)⟩, ⟨some 43, none, .bin .eql (.t 40) (.t 42)⟩] [[], [0], [], [0, 1, 2], [0, 1, 2, 3], [0, 1, 2, 3, 4], [], [6], [0, 1, 2, 3, 4, 5, 6, 7]]) (.cond (.t 43) (.seq (.reg [⟨some 2, none, .mov (.c (.pv (.bool false)))⟩]) (.ret)) (.skip)))) (.reg [⟨some 33, none, .mov (.t 5)⟩, ⟨some 34, none, .bin .add (.t 33) (.c (.pv (.int .i64 1)))⟩, ⟨some 5, none, .mov (.t 34)⟩])))))) (.seq (.reg [⟨some 6, none, .mov (.c (.pv (.int .i64 0)))⟩]) (.blk 4 (.loop ⟨[1, 3, 4, 6], [0, 1], 2⟩ (.seq (.seq (.reg [⟨some 44, none, .mov (.t 6)⟩, ⟨some 45, none, .fad 1 (.t 4)⟩, ⟨some 46, none, .load none (.t 45)⟩, ⟨some 47, none, .len (.t 46)⟩, ⟨some 48, none, .bin .lss (.t 44) (.t 47)⟩]) (.cond (.t 48) (.skip) (.ext 4))) (.seq (.blk 5 (.seq (.seq (.dreg [⟨some 51, none, .fad 1 (.t 4)⟩, ⟨some 52, none, .load none (.t 51)⟩, ⟨some 53, none, .mov (.t 6)⟩, ⟨some 54, none, .iad 1 (.t 52) (.t 53)⟩, ⟨some 55, none, .load none (.t 54)⟩, ⟨some 56, none, .fad 3 (.t 1)⟩, ⟨some 57, none, .load none (.t 56)⟩, ⟨some 58, none, .len (.t 57)⟩, ⟨some 59, none, .bin .sub (.t 58) (.c (.pv (.int .i64 1)))⟩, ⟨some 60, none, .callf 66 [(.t 55), (.c (.pv (.int .i64 0))), (.t 59)]⟩, ⟨some 61, none, .un .not (.t 60)⟩] [[], [0], [], [0, 1, 2], [0, 1, 2, 3], [], [5], [5, 6], [5, 6, 7], [0, 1, 2, 3, 4, 5, 6, 7, 8], [0, 1, 2, 3, 4, 5, 6, 7, 8, 9]]) (.cond (.t 61) (.seq (.reg [⟨some 2, none, .mov (.c (.pv (.bool false)))⟩]) (.ret)) (.skip))) (.seq (.seq (.reg [⟨some 7, none, .mov (.c (.pv (.int .i64 0)))⟩]) (.blk 6 (.loop ⟨[1, 3, 4, 6, 7], [0, 1], 13⟩ (.seq (.seq (.reg [⟨some 62, none, .mov (.t 7)⟩, ⟨some 63, none, .mov (.t 6)⟩, ⟨some 64, none, .bin .lss (.t 62) (.t 63)⟩]) (.cond (.t 64) (.skip) (.ext 6))) (.seq (.blk 7 (.seq (.dreg [⟨some 67, none, .fad 1 (.t 4)⟩, ⟨some 68, none, .load none (.t 67)⟩, ⟨some 69, none, .mov (.t 7)⟩, ⟨some 70, none, .iad 1 (.t 68) (.t 69)⟩, ⟨some 71, none, .load none (.t 70)⟩, ⟨some 72, none, .fad 1 (.t 4)⟩, ⟨some 73, none, .load none (.t 72)⟩, ⟨some 74, none, .mov (.t 6)⟩, ⟨some 75, none, .iad 1 (.t 73) (.t 74)⟩, ⟨some 76, none, .load none (.t 75)⟩, ⟨some 77, none, .bin .eql (.t 71) (.t 76)⟩] [[], [0], [], [0, 1, 2], [0, 1, 2, 3], [], [5], [], [5, 6, 7], [5, 6, 7, 8], [0, 1, 2, 3, 4, 5, 6, 7, 8, 9]]) (.cond (.t 77) (.seq (.reg [⟨some 2, none, .mov (.c (.pv (.bool false)))⟩]) (.ret)) (.skip)))) (.reg [⟨some 65, none, .mov (.t 7)⟩, ⟨some 66, none, .bin .add (.t 65) (.c (.pv (.int .i64 1)))⟩, ⟨some 7, none, .mov (.t 66)⟩])))))) (.seq (.dreg [⟨some 78, none, .fad 3 (.t 1)⟩, ⟨some 79, none, .load none (.t 78)⟩, ⟨some 80, none, .fad 1 (.t 4)⟩, ⟨some 81, none, .load none (.t 80)⟩, ⟨some 82, none, .mov (.t 6)⟩, ⟨some 83, none, .iad 1 (.t 81) (.t 82)⟩, ⟨some 84, none, .load none (.t 83)⟩, ⟨some 85, none, .iad 4 (.t 79) (.t 84)⟩, ⟨some 86, none, .fad 1 (.t 85)⟩, ⟨some 87, none, .load none (.t 86)⟩, ⟨some 88, none, .fad 3 (.t 1)⟩, ⟨some 89, none, .load none (.t 88)⟩, ⟨some 90, none, .fad 1 (.t 4)⟩, ⟨some 91, none, .load none (.t 90)⟩, ⟨some 92, none, .iad 1 (.t 91) (.c (.pv (.int .i64 0)))⟩, ⟨some 93, none, .load none (.t 92)⟩, ⟨some 94, none, .iad 4 (.t 89) (.t 93)⟩, ⟨some 95, none, .fad 1 (.t 94)⟩, ⟨some 96, none, .load none (.t 95)⟩, ⟨some 97, none, .bin .neq (.t 87) (.t 96)⟩] [[], [0], [], [2], [], [2, 3, 4], [2, 3, 4, 5], [0, 1, 2, 3, 4, 5, 6], [0, 1, 2, 3, 4, 5, 6, 7], [0, 1, 2, 3, 4, 5, 6, 7, 8], [], [10], [], [12], [12, 13], [12, 13, 14], [10, 11, 12, 13, 14, 15], [10, 11, 12, 13, 14, 15, 16], [10, 11, 12, 13, 14, 15, 16, 17], [0, 1, 2, 3, 4, 5, 6, 7, 8, 9, 10, 11, 12, 13, 14, 15, 16, 17, 18]]) (.cond (.t 97) (.seq (.reg [⟨some 2, none, .mov (.c (.pv (.bool false)))⟩]) (.ret)) (.skip)))))) (.reg [⟨some 49, none, .mov (.t 6)⟩, ⟨some 50, none, .bin .add (.t 49) (.c (.pv (.int .i64 1)))⟩, ⟨some 6, none, .mov (.t 50)⟩])))))))))) (.reg [⟨some 13, none, .mov (.t 3)⟩, ⟨some 14, none, .bin .add (.t 13) (.c (.pv (.int .i64 1)))⟩, ⟨some 3, none, .mov (.t 14)⟩])))))) (.seq (.reg [⟨some 2, none, .mov (.c (.pv (.bool true)))⟩]) (.ret)))
theorem k_retargetref08_okBanks : FnOk Tryd.prog 68 98 c_retargetref08_okBanks [.tmp 2] := .mk' (fn := Tryd.f68) rfl rfl (by kernel_rfl) rfl (by kernel_rfl) (by kernel_rfl)
/- "retarget/retargetref08.okUnits" -/
def c_retargetref08_okUnits : C :=
.seq (.reg [⟨some 1, none, .box 7 (.t 0)⟩, ⟨some 2, none, .mov (.c (.pv (.bool false)))⟩]) (.seq (.seq (.reg [⟨some 3, none, .mov (.c (.pv (.int .i64 0)))⟩]) (.blk 0 (.loop ⟨[1, 3], [0], 1⟩ (.seq (.seq (.reg [⟨some 5, none, .mov (.t 3)⟩, ⟨some 6, none, .fad 5 (.t 1)⟩, ⟨some 7, none, .load none (.t 6)⟩, ⟨some 8, none, .len (.t 7)⟩, ⟨some 9, none, .bin .lss (.t 5) (.t 8)⟩]) (.cond (.t 9) (.skip) (.ext 0))) (.seq (.blk 1 (.seq (.seq (.reg [⟨some 12, none, .fad 5 (.t 1)⟩, ⟨some 13, none, .load none (.t 12)⟩, ⟨some 14, none, .mov (.t 3)⟩, ⟨some 15, none, .iad 2 (.t 13) (.t 14)⟩, ⟨some 16, none, .fad 0 (.t 15)⟩, ⟨some 17, none, .load none (.t 16)⟩, ⟨some 18, none, .callf 65 [(.t 17)]⟩, ⟨some 19, none, .un .not (.t 18)⟩, ⟨some 20, none, .mov (.t 19)⟩, ⟨some 21, some (20, false), .fad 5 (.t 1)⟩, ⟨some 22, some (20, false), .load none (.t 21)⟩, ⟨some 23, some (20, false), .mov (.t 3)⟩, ⟨some 24, some (20, false), .iad 2 (.t 22) (.t 23)⟩, ⟨some 25, some (20, false), .fad 1 (.t 24)⟩, ⟨some 26, some (20, false), .load none (.t 25)⟩, ⟨some 27, some (20, false), .callf 66 [(.t 26), (.c (.pv (.int .i64 1))), (.c (.pv (.int .i64 4)))]⟩, ⟨some 28, some (20, false), .un .not (.t 27)⟩, ⟨some 29, none, .lor (.t 20) (.t 28)⟩]) (.cond (.t 29) (.seq (.reg [⟨some 2, none, .mov (.c (.pv (.bool false)))⟩]) (.ret)) (.skip))) (.seq (.reg [⟨some 4, none, .mov (.c (.pv (.int .i64 0)))⟩]) (.blk 2 (.loop ⟨[1, 3, 4], [0], 1⟩ (.seq (.seq (.reg [⟨some 30, none, .mov (.t 4)⟩, ⟨some 31, none, .mov (.t 3)⟩, ⟨some 32, none, .bin .lss (.t 30) (.t 31)⟩]) (.cond (.t 32) (.skip) (.ext 2))) (.seq (.blk 3 (.seq (.dreg [⟨some 35, none, .fad 5 (.t 1)⟩, ⟨some 36, none, .load none (.t 35)⟩, ⟨some 37, none, .mov (.t 4)⟩, ⟨some 38, none, .iad 2 (.t 36) (.t 37)⟩, ⟨some 39, none, .fad 0 (.t 38)⟩, ⟨some 40, none, .load none (.t 39)⟩, ⟨some 41, none, .fad 5 (.t 1)⟩, ⟨some 42, none, .load none (.t 41)⟩, ⟨some 43, none, .mov (.t 3)⟩, ⟨some 44, none, .iad 2 (.t 42) (.t 43)⟩, ⟨some 45, none, .fad 0 (.t 44)⟩, ⟨some 46, none, .load none (.t 45)⟩, ⟨some 47, none, .bin .eql (.t 40) (.t 46)⟩] [[], [0], [], [0, 1, 2], [0, 1, 2, 3], [0, 1, 2, 3, 4], [], [6], [], [6, 7, 8], [6, 7, 8, 9], [6, 7, 8, 9, 10], [0, 1, 2, 3, 4, 5, 6, 7, 8, 9, 10, 11]]) (.cond (.t 47) (.seq (.reg [⟨some 2, none, .mov (.c (.pv (.bool false)))⟩]) (.ret)) (.skip)))) (.reg [⟨some 33, none, .mov (.t 4)⟩, ⟨some 34, none, .bin .add (.t 33) (.c (.pv (.int .i64 1)))⟩, ⟨some 4, none, .mov (.t 34)⟩])))))))) (.reg [⟨some 10, none, .mov (.t 3)⟩, ⟨some 11, none, .bin .add (.t 10) (.c (.pv (.int .i64 1)))⟩, ⟨some 3, none, .mov (.t 11)⟩])))))) (.seq (.reg [⟨some 48, none, .fad 5 (.t 1)⟩, ⟨some 49, none, .load none (.t 48)⟩, ⟨some 50, none, .len (.t 49)⟩, ⟨some 51, none, .bin .gtr (.t 50) (.c (.pv (.int .i64 0)))⟩, ⟨some 2, none, .mov (.t 51)⟩]) (.ret)))
theorem k_retargetref08_okUnits : FnOk Tryd.prog 69 52 c_retargetref08_okUnits [.tmp 2] := .mk' (fn := Tryd.f69) rfl rfl (by kernel_rfl) rfl (by kernel_rfl) (by kernel_rfl)
/- "retarget/retargetref08.okInstr" -/
def c_retargetref08_okInstr : C :=
.seq (.reg [⟨some 2, none, .box 7 (.t 0)⟩, ⟨some 3, none, .box 9 (.t 1)⟩, ⟨some 4, none, .mov (.c (.pv (.bool false)))⟩]) (.seq (.seq (.reg [⟨some 10, none, .fad 1 (.t 3)⟩, ⟨some 11, none, .load none (.t 10)⟩, ⟨some 12, none, .fad 1 (.t 2)⟩, ⟨some 13, none, .load none (.t 12)⟩, ⟨some 14, none, .bin .mul (.c (.pv (.int .i64 8))) (.t 13)⟩, ⟨some 15, none, .callf 46 [(.t 11), (.t 14)]⟩, ⟨some 16, none, .un .not (.t 15)⟩]) (.cond (.t 16) (.seq (.reg [⟨some 4, none, .mov (.c (.pv (.bool false)))⟩]) (.ret)) (.skip))) (.seq (.seq (.reg [⟨some 5, none, .mov (.c (.pv (.int .i64 0)))⟩]) (.blk 0 (.loop ⟨[2, 3, 5], [0, 1], 2⟩ (.seq (.seq (.reg [⟨some 17, none, .mov (.t 5)⟩, ⟨some 18, none, .bin .lss (.t 17) (.c (.pv (.int .i64 64)))⟩]) (.cond (.t 18) (.skip) (.ext 0))) (.seq (.blk 1 (.seq (.dreg [⟨some 21, none, .fad 2 (.t 3)⟩, ⟨some 22, none, .load none (.t 21)⟩, ⟨some 23, none, .mov (.t 5)⟩, ⟨some 24, none, .callf 85 [(.t 22), (.t 23)]⟩, ⟨some 25, none, .fad 1 (.t 3)⟩, ⟨some 26, none, .load none (.t 25)⟩, ⟨some 27, none, .mov (.t 5)⟩, ⟨some 28, none, .callf 85 [(.t 26), (.t 27)]⟩, ⟨some 29, none, .bin .gtr (.t 24) (.t 28)⟩] [[], [0], [], [0, 1, 2], [], [4], [], [0, 1, 2, 3, 4, 5, 6], [0, 1, 2, 3, 4, 5, 6, 7]]) (.cond (.t 29) (.seq (.reg [⟨some 4, none, .mov (.c (.pv (.bool false)))⟩]) (.ret)) (.skip)))) (.reg [⟨some 19, none, .mov (.t 5)⟩, ⟨some 20, none, .bin .add (.t 19) (.c (.pv (.int .i64 1)))⟩, ⟨some 5, none, .mov (.t 20)⟩])))))) (.seq (.seq (.reg [⟨some 6, none, .mov (.c (.pv (.int .i64 0)))⟩]) (.blk 2 (.loop ⟨[2, 3, 6], [0, 1], 2⟩ (.seq (.seq (.reg [⟨some 30, none, .mov (.t 6)⟩, ⟨some 31, none, .fad 3 (.t 3)⟩, ⟨some 32, none, .load none (.t 31)⟩, ⟨some 33, none, .len (.t 32)⟩, ⟨some 34, none, .bin .lss (.t 30) (.t 33)⟩]) (.cond (.t 34) (.skip) (.ext 2))) (.seq (.blk 3 (.seq (.reg [⟨some 37, none, .load (some 7) (.t 2)⟩, ⟨some 38, none, .load (some 9) (.t 3)⟩, ⟨some 39, none, .mov (.t 6)⟩, ⟨some 40, none, .callf 86 [(.t 37), (.t 38), (.t 39)]⟩, ⟨some 41, none, .un .not (.t 40)⟩]) (.cond (.t 41) (.seq (.reg [⟨some 4, none, .mov (.c (.pv (.bool false)))⟩]) (.ret)) (.skip)))) (.reg [⟨some 35, none, .mov (.t 6)⟩, ⟨some 36, none, .bin .add (.t 35) (.c (.pv (.int .i64 1)))⟩, ⟨some 6, none, .mov (.t 36)⟩])))))) (.seq (.seq (.reg [⟨some 42, none, .load (some 7) (.t 2)⟩, ⟨some 43, none, .load (some 9) (.t 3)⟩, ⟨some 44, none, .callf 87 [(.t 42), (.t 43)]⟩, ⟨some 45, none, .un .not (.t 44)⟩]) (.cond (.t 45) (.seq (.reg [⟨some 4, none, .mov (.c (.pv (.bool false)))⟩]) (.ret)) (.skip))) (.seq (.reg [⟨some 7, none, .mov (.c (.pv (.int .i64 0)))⟩, ⟨some 8, none, .mov (.c (.pv (.int .i64 0)))⟩]) (.seq (.seq (.reg [⟨some 9, none, .mov (.c (.pv (.int .i64 0)))⟩]) (.blk 4 (.loop ⟨[2, 3, 7, 8, 9], [0, 1], 2⟩ (.seq (.seq (.reg [⟨some 46, none, .mov (.t 9)⟩, ⟨some 47, none, .fad 4 (.t 3)⟩, ⟨some 48, none, .load none (.t 47)⟩, ⟨some 49, none, .len (.t 48)⟩, ⟨some 50, none, .bin .lss (.t 46) (.t 49)⟩]) (.cond (.t 50) (.skip) (.ext 4))) (.seq (.blk 5 (.seq (.seq (.dreg [⟨some 53, none, .load (some 7) (.t 2)⟩, ⟨some 54, none, .load (some 9) (.t 3)⟩, ⟨some 55, none, .fad 4 (.t 3)⟩, ⟨some 56, none, .load none (.t 55)⟩, ⟨some 57, none, .mov (.t 9)⟩, ⟨some 58, none, .iad 21 (.t 56) (.t 57)⟩, ⟨some 59, none, .load (some 21) (.t 58)⟩, ⟨some 60, none, .callf 88 [(.t 53), (.t 54), (.t 59)]⟩, ⟨some 61, none, .un .not (.t 60)⟩] [[], [], [], [2], [], [2, 3, 4], [2, 3, 4, 5], [0, 1, 2, 3, 4, 5, 6], [0, 1, 2, 3, 4, 5, 6, 7]]) (.cond (.t 61) (.seq (.reg [⟨some 4, none, .mov (.c (.pv (.bool false)))⟩]) (.ret)) (.skip))) (.seq (.seq (.reg [⟨some 62, none, .fad 4 (.t 3)⟩, ⟨some 63, none, .load none (.t 62)⟩, ⟨some 64, none, .mov (.t 9)⟩, ⟨some 65, none, .iad 21 (.t 63) (.t 64)⟩, ⟨some 66, none, .fad 0 (.t 65)⟩, ⟨some 67, none, .load none (.t 66)⟩, ⟨some 68, none, .bin .eql (.t 67) (.c (.pv (.int .u8 3)))⟩]) (.cond (.t 68) (.reg [⟨some 69, none, .mov (.t 7)⟩, ⟨some 70, none, .bin .add (.t 69) (.c (.pv (.int .i64 1)))⟩, ⟨some 7, none, .mov (.t 70)⟩]) (.skip))) (.seq (.reg [⟨some 71, none, .fad 4 (.t 3)⟩, ⟨some 72, none, .load none (.t 71)⟩, ⟨some 73, none, .mov (.t 9)⟩, ⟨some 74, none, .iad 21 (.t 72) (.t 73)⟩, ⟨some 75, none, .fad 0 (.t 74)⟩, ⟨some 76, none, .load none (.t 75)⟩, ⟨some 77, none, .bin .eql (.t 76) (.c (.pv (.int .u8 4)))⟩]) (.cond (.t 77) (.reg [⟨some 78, none, .mov (.t 8)⟩, ⟨some 79, none, .bin .add (.t 78) (.c (.pv (.int .i64 1)))⟩, ⟨some 8, none, .mov (.t 79)⟩]) (.skip)))))) (.reg [⟨some 51, none, .mov (.t 9)⟩, ⟨some 52, none, .bin .add (.t 51) (.c (.pv (.int .i64 1)))⟩, ⟨some 9, none, .mov (.t 52)⟩])))))) (.seq (.seq (.reg [⟨some 80, none, .mov (.t 7)⟩, ⟨some 81, none, .bin .gtr (.t 80) (.c (.pv (.int .i64 1)))⟩, ⟨some 82, none, .mov (.t 81)⟩, ⟨some 83, some (82, false), .mov (.t 8)⟩, ⟨some 84, some (82, false), .bin .gtr (.t 83) (.c (.pv (.int .i64 0)))⟩, ⟨some 85, some (82, false), .mov (.t 84)⟩, ⟨some 86, some (85, true), .fad 4 (.t 3)⟩, ⟨some 87, some (85, true), .load none (.t 86)⟩, ⟨some 88, some (85, true), .len (.t 87)⟩, ⟨some 89, some (85, true), .bin .gtr (.t 88) (.c (.pv (.int .i64 1)))⟩, ⟨some 90, some (82, false), .land (.t 85) (.t 89)⟩, ⟨some 91, none, .lor (.t 82) (.t 90)⟩]) (.cond (.t 91) (.seq (.reg [⟨some 4, none, .mov (.c (.pv (.bool false)))⟩]) (.ret)) (.skip))) (.seq (.reg [⟨some 92, none, .fad 5 (.t 3)⟩, ⟨some 93, none, .load none (.t 92)⟩, ⟨some 94, none, .fad 5 (.t 2)⟩, ⟨some 95, none, .load none (.t 94)⟩, ⟨some 96, none, .len (.t 95)⟩, ⟨some 97, none, .bin .sub (.t 96) (.c (.pv (.int .i64 1)))⟩, ⟨some 98, none, .callf 66 [(.t 93), (.c (.pv (.int .i64 0))), (.t 97)]⟩, ⟨some 99, none, .mov (.t 98)⟩, ⟨some 100, some (99, true), .fad 6 (.t 3)⟩, ⟨some 101, some (99, true), .load none (.t 100)⟩, ⟨some 102, some (99, true), .callf 66 [(.t 101), (.c (.pv (.int .i64 1))), (.c (.pv (.int .i64 15)))]⟩, ⟨some 103, none, .land (.t 99) (.t 102)⟩, ⟨some 104, none, .mov (.t 103)⟩, ⟨some 105, some (104, true), .fad 7 (.t 3)⟩, ⟨some 106, some (104, true), .load none (.t 105)⟩, ⟨some 107, some (104, true), .callf 66 [(.t 106), (.c (.pv (.int .i64 1))), (.c (.pv (.int .i64 15)))]⟩, ⟨some 108, none, .land (.t 104) (.t 107)⟩, ⟨some 109, none, .mov (.t 108)⟩, ⟨some 110, some (109, true), .fad 8 (.t 3)⟩, ⟨some 111, some (109, true), .load none (.t 110)⟩, ⟨some 112, some (109, true), .callf 66 [(.t 111), (.c (.pv (.int .i64 0))), (.c (.pv (.int .i64 2)))]⟩, ⟨some 113, none, .land (.t 109) (.t 112)⟩, ⟨some 114, none, .mov (.t 113)⟩, ⟨some 115, some (114, true), .fad 8 (.t 3)⟩, ⟨some 116, some (114, true), .load none (.t 115)⟩, ⟨some 117, some (114, true), .bin .eql (.t 116) (.c (.pv (.int .i64 0)))⟩, ⟨some 118, some (114, true), .mov (.t 117)⟩, ⟨some 119, some (118, false), .mov (.t 7)⟩, ⟨some 120, some (118, false), .bin .eql (.t 119) (.c (.pv (.int .i64 1)))⟩, ⟨some 121, some (114, true), .lor (.t 118) (.t 120)⟩, ⟨some 122, none, .land (.t 114) (.t 121)⟩, ⟨some 4, none, .mov (.t 122)⟩]) (.ret)))))))))
theorem k_retargetref08_okInstr : FnOk Tryd.prog 70 123 c_retargetref08_okInstr [.tmp 4] := .mk' (fn := Tryd.f70) rfl rfl (by kernel_rfl) rfl (by kernel_rfl) (by kernel_rfl)
/- "retarget/retargetref08.Bit" -/
def c_retargetref08_Bit : C :=
.seq (.reg [⟨some 4, none, .mov (.c (.pv (.int .i64 0)))⟩]) (.seq (.seq (.reg [⟨some 5, none, .mov (.c (.pv (.int .i64 0)))⟩]) (.blk 0 (.loop ⟨[0, 1, 5], [], 0⟩ (.seq (.seq (.reg [⟨some 6, none, .mov (.t 5)⟩, ⟨some 7, none, .mov (.t 1)⟩, ⟨some 8, none, .bin .lss (.t 6) (.t 7)⟩]) (.cond (.t 8) (.skip) (.ext 0))) (.seq (.blk 1 (.reg [⟨some 11, none, .mov (.t 0)⟩, ⟨some 12, none, .bin .quo (.t 11) (.c (.pv (.int .u64 2)))⟩, ⟨some 0, none, .mov (.t 12)⟩])) (.reg [⟨some 9, none, .mov (.t 5)⟩, ⟨some 10, none, .bin .add (.t 9) (.c (.pv (.int .i64 1)))⟩, ⟨some 5, none, .mov (.t 10)⟩])))))) (.seq (.reg [⟨some 13, none, .mov (.t 0)⟩, ⟨some 14, none, .bin .rem (.t 13) (.c (.pv (.int .u64 2)))⟩, ⟨some 15, none, .conv .i64 (.t 14)⟩, ⟨some 4, none, .mov (.t 15)⟩]) (.ret)))
theorem k_retargetref08_Bit : FnOk Tryd.prog 85 16 c_retargetref08_Bit [.tmp 4] := .mk' (fn := Tryd.f85) rfl rfl (by kernel_rfl) rfl (by kernel_rfl) (by kernel_rfl)
/- "retarget/retargetref08.okOperand" -/
def c_retargetref08_okOperand : C :=
.seq (.reg [⟨some 3, none, .box 7 (.t 0)⟩, ⟨some 4, none, .box 9 (.t 1)⟩, ⟨some 6, none, .mov (.c (.pv (.bool false)))⟩]) (.seq (.reg [⟨some 11, none, .fad 3 (.t 4)⟩, ⟨some 12, none, .load none (.t 11)⟩, ⟨some 13, none, .mov (.t 2)⟩, ⟨some 14, none, .iad 6 (.t 12) (.t 13)⟩, ⟨some 15, none, .load (some 6) (.t 14)⟩, ⟨some 7, none, .alloc [.pv (.str ⟨#[]⟩), .pv (.int .u8 0), .pv (.int .i64 0), .pv (.int .i64 0), .nilS 2, .pv (.int .i64 0)]⟩, ⟨none, none, .store 6 (.t 7) (.t 15)⟩]) (.seq (.seq (.reg [⟨some 16, none, .fad 0 (.t 7)⟩, ⟨some 17, none, .load none (.t 16)⟩, ⟨some 18, none, .callf 65 [(.t 17)]⟩, ⟨some 19, none, .un .not (.t 18)⟩, ⟨some 20, none, .mov (.t 19)⟩, ⟨some 21, some (20, false), .fad 0 (.t 7)⟩, ⟨some 22, some (20, false), .load none (.t 21)⟩, ⟨some 23, some (20, false), .bin .eql (.t 22) (.c (.pv (.str ⟨#[112, 99]⟩)))⟩, ⟨some 24, none, .lor (.t 20) (.t 23)⟩, ⟨some 25, none, .mov (.t 24)⟩, ⟨some 26, some (25, false), .load (some 6) (.t 7)⟩, ⟨some 27, some (25, false), .fad 1 (.t 3)⟩, ⟨some 28, some (25, false), .load none (.t 27)⟩, ⟨some 29, some (25, false), .callf 95 [(.t 26), (.t 28)]⟩, ⟨some 30, some (25, false), .un .not (.t 29)⟩, ⟨some 31, none, .lor (.t 25) (.t 30)⟩]) (.cond (.t 31) (.seq (.reg [⟨some 6, none, .mov (.c (.pv (.bool false)))⟩]) (.ret)) (.skip))) (.seq (.seq (.reg [⟨some 8, none, .mov (.c (.pv (.int .i64 0)))⟩]) (.blk 0 (.loop ⟨[2, 3, 4, 7, 8], [0, 1, 2], 3⟩ (.seq (.seq (.reg [⟨some 32, none, .mov (.t 8)⟩, ⟨some 33, none, .mov (.t 2)⟩, ⟨some 34, none, .bin .lss (.t 32) (.t 33)⟩]) (.cond (.t 34) (.skip) (.ext 0))) (.seq (.blk 1 (.seq (.dreg [⟨some 37, none, .fad 3 (.t 4)⟩, ⟨some 38, none, .load none (.t 37)⟩, ⟨some 39, none, .mov (.t 8)⟩, ⟨some 40, none, .iad 6 (.t 38) (.t 39)⟩, ⟨some 41, none, .fad 0 (.t 40)⟩, ⟨some 42, none, .load none (.t 41)⟩, ⟨some 43, none, .fad 0 (.t 7)⟩, ⟨some 44, none, .load none (.t 43)⟩, ⟨some 45, none, .bin .eql (.t 42) (.t 44)⟩] [[], [0], [], [0, 1, 2], [0, 1, 2, 3], [0, 1, 2, 3, 4], [], [6], [0, 1, 2, 3, 4, 5, 6, 7]]) (.cond (.t 45) (.seq (.reg [⟨some 6, none, .mov (.c (.pv (.bool false)))⟩]) (.ret)) (.skip)))) (.reg [⟨some 35, none, .mov (.t 8)⟩, ⟨some 36, none, .bin .add (.t 35) (.c (.pv (.int .i64 1)))⟩, ⟨some 8, none, .mov (.t 36)⟩])))))) (.seq (.seq (.reg [⟨some 46, none, .fad 1 (.t 7)⟩, ⟨some 47, none, .load none (.t 46)⟩]) (.blk 2 (.seq (.reg [⟨some 49, none, .bin .eql (.t 47) (.c (.pv (.int .u8 1)))⟩, ⟨some 48, none, .mov (.t 49)⟩]) (.cond (.t 48) (.seq (.seq (.reg [⟨some 50, none, .fad 2 (.t 7)⟩, ⟨some 51, none, .load none (.t 50)⟩, ⟨some 52, none, .fad 4 (.t 3)⟩, ⟨some 53, none, .load none (.t 52)⟩, ⟨some 54, none, .len (.t 53)⟩, ⟨some 55, none, .bin .sub (.t 54) (.c (.pv (.int .i64 1)))⟩, ⟨some 56, none, .callf 66 [(.t 51), (.c (.pv (.int .i64 0))), (.t 55)]⟩, ⟨some 57, none, .un .not (.t 56)⟩, ⟨some 58, none, .mov (.t 57)⟩, ⟨some 59, some (58, false), .fad 3 (.t 7)⟩, ⟨some 60, some (58, false), .load none (.t 59)⟩, ⟨some 61, some (58, false), .bin .neq (.t 60) (.c (.pv (.int .i64 0)))⟩, ⟨some 62, none, .lor (.t 58) (.t 61)⟩]) (.cond (.t 62) (.seq (.reg [⟨some 6, none, .mov (.c (.pv (.bool false)))⟩]) (.ret)) (.skip))) (.seq (.seq (.reg [⟨some 63, none, .fad 5 (.t 7)⟩, ⟨some 64, none, .load none (.t 63)⟩, ⟨some 65, none, .bin .eql (.t 64) (.c (.pv (.int .i64 (-1))))⟩]) (.cond (.t 65) (.seq (.reg [⟨some 66, none, .load (some 6) (.t 7)⟩, ⟨some 67, none, .callf 96 [(.t 66)]⟩, ⟨some 9, none, .mov (.t 67)⟩]) (.seq (.dreg [⟨some 68, none, .mov (.t 9)⟩, ⟨some 69, none, .bin .gtr (.t 68) (.c (.pv (.int .i64 0)))⟩, ⟨some 70, none, .mov (.t 69)⟩, ⟨some 71, some (70, true), .mov (.t 9)⟩, ⟨some 72, some (70, true), .bin .gtr (.t 71) (.c (.pv (.int .i64 6)))⟩, ⟨some 73, some (70, true), .mov (.t 72)⟩, ⟨some 74, some (73, false), .fad 4 (.t 3)⟩, ⟨some 75, some (73, false), .load none (.t 74)⟩, ⟨some 76, some (73, false), .fad 2 (.t 7)⟩, ⟨some 77, some (73, false), .load none (.t 76)⟩, ⟨some 78, some (73, false), .iad 2 (.t 75) (.t 77)⟩, ⟨some 79, some (73, false), .fad 1 (.t 78)⟩, ⟨some 80, some (73, false), .load none (.t 79)⟩, ⟨some 81, some (73, false), .len (.t 80)⟩, ⟨some 82, some (73, false), .mov (.t 9)⟩, ⟨some 83, some (73, false), .callf 97 [(.t 82)]⟩, ⟨some 84, some (73, false), .bin .leq (.t 81) (.t 83)⟩, ⟨some 85, some (70, true), .lor (.t 73) (.t 84)⟩, ⟨some 86, none, .land (.t 70) (.t 85)⟩, ⟨some 6, none, .mov (.t 86)⟩] [[], [0], [0, 1], [0, 1, 2], [0, 1, 2, 3], [0, 1, 2, 3, 4], [0, 1, 2, 3, 4, 5], [0, 1, 2, 3, 4, 5, 6], [0, 1, 2, 3, 4, 5], [0, 1, 2, 3, 4, 5, 8], [0, 1, 2, 3, 4, 5, 6, 7, 8, 9], [0, 1, 2, 3, 4, 5, 6, 7, 8, 9, 10], [0, 1, 2, 3, 4, 5, 6, 7, 8, 9, 10, 11], [0, 1, 2, 3, 4, 5, 6, 7, 8, 9, 10, 11, 12], [0, 1, 2, 3, 4, 5], [0, 1, 2, 3, 4, 5, 14], [0, 1, 2, 3, 4, 5, 6, 7, 8, 9, 10, 11, 12, 13, 14, 15], [0, 1, 2, 3, 4, 5, 6, 7, 8, 9, 10, 11, 12, 13, 14, 15, 16], [0, 1, 2, 3, 4, 5, 6, 7, 8, 9, 10, 11, 12, 13, 14, 15, 16, 17], [0, 1, 2, 3, 4, 5, 6, 7, 8, 9, 10, 11, 12, 13, 14, 15, 16, 17, 18]]) (.ret))) (.skip))) (.seq (.seq (.reg [⟨some 87, none, .fad 5 (.t 7)⟩, ⟨some 88, none, .load none (.t 87)⟩, ⟨some 89, none, .mov (.t 2)⟩, ⟨some 90, none, .bin .sub (.t 89) (.c (.pv (.int .i64 1)))⟩, ⟨some 91, none, .callf 66 [(.t 88), (.c (.pv (.int .i64 0))), (.t 90)]⟩, ⟨some 92, none, .un .not (.t 91)⟩, ⟨some 93, none, .mov (.t 92)⟩, ⟨some 94, some (93, false), .fad 4 (.t 7)⟩, ⟨some 95, some (93, false), .load none (.t 94)⟩, ⟨some 96, some (93, false), .len (.t 95)⟩, ⟨some 97, some (93, false), .bin .gtr (.t 96) (.c (.pv (.int .i64 0)))⟩, ⟨some 98, none, .lor (.t 93) (.t 97)⟩]) (.cond (.t 98) (.seq (.reg [⟨some 6, none, .mov (.c (.pv (.bool false)))⟩]) (.ret)) (.skip))) (.seq (.reg [⟨some 99, none, .fad 3 (.t 4)⟩, ⟨some 100, none, .load none (.t 99)⟩, ⟨some 101, none, .fad 5 (.t 7)⟩, ⟨some 102, none, .load none (.t 101)⟩, ⟨some 103, none, .iad 6 (.t 100) (.t 102)⟩, ⟨some 104, none, .load (some 6) (.t 103)⟩, ⟨some 10, none, .alloc [.pv (.str ⟨#[]⟩), .pv (.int .u8 0), .pv (.int .i64 0), .pv (.int .i64 0), .nilS 2, .pv (.int .i64 0)]⟩, ⟨none, none, .store 6 (.t 10) (.t 104)⟩]) (.seq (.reg [⟨some 105, none, .fad 1 (.t 10)⟩, ⟨some 106, none, .load none (.t 105)⟩, ⟨some 107, none, .bin .eql (.t 106) (.c (.pv (.int .u8 1)))⟩, ⟨some 108, none, .mov (.t 107)⟩, ⟨some 109, some (108, true), .fad 2 (.t 10)⟩, ⟨some 110, some (108, true), .load none (.t 109)⟩, ⟨some 111, some (108, true), .fad 2 (.t 7)⟩, ⟨some 112, some (108, true), .load none (.t 111)⟩, ⟨some 113, some (108, true), .bin .eql (.t 110) (.t 112)⟩, ⟨some 114, none, .land (.t 108) (.t 113)⟩, ⟨some 115, none, .mov (.t 114)⟩, ⟨some 116, some (115, true), .fad 5 (.t 10)⟩, ⟨some 117, some (115, true), .load none (.t 116)⟩, ⟨some 118, some (115, true), .bin .eql (.t 117) (.c (.pv (.int .i64 (-1))))⟩, ⟨some 119, none, .land (.t 115) (.t 118)⟩, ⟨some 6, none, .mov (.t 119)⟩]) (.ret)))))) (.seq (.seq (.reg [⟨some 121, none, .bin .eql (.t 47) (.c (.pv (.int .u8 2)))⟩, ⟨some 120, none, .mov (.t 121)⟩]) (.cond (.t 120) (.skip) (.seq (.reg [⟨some 122, none, .bin .eql (.t 47) (.c (.pv (.int .u8 3)))⟩, ⟨some 120, none, .mov (.t 122)⟩]) (.cond (.t 120) (.skip) (.reg [⟨some 123, none, .bin .eql (.t 47) (.c (.pv (.int .u8 4)))⟩, ⟨some 120, none, .mov (.t 123)⟩]))))) (.cond (.t 120) (.seq (.dreg [⟨some 124, none, .fad 2 (.t 7)⟩, ⟨some 125, none, .load none (.t 124)⟩, ⟨some 126, none, .bin .eql (.t 125) (.c (.pv (.int .i64 0)))⟩, ⟨some 127, none, .mov (.t 126)⟩, ⟨some 128, some (127, true), .fad 5 (.t 7)⟩, ⟨some 129, some (127, true), .load none (.t 128)⟩, ⟨some 130, some (127, true), .bin .eql (.t 129) (.c (.pv (.int .i64 (-1))))⟩, ⟨some 131, none, .land (.t 127) (.t 130)⟩, ⟨some 132, none, .mov (.t 131)⟩, ⟨some 133, some (132, true), .fad 3 (.t 7)⟩, ⟨some 134, some (132, true), .load none (.t 133)⟩, ⟨some 135, some (132, true), .callf 66 [(.t 134), (.c (.pv (.int .i64 0))), (.c (.pv (.int .i64 3)))]⟩, ⟨some 136, none, .land (.t 132) (.t 135)⟩, ⟨some 137, none, .mov (.t 136)⟩, ⟨some 138, some (137, true), .load (some 6) (.t 7)⟩, ⟨some 139, some (137, true), .callf 96 [(.t 138)]⟩, ⟨some 140, some (137, true), .bin .gtr (.t 139) (.c (.pv (.int .i64 0)))⟩, ⟨some 141, none, .land (.t 137) (.t 140)⟩, ⟨some 142, none, .mov (.t 141)⟩, ⟨some 143, some (142, true), .load (some 6) (.t 7)⟩, ⟨some 144, some (142, true), .callf 96 [(.t 143)]⟩, ⟨some 145, some (142, true), .fad 3 (.t 7)⟩, ⟨some 146, some (142, true), .load none (.t 145)⟩, ⟨some 147, some (142, true), .bin .add (.t 144) (.t 146)⟩, ⟨some 148, some (142, true), .fad 2 (.t 3)⟩, ⟨some 149, some (142, true), .load none (.t 148)⟩, ⟨some 150, some (142, true), .bin .leq (.t 147) (.t 149)⟩, ⟨some 151, none, .land (.t 142) (.t 150)⟩, ⟨some 6, none, .mov (.t 151)⟩] [[], [0], [0, 1], [0, 1, 2], [0, 1, 2, 3], [0, 1, 2, 3, 4], [0, 1, 2, 3, 4, 5], [0, 1, 2, 3, 4, 5, 6], [0, 1, 2, 3, 4, 5, 6, 7], [0, 1, 2, 3, 4, 5, 6, 7, 8], [0, 1, 2, 3, 4, 5, 6, 7, 8, 9], [0, 1, 2, 3, 4, 5, 6, 7, 8, 9, 10], [0, 1, 2, 3, 4, 5, 6, 7, 8, 9, 10, 11], [0, 1, 2, 3, 4, 5, 6, 7, 8, 9, 10, 11, 12], [0, 1, 2, 3, 4, 5, 6, 7, 8, 9, 10, 11, 12, 13], [0, 1, 2, 3, 4, 5, 6, 7, 8, 9, 10, 11, 12, 13, 14], [0, 1, 2, 3, 4, 5, 6, 7, 8, 9, 10, 11, 12, 13, 14, 15], [0, 1, 2, 3, 4, 5, 6, 7, 8, 9, 10, 11, 12, 13, 14, 15, 16], [0, 1, 2, 3, 4, 5, 6, 7, 8, 9, 10, 11, 12, 13, 14, 15, 16, 17], [0, 1, 2, 3, 4, 5, 6, 7, 8, 9, 10, 11, 12, 13, 14, 15, 16, 17, 18], [0, 1, 2, 3, 4, 5, 6, 7, 8, 9, 10, 11, 12, 13, 14, 15, 16, 17, 18, 19], [0, 1, 2, 3, 4, 5, 6, 7, 8, 9, 10, 11, 12, 13, 14, 15, 16, 17, 18], [0, 1, 2, 3, 4, 5, 6, 7, 8, 9, 10, 11, 12, 13, 14, 15, 16, 17, 18, 21], [0, 1, 2, 3, 4, 5, 6, 7, 8, 9, 10, 11, 12, 13, 14, 15, 16, 17, 18, 19, 20, 21, 22], [0, 1, 2, 3, 4, 5, 6, 7, 8, 9, 10, 11, 12, 13, 14, 15, 16, 17, 18], [0, 1, 2, 3, 4, 5, 6, 7, 8, 9, 10, 11, 12, 13, 14, 15, 16, 17, 18, 24], [0, 1, 2, 3, 4, 5, 6, 7, 8, 9, 10, 11, 12, 13, 14, 15, 16, 17, 18, 19, 20, 21, 22, 23, 24, 25], [0, 1, 2, 3, 4, 5, 6, 7, 8, 9, 10, 11, 12, 13, 14, 15, 16, 17, 18, 19, 20, 21, 22, 23, 24, 25, 26], [0, 1, 2, 3, 4, 5, 6, 7, 8, 9, 10, 11, 12, 13, 14, 15, 16, 17, 18, 19, 20, 21, 22, 23, 24, 25, 26, 27]]) (.ret)) (.skip))))))) (.seq (.reg [⟨some 6, none, .mov (.c (.pv (.bool false)))⟩]) (.ret))))))
theorem k_retargetref08_okOperand : FnOk Tryd.prog 86 152 c_retargetref08_okOperand [.tmp 6] := .mk' (fn := Tryd.f86) rfl rfl (by kernel_rfl) rfl (by kernel_rfl) (by kernel_rfl)
/- "retarget/retargetref08.apart" -/
def c_retargetref08_apart : C :=
.seq (.reg [⟨some 2, none, .box 7 (.t 0)⟩, ⟨some 3, none, .box 9 (.t 1)⟩, ⟨some 4, none, .mov (.c (.pv (.bool false)))⟩]) (.seq (.seq (.reg [⟨some 5, none, .mov (.c (.pv (.int .i64 0)))⟩]) (.blk 0 (.loop ⟨[2, 3, 5], [0, 1], 2⟩ (.seq (.seq (.reg [⟨some 10, none, .mov (.t 5)⟩, ⟨some 11, none, .fad 1 (.t 2)⟩, ⟨some 12, none, .load none (.t 11)⟩, ⟨some 13, none, .bin .mul (.c (.pv (.int .i64 8))) (.t 12)⟩, ⟨some 14, none, .bin .lss (.t 10) (.t 13)⟩]) (.cond (.t 14) (.skip) (.ext 0))) (.seq (.blk 1 (.seq (.reg [⟨some 17, none, .fad 1 (.t 3)⟩, ⟨some 18, none, .load none (.t 17)⟩, ⟨some 19, none, .mov (.t 5)⟩, ⟨some 20, none, .callf 85 [(.t 18), (.t 19)]⟩, ⟨some 6, none, .mov (.t 20)⟩]) (.seq (.seq (.reg [⟨some 7, none, .mov (.c (.pv (.int .i64 0)))⟩]) (.blk 2 (.loop ⟨[2, 3, 5, 6, 7], [0, 1], 2⟩ (.seq (.seq (.reg [⟨some 21, none, .mov (.t 7)⟩, ⟨some 22, none, .fad 3 (.t 3)⟩, ⟨some 23, none, .load none (.t 22)⟩, ⟨some 24, none, .len (.t 23)⟩, ⟨some 25, none, .bin .lss (.t 21) (.t 24)⟩]) (.cond (.t 25) (.skip) (.ext 2))) (.seq (.blk 3 (.seq (.reg [⟨some 8, none, .mov (.c (.pv (.int .i64 0)))⟩]) (.blk 4 (.loop ⟨[2, 3, 5, 6, 7, 8], [0, 1], 2⟩ (.seq (.seq (.reg [⟨some 28, none, .mov (.t 8)⟩, ⟨some 29, none, .fad 3 (.t 3)⟩, ⟨some 30, none, .load none (.t 29)⟩, ⟨some 31, none, .mov (.t 7)⟩, ⟨some 32, none, .iad 6 (.t 30) (.t 31)⟩, ⟨some 33, none, .fad 4 (.t 32)⟩, ⟨some 34, none, .load none (.t 33)⟩, ⟨some 35, none, .len (.t 34)⟩, ⟨some 36, none, .bin .lss (.t 28) (.t 35)⟩]) (.cond (.t 36) (.skip) (.ext 4))) (.seq (.blk 5 (.seq (.reg [⟨some 39, none, .fad 3 (.t 3)⟩, ⟨some 40, none, .load none (.t 39)⟩, ⟨some 41, none, .mov (.t 7)⟩, ⟨some 42, none, .iad 6 (.t 40) (.t 41)⟩, ⟨some 43, none, .fad 4 (.t 42)⟩, ⟨some 44, none, .load none (.t 43)⟩, ⟨some 45, none, .mov (.t 8)⟩, ⟨some 46, none, .iad 2 (.t 44) (.t 45)⟩, ⟨some 47, none, .load (some 2) (.t 46)⟩, ⟨some 9, none, .alloc [.pv (.int .i64 0), .pv (.int .i64 0)]⟩, ⟨none, none, .store 2 (.t 9) (.t 47)⟩]) (.seq (.reg [⟨some 48, none, .mov (.t 5)⟩, ⟨some 49, none, .fad 0 (.t 9)⟩, ⟨some 50, none, .load none (.t 49)⟩, ⟨some 51, none, .fad 0 (.t 9)⟩, ⟨some 52, none, .load none (.t 51)⟩, ⟨some 53, none, .fad 1 (.t 9)⟩, ⟨some 54, none, .load none (.t 53)⟩, ⟨some 55, none, .bin .add (.t 52) (.t 54)⟩, ⟨some 56, none, .bin .sub (.t 55) (.c (.pv (.int .i64 1)))⟩, ⟨some 57, none, .callf 66 [(.t 48), (.t 50), (.t 56)]⟩]) (.cond (.t 57) (.reg [⟨some 58, none, .mov (.t 6)⟩, ⟨some 59, none, .bin .add (.t 58) (.c (.pv (.int .i64 1)))⟩, ⟨some 6, none, .mov (.t 59)⟩]) (.skip))))) (.reg [⟨some 37, none, .mov (.t 8)⟩, ⟨some 38, none, .bin .add (.t 37) (.c (.pv (.int .i64 1)))⟩, ⟨some 8, none, .mov (.t 38)⟩]))))))) (.reg [⟨some 26, none, .mov (.t 7)⟩, ⟨some 27, none, .bin .add (.t 26) (.c (.pv (.int .i64 1)))⟩, ⟨some 7, none, .mov (.t 27)⟩])))))) (.seq (.reg [⟨some 60, none, .mov (.t 6)⟩, ⟨some 61, none, .bin .gtr (.t 60) (.c (.pv (.int .i64 1)))⟩]) (.cond (.t 61) (.seq (.reg [⟨some 4, none, .mov (.c (.pv (.bool false)))⟩]) (.ret)) (.skip)))))) (.reg [⟨some 15, none, .mov (.t 5)⟩, ⟨some 16, none, .bin .add (.t 15) (.c (.pv (.int .i64 1)))⟩, ⟨some 5, none, .mov (.t 16)⟩])))))) (.seq (.reg [⟨some 4, none, .mov (.c (.pv (.bool true)))⟩]) (.ret)))
theorem k_retargetref08_apart : FnOk Tryd.prog 87 62 c_retargetref08_apart [.tmp 4] := .mk' (fn := Tryd.f87) rfl rfl (by kernel_rfl) rfl (by kernel_rfl) (by kernel_rfl)
/- "retarget/retargetref08.okEffect" -/
def c_retargetref08_okEffect : C :=
.seq (.reg [⟨some 3, none, .box 7 (.t 0)⟩, ⟨some 4, none, .box 9 (.t 1)⟩, ⟨some 5, none, .box 21 (.t 2)⟩, ⟨some 6, none, .mov (.c (.pv (.bool false)))⟩]) (.seq (.seq (.reg [⟨some 8, none, .fad 0 (.t 5)⟩, ⟨some 9, none, .load none (.t 8)⟩]) (.blk 0 (.seq (.reg [⟨some 11, none, .bin .eql (.t 9) (.c (.pv (.int .u8 1)))⟩, ⟨some 10, none, .mov (.t 11)⟩]) (.cond (.t 10) (.seq (.seq (.reg [⟨some 12, none, .fad 3 (.t 5)⟩, ⟨some 13, none, .load (some 6) (.t 12)⟩, ⟨some 14, none, .callf 98 [(.t 13)]⟩, ⟨some 15, none, .un .not (.t 14)⟩, ⟨some 16, none, .mov (.t 15)⟩, ⟨some 17, some (16, false), .fad 15 (.t 5)⟩, ⟨some 18, some (16, false), .load (some 6) (.t 17)⟩, ⟨some 19, some (16, false), .callf 98 [(.t 18)]⟩, ⟨some 20, some (16, false), .un .not (.t 19)⟩, ⟨some 21, none, .lor (.t 16) (.t 20)⟩, ⟨some 22, none, .mov (.t 21)⟩, ⟨some 23, some (22, false), .load (some 7) (.t 3)⟩, ⟨some 24, some (22, false), .load (some 9) (.t 4)⟩, ⟨some 25, some (22, false), .fad 9 (.t 5)⟩, ⟨some 26, some (22, false), .load (some 6) (.t 25)⟩, ⟨some 27, some (22, false), .callf 99 [(.t 23), (.t 24), (.t 26)]⟩, ⟨some 28, some (22, false), .un .not (.t 27)⟩, ⟨some 29, none, .lor (.t 22) (.t 28)⟩]) (.cond (.t 29) (.seq (.reg [⟨some 6, none, .mov (.c (.pv (.bool false)))⟩]) (.ret)) (.skip))) (.seq (.seq (.reg [⟨some 30, none, .fad 1 (.t 5)⟩, ⟨some 31, none, .load none (.t 30)⟩, ⟨some 32, none, .bin .eql (.t 31) (.c (.pv (.int .i64 (-1))))⟩]) (.cond (.t 32) (.seq (.dreg [⟨some 33, none, .fad 2 (.t 5)⟩, ⟨some 34, none, .load none (.t 33)⟩, ⟨some 35, none, .fad 3 (.t 3)⟩, ⟨some 36, none, .load none (.t 35)⟩, ⟨some 37, none, .len (.t 36)⟩, ⟨some 38, none, .bin .sub (.t 37) (.c (.pv (.int .i64 1)))⟩, ⟨some 39, none, .callf 66 [(.t 34), (.c (.pv (.int .i64 0))), (.t 38)]⟩, ⟨some 40, none, .mov (.t 39)⟩, ⟨some 41, some (40, true), .fad 9 (.t 5)⟩, ⟨some 42, some (40, true), .fad 1 (.t 41)⟩, ⟨some 43, some (40, true), .load none (.t 42)⟩, ⟨some 44, some (40, true), .fad 3 (.t 3)⟩, ⟨some 45, some (40, true), .load none (.t 44)⟩, ⟨some 46, some (40, true), .fad 2 (.t 5)⟩, ⟨some 47, some (40, true), .load none (.t 46)⟩, ⟨some 48, some (40, true), .iad 4 (.t 45) (.t 47)⟩, ⟨some 49, some (40, true), .fad 1 (.t 48)⟩, ⟨some 50, some (40, true), .load none (.t 49)⟩, ⟨some 51, some (40, true), .bin .eql (.t 43) (.t 50)⟩, ⟨some 52, none, .land (.t 40) (.t 51)⟩, ⟨some 6, none, .mov (.t 52)⟩] [[], [0], [], [2], [2, 3], [2, 3, 4], [0, 1, 2, 3, 4, 5], [0, 1, 2, 3, 4, 5, 6], [0, 1, 2, 3, 4, 5, 6, 7], [0, 1, 2, 3, 4, 5, 6, 7, 8], [0, 1, 2, 3, 4, 5, 6, 7, 8, 9], [0, 1, 2, 3, 4, 5, 6, 7], [0, 1, 2, 3, 4, 5, 6, 7, 11], [0, 1, 2, 3, 4, 5, 6, 7], [0, 1, 2, 3, 4, 5, 6, 7, 13], [0, 1, 2, 3, 4, 5, 6, 7, 11, 12, 13, 14], [0, 1, 2, 3, 4, 5, 6, 7, 11, 12, 13, 14, 15], [0, 1, 2, 3, 4, 5, 6, 7, 11, 12, 13, 14, 15, 16], [0, 1, 2, 3, 4, 5, 6, 7, 8, 9, 10, 11, 12, 13, 14, 15, 16, 17], [0, 1, 2, 3, 4, 5, 6, 7, 8, 9, 10, 11, 12, 13, 14, 15, 16, 17, 18], [0, 1, 2, 3, 4, 5, 6, 7, 8, 9, 10, 11, 12, 13, 14, 15, 16, 17, 18, 19]]) (.ret)) (.skip))) (.seq (.dreg [⟨some 53, none, .fad 2 (.t 5)⟩, ⟨some 54, none, .load none (.t 53)⟩, ⟨some 55, none, .bin .eql (.t 54) (.c (.pv (.int .i64 0)))⟩, ⟨some 56, none, .mov (.t 55)⟩, ⟨some 57, some (56, true), .fad 1 (.t 5)⟩, ⟨some 58, some (56, true), .load none (.t 57)⟩, ⟨some 59, some (56, true), .fad 3 (.t 4)⟩, ⟨some 60, some (56, true), .load none (.t 59)⟩, ⟨some 61, some (56, true), .len (.t 60)⟩, ⟨some 62, some (56, true), .bin .sub (.t 61) (.c (.pv (.int .i64 1)))⟩, ⟨some 63, some (56, true), .callf 66 [(.t 58), (.c (.pv (.int .i64 0))), (.t 62)]⟩, ⟨some 64, none, .land (.t 56) (.t 63)⟩, ⟨some 65, none, .mov (.t 64)⟩, ⟨some 66, some (65, true), .fad 3 (.t 4)⟩, ⟨some 67, some (65, true), .load none (.t 66)⟩, ⟨some 68, some (65, true), .fad 1 (.t 5)⟩, ⟨some 69, some (65, true), .load none (.t 68)⟩, ⟨some 70, some (65, true), .iad 6 (.t 67) (.t 69)⟩, ⟨some 71, some (65, true), .fad 1 (.t 70)⟩, ⟨some 72, some (65, true), .load none (.t 71)⟩, ⟨some 73, some (65, true), .bin .eql (.t 72) (.c (.pv (.int .u8 1)))⟩, ⟨some 74, none, .land (.t 65) (.t 73)⟩, ⟨some 75, none, .mov (.t 74)⟩, ⟨some 76, some (75, true), .fad 9 (.t 5)⟩, ⟨some 77, some (75, true), .fad 1 (.t 76)⟩, ⟨some 78, some (75, true), .load none (.t 77)⟩, ⟨some 79, some (75, true), .load (some 7) (.t 3)⟩, ⟨some 80, some (75, true), .fad 3 (.t 4)⟩, ⟨some 81, some (75, true), .load none (.t 80)⟩, ⟨some 82, some (75, true), .fad 1 (.t 5)⟩, ⟨some 83, some (75, true), .load none (.t 82)⟩, ⟨some 84, some (75, true), .iad 6 (.t 81) (.t 83)⟩, ⟨some 85, some (75, true), .load (some 6) (.t 84)⟩, ⟨some 86, some (75, true), .callf 100 [(.t 79), (.t 85)]⟩, ⟨some 87, some (75, true), .bin .eql (.t 78) (.t 86)⟩, ⟨some 88, none, .land (.t 75) (.t 87)⟩, ⟨some 6, none, .mov (.t 88)⟩] [[], [0], [0, 1], [0, 1, 2], [0, 1, 2, 3], [0, 1, 2, 3, 4], [0, 1, 2, 3], [0, 1, 2, 3, 6], [0, 1, 2, 3, 6, 7], [0, 1, 2, 3, 6, 7, 8], [0, 1, 2, 3, 4, 5, 6, 7, 8, 9], [0, 1, 2, 3, 4, 5, 6, 7, 8, 9, 10], [0, 1, 2, 3, 4, 5, 6, 7, 8, 9, 10, 11], [0, 1, 2, 3, 4, 5, 6, 7, 8, 9, 10, 11, 12], [0, 1, 2, 3, 4, 5, 6, 7, 8, 9, 10, 11, 12, 13], [0, 1, 2, 3, 4, 5, 6, 7, 8, 9, 10, 11, 12], [0, 1, 2, 3, 4, 5, 6, 7, 8, 9, 10, 11, 12, 15], [0, 1, 2, 3, 4, 5, 6, 7, 8, 9, 10, 11, 12, 13, 14, 15, 16], [0, 1, 2, 3, 4, 5, 6, 7, 8, 9, 10, 11, 12, 13, 14, 15, 16, 17], [0, 1, 2, 3, 4, 5, 6, 7, 8, 9, 10, 11, 12, 13, 14, 15, 16, 17, 18], [0, 1, 2, 3, 4, 5, 6, 7, 8, 9, 10, 11, 12, 13, 14, 15, 16, 17, 18, 19], [0, 1, 2, 3, 4, 5, 6, 7, 8, 9, 10, 11, 12, 13, 14, 15, 16, 17, 18, 19, 20], [0, 1, 2, 3, 4, 5, 6, 7, 8, 9, 10, 11, 12, 13, 14, 15, 16, 17, 18, 19, 20, 21], [0, 1, 2, 3, 4, 5, 6, 7, 8, 9, 10, 11, 12, 13, 14, 15, 16, 17, 18, 19, 20, 21, 22], [0, 1, 2, 3, 4, 5, 6, 7, 8, 9, 10, 11, 12, 13, 14, 15, 16, 17, 18, 19, 20, 21, 22, 23], [0, 1, 2, 3, 4, 5, 6, 7, 8, 9, 10, 11, 12, 13, 14, 15, 16, 17, 18, 19, 20, 21, 22, 23, 24], [0, 1, 2, 3, 4, 5, 6, 7, 8, 9, 10, 11, 12, 13, 14, 15, 16, 17, 18, 19, 20, 21, 22], [0, 1, 2, 3, 4, 5, 6, 7, 8, 9, 10, 11, 12, 13, 14, 15, 16, 17, 18, 19, 20, 21, 22], [0, 1, 2, 3, 4, 5, 6, 7, 8, 9, 10, 11, 12, 13, 14, 15, 16, 17, 18, 19, 20, 21, 22, 27], [0, 1, 2, 3, 4, 5, 6, 7, 8, 9, 10, 11, 12, 13, 14, 15, 16, 17, 18, 19, 20, 21, 22], [0, 1, 2, 3, 4, 5, 6, 7, 8, 9, 10, 11, 12, 13, 14, 15, 16, 17, 18, 19, 20, 21, 22, 29], [0, 1, 2, 3, 4, 5, 6, 7, 8, 9, 10, 11, 12, 13, 14, 15, 16, 17, 18, 19, 20, 21, 22, 27, 28, 29, 30], [0, 1, 2, 3, 4, 5, 6, 7, 8, 9, 10, 11, 12, 13, 14, 15, 16, 17, 18, 19, 20, 21, 22, 27, 28, 29, 30, 31], [0, 1, 2, 3, 4, 5, 6, 7, 8, 9, 10, 11, 12, 13, 14, 15, 16, 17, 18, 19, 20, 21, 22, 26, 27, 28, 29, 30, 31, 32], [0, 1, 2, 3, 4, 5, 6, 7, 8, 9, 10, 11, 12, 13, 14, 15, 16, 17, 18, 19, 20, 21, 22, 23, 24, 25, 26, 27, 28, 29, 30, 31, 32, 33], [0, 1, 2, 3, 4, 5, 6, 7, 8, 9, 10, 11, 12, 13, 14, 15, 16, 17, 18, 19, 20, 21, 22, 23, 24, 25, 26, 27, 28, 29, 30, 31, 32, 33, 34], [0, 1, 2, 3, 4, 5, 6, 7, 8, 9, 10, 11, 12, 13, 14, 15, 16, 17, 18, 19, 20, 21, 22, 23, 24, 25, 26, 27, 28, 29, 30, 31, 32, 33, 34, 35]]) (.ret)))) (.seq (.reg [⟨some 90, none, .bin .eql (.t 9) (.c (.pv (.int .u8 2)))⟩, ⟨some 89, none, .mov (.t 90)⟩]) (.cond (.t 89) (.seq (.reg [⟨some 91, none, .fad 9 (.t 5)⟩, ⟨some 92, none, .fad 1 (.t 91)⟩, ⟨some 93, none, .load none (.t 92)⟩, ⟨some 7, none, .mov (.t 93)⟩]) (.seq (.reg [⟨some 94, none, .fad 1 (.t 5)⟩, ⟨some 95, none, .load none (.t 94)⟩, ⟨some 96, none, .bin .eql (.t 95) (.c (.pv (.int .i64 0)))⟩, ⟨some 97, none, .mov (.t 96)⟩, ⟨some 98, some (97, true), .fad 2 (.t 5)⟩, ⟨some 99, some (97, true), .load none (.t 98)⟩, ⟨some 100, some (97, true), .bin .eql (.t 99) (.c (.pv (.int .i64 0)))⟩, ⟨some 101, none, .land (.t 97) (.t 100)⟩, ⟨some 102, none, .mov (.t 101)⟩, ⟨some 103, some (102, true), .fad 15 (.t 5)⟩, ⟨some 104, some (102, true), .load (some 6) (.t 103)⟩, ⟨some 105, some (102, true), .callf 98 [(.t 104)]⟩, ⟨some 106, none, .land (.t 102) (.t 105)⟩, ⟨some 107, none, .mov (.t 106)⟩, ⟨some 108, some (107, true), .load (some 7) (.t 3)⟩, ⟨some 109, some (107, true), .load (some 9) (.t 4)⟩, ⟨some 110, some (107, true), .fad 3 (.t 5)⟩, ⟨some 111, some (107, true), .load (some 6) (.t 110)⟩, ⟨some 112, some (107, true), .callf 99 [(.t 108), (.t 109), (.t 111)]⟩, ⟨some 113, none, .land (.t 107) (.t 112)⟩, ⟨some 114, none, .mov (.t 113)⟩, ⟨some 115, some (114, true), .fad 3 (.t 5)⟩, ⟨some 116, some (114, true), .fad 1 (.t 115)⟩, ⟨some 117, some (114, true), .load none (.t 116)⟩, ⟨some 118, some (114, true), .fad 2 (.t 3)⟩, ⟨some 119, some (114, true), .load none (.t 118)⟩, ⟨some 120, some (114, true), .bin .eql (.t 117) (.t 119)⟩, ⟨some 121, none, .land (.t 114) (.t 120)⟩, ⟨some 122, none, .mov (.t 121)⟩, ⟨some 123, some (122, true), .load (some 7) (.t 3)⟩, ⟨some 124, some (122, true), .load (some 9) (.t 4)⟩, ⟨some 125, some (122, true), .fad 9 (.t 5)⟩, ⟨some 126, some (122, true), .load (some 6) (.t 125)⟩, ⟨some 127, some (122, true), .callf 99 [(.t 123), (.t 124), (.t 126)]⟩, ⟨some 128, none, .land (.t 122) (.t 127)⟩, ⟨some 129, none, .mov (.t 128)⟩, ⟨some 130, some (129, true), .mov (.t 7)⟩, ⟨some 131, some (129, true), .bin .eql (.t 130) (.c (.pv (.int .i64 8)))⟩, ⟨some 132, some (129, true), .mov (.t 131)⟩, ⟨some 133, some (132, false), .mov (.t 7)⟩, ⟨some 134, some (132, false), .bin .eql (.t 133) (.c (.pv (.int .i64 16)))⟩, ⟨some 135, some (129, true), .lor (.t 132) (.t 134)⟩, ⟨some 136, some (129, true), .mov (.t 135)⟩, ⟨some 137, some (136, false), .mov (.t 7)⟩, ⟨some 138, some (136, false), .bin .eql (.t 137) (.c (.pv (.int .i64 32)))⟩, ⟨some 139, some (129, true), .lor (.t 136) (.t 138)⟩, ⟨some 140, some (129, true), .mov (.t 139)⟩, ⟨some 141, some (140, false), .mov (.t 7)⟩, ⟨some 142, some (140, false), .bin .eql (.t 141) (.c (.pv (.int .i64 64)))⟩, ⟨some 143, some (129, true), .lor (.t 140) (.t 142)⟩, ⟨some 144, none, .land (.t 129) (.t 143)⟩, ⟨some 6, none, .mov (.t 144)⟩]) (.ret))) (.seq (.reg [⟨some 146, none, .bin .eql (.t 9) (.c (.pv (.int .u8 3)))⟩, ⟨some 145, none, .mov (.t 146)⟩]) (.cond (.t 145) (.seq (.reg [⟨some 147, none, .fad 1 (.t 5)⟩, ⟨some 148, none, .load none (.t 147)⟩, ⟨some 149, none, .bin .eql (.t 148) (.c (.pv (.int .i64 0)))⟩, ⟨some 150, none, .mov (.t 149)⟩, ⟨some 151, some (150, true), .fad 2 (.t 5)⟩, ⟨some 152, some (150, true), .load none (.t 151)⟩, ⟨some 153, some (150, true), .bin .eql (.t 152) (.c (.pv (.int .i64 0)))⟩, ⟨some 154, none, .land (.t 150) (.t 153)⟩, ⟨some 155, none, .mov (.t 154)⟩, ⟨some 156, some (155, true), .fad 3 (.t 5)⟩, ⟨some 157, some (155, true), .load (some 6) (.t 156)⟩, ⟨some 158, some (155, true), .callf 98 [(.t 157)]⟩, ⟨some 159, none, .land (.t 155) (.t 158)⟩, ⟨some 160, none, .mov (.t 159)⟩, ⟨some 161, some (160, true), .load (some 7) (.t 3)⟩, ⟨some 162, some (160, true), .load (some 9) (.t 4)⟩, ⟨some 163, some (160, true), .fad 9 (.t 5)⟩, ⟨some 164, some (160, true), .load (some 6) (.t 163)⟩, ⟨some 165, some (160, true), .callf 99 [(.t 161), (.t 162), (.t 164)]⟩, ⟨some 166, none, .land (.t 160) (.t 165)⟩, ⟨some 167, none, .mov (.t 166)⟩, ⟨some 168, some (167, true), .fad 9 (.t 5)⟩, ⟨some 169, some (167, true), .fad 1 (.t 168)⟩, ⟨some 170, some (167, true), .load none (.t 169)⟩, ⟨some 171, some (167, true), .fad 2 (.t 3)⟩, ⟨some 172, some (167, true), .load none (.t 171)⟩, ⟨some 173, some (167, true), .bin .eql (.t 170) (.t 172)⟩, ⟨some 174, none, .land (.t 167) (.t 173)⟩, ⟨some 175, none, .mov (.t 174)⟩, ⟨some 176, some (175, true), .fad 15 (.t 5)⟩, ⟨some 177, some (175, true), .load (some 6) (.t 176)⟩, ⟨some 178, some (175, true), .callf 98 [(.t 177)]⟩, ⟨some 179, some (175, true), .mov (.t 178)⟩, ⟨some 180, some (179, false), .load (some 7) (.t 3)⟩, ⟨some 181, some (179, false), .load (some 9) (.t 4)⟩, ⟨some 182, some (179, false), .fad 15 (.t 5)⟩, ⟨some 183, some (179, false), .load (some 6) (.t 182)⟩, ⟨some 184, some (179, false), .callf 99 [(.t 180), (.t 181), (.t 183)]⟩, ⟨some 185, some (179, false), .mov (.t 184)⟩, ⟨some 186, some (185, true), .fad 15 (.t 5)⟩, ⟨some 187, some (185, true), .fad 1 (.t 186)⟩, ⟨some 188, some (185, true), .load none (.t 187)⟩, ⟨some 189, some (185, true), .bin .eql (.t 188) (.c (.pv (.int .i64 1)))⟩, ⟨some 190, some (179, false), .land (.t 185) (.t 189)⟩, ⟨some 191, some (175, true), .lor (.t 179) (.t 190)⟩, ⟨some 192, none, .land (.t 175) (.t 191)⟩, ⟨some 6, none, .mov (.t 192)⟩]) (.ret)) (.seq (.reg [⟨some 194, none, .bin .eql (.t 9) (.c (.pv (.int .u8 4)))⟩, ⟨some 193, none, .mov (.t 194)⟩]) (.cond (.t 193) (.seq (.reg [⟨some 195, none, .fad 1 (.t 5)⟩, ⟨some 196, none, .load none (.t 195)⟩, ⟨some 197, none, .bin .eql (.t 196) (.c (.pv (.int .i64 0)))⟩, ⟨some 198, none, .mov (.t 197)⟩, ⟨some 199, some (198, true), .fad 2 (.t 5)⟩, ⟨some 200, some (198, true), .load none (.t 199)⟩, ⟨some 201, some (198, true), .bin .eql (.t 200) (.c (.pv (.int .i64 0)))⟩, ⟨some 202, none, .land (.t 198) (.t 201)⟩, ⟨some 203, none, .mov (.t 202)⟩, ⟨some 204, some (203, true), .fad 3 (.t 5)⟩, ⟨some 205, some (203, true), .load (some 6) (.t 204)⟩, ⟨some 206, some (203, true), .callf 98 [(.t 205)]⟩, ⟨some 207, none, .land (.t 203) (.t 206)⟩, ⟨some 208, none, .mov (.t 207)⟩, ⟨some 209, some (208, true), .fad 15 (.t 5)⟩, ⟨some 210, some (208, true), .load (some 6) (.t 209)⟩, ⟨some 211, some (208, true), .callf 98 [(.t 210)]⟩, ⟨some 212, none, .land (.t 208) (.t 211)⟩, ⟨some 213, none, .mov (.t 212)⟩, ⟨some 214, some (213, true), .load (some 7) (.t 3)⟩, ⟨some 215, some (213, true), .load (some 9) (.t 4)⟩, ⟨some 216, some (213, true), .fad 9 (.t 5)⟩, ⟨some 217, some (213, true), .load (some 6) (.t 216)⟩, ⟨some 218, some (213, true), .callf 99 [(.t 214), (.t 215), (.t 217)]⟩, ⟨some 219, none, .land (.t 213) (.t 218)⟩, ⟨some 6, none, .mov (.t 219)⟩]) (.ret)) (.skip))))))))))) (.seq (.reg [⟨some 6, none, .mov (.c (.pv (.bool false)))⟩]) (.ret)))
theorem k_retargetref08_okEffect : FnOk Tryd.prog 88 220 c_retargetref08_okEffect [.tmp 6] := .mk' (fn := Tryd.f88) rfl rfl (by kernel_rfl) rfl (by kernel_rfl) (by kernel_rfl)
/- "retarget/retargetref08.okPieces" -/
def c_retargetref08_okPieces : C :=
.seq (.reg [⟨some 2, none, .box 6 (.t 0)⟩, ⟨some 4, none, .mov (.c (.pv (.bool false)))⟩]) (.seq (.seq (.reg [⟨some 5, none, .mov (.c (.pv (.int .i64 0)))⟩]) (.blk 0 (.loop ⟨[1, 2, 5], [0], 1⟩ (.seq (.seq (.reg [⟨some 7, none, .mov (.t 5)⟩, ⟨some 8, none, .fad 4 (.t 2)⟩, ⟨some 9, none, .load none (.t 8)⟩, ⟨some 10, none, .len (.t 9)⟩, ⟨some 11, none, .bin .lss (.t 7) (.t 10)⟩]) (.cond (.t 11) (.skip) (.ext 0))) (.seq (.blk 1 (.seq (.reg [⟨some 14, none, .fad 4 (.t 2)⟩, ⟨some 15, none, .load none (.t 14)⟩, ⟨some 16, none, .mov (.t 5)⟩, ⟨some 17, none, .iad 2 (.t 15) (.t 16)⟩, ⟨some 18, none, .load (some 2) (.t 17)⟩, ⟨some 6, none, .alloc [.pv (.int .i64 0), .pv (.int .i64 0)]⟩, ⟨none, none, .store 2 (.t 6) (.t 18)⟩]) (.seq (.reg [⟨some 19, none, .fad 1 (.t 6)⟩, ⟨some 20, none, .load none (.t 19)⟩, ⟨some 21, none, .mov (.t 1)⟩, ⟨some 22, none, .bin .mul (.c (.pv (.int .i64 8))) (.t 21)⟩, ⟨some 23, none, .callf 66 [(.t 20), (.c (.pv (.int .i64 1))), (.t 22)]⟩, ⟨some 24, none, .un .not (.t 23)⟩, ⟨some 25, none, .mov (.t 24)⟩, ⟨some 26, some (25, false), .fad 0 (.t 6)⟩, ⟨some 27, some (25, false), .load none (.t 26)⟩, ⟨some 28, some (25, false), .mov (.t 1)⟩, ⟨some 29, some (25, false), .bin .mul (.c (.pv (.int .i64 8))) (.t 28)⟩, ⟨some 30, some (25, false), .fad 1 (.t 6)⟩, ⟨some 31, some (25, false), .load none (.t 30)⟩, ⟨some 32, some (25, false), .bin .sub (.t 29) (.t 31)⟩, ⟨some 33, some (25, false), .callf 66 [(.t 27), (.c (.pv (.int .i64 0))), (.t 32)]⟩, ⟨some 34, some (25, false), .un .not (.t 33)⟩, ⟨some 35, none, .lor (.t 25) (.t 34)⟩]) (.cond (.t 35) (.seq (.reg [⟨some 4, none, .mov (.c (.pv (.bool false)))⟩]) (.ret)) (.skip))))) (.reg [⟨some 12, none, .mov (.t 5)⟩, ⟨some 13, none, .bin .add (.t 12) (.c (.pv (.int .i64 1)))⟩, ⟨some 5, none, .mov (.t 13)⟩])))))) (.seq (.reg [⟨some 4, none, .mov (.c (.pv (.bool true)))⟩]) (.ret)))
theorem k_retargetref08_okPieces : FnOk Tryd.prog 95 36 c_retargetref08_okPieces [.tmp 4] := .mk' (fn := Tryd.f95) rfl rfl (by kernel_rfl) rfl (by kernel_rfl) (by kernel_rfl)
/- "retarget/retargetref08.Field" -/
def c_retargetref08_Field : C :=
.seq (.reg [⟨some 1, none, .box 6 (.t 0)⟩, ⟨some 2, none, .mov (.c (.pv (.int .i64 0)))⟩]) (.seq (.reg [⟨some 3, none, .mov (.c (.pv (.int .i64 0)))⟩]) (.seq (.seq (.reg [⟨some 4, none, .mov (.c (.pv (.int .i64 0)))⟩]) (.blk 0 (.loop ⟨[1, 3, 4], [0], 1⟩ (.seq (.seq (.reg [⟨some 5, none, .mov (.t 4)⟩, ⟨some 6, none, .fad 4 (.t 1)⟩, ⟨some 7, none, .load none (.t 6)⟩, ⟨some 8, none, .len (.t 7)⟩, ⟨some 9, none, .bin .lss (.t 5) (.t 8)⟩]) (.cond (.t 9) (.skip) (.ext 0))) (.seq (.blk 1 (.reg [⟨some 12, none, .mov (.t 3)⟩, ⟨some 13, none, .fad 4 (.t 1)⟩, ⟨some 14, none, .load none (.t 13)⟩, ⟨some 15, none, .mov (.t 4)⟩, ⟨some 16, none, .iad 2 (.t 14) (.t 15)⟩, ⟨some 17, none, .fad 1 (.t 16)⟩, ⟨some 18, none, .load none (.t 17)⟩, ⟨some 19, none, .bin .add (.t 12) (.t 18)⟩, ⟨some 3, none, .mov (.t 19)⟩])) (.reg [⟨some 10, none, .mov (.t 4)⟩, ⟨some 11, none, .bin .add (.t 10) (.c (.pv (.int .i64 1)))⟩, ⟨some 4, none, .mov (.t 11)⟩])))))) (.seq (.reg [⟨some 20, none, .mov (.t 3)⟩, ⟨some 2, none, .mov (.t 20)⟩]) (.ret))))
theorem k_retargetref08_Field : FnOk Tryd.prog 96 21 c_retargetref08_Field [.tmp 2] := .mk' (fn := Tryd.f96) rfl rfl (by kernel_rfl) rfl (by kernel_rfl) (by kernel_rfl)
/- "retarget/retargetref08.Power" -/
def c_retargetref08_Power : C :=
.seq (.reg [⟨some 2, none, .mov (.c (.pv (.int .i64 0)))⟩]) (.seq (.reg [⟨some 3, none, .mov (.c (.pv (.int .i64 1)))⟩]) (.seq (.seq (.reg [⟨some 4, none, .mov (.c (.pv (.int .i64 0)))⟩]) (.blk 0 (.loop ⟨[0, 3, 4], [], 0⟩ (.seq (.seq (.reg [⟨some 5, none, .mov (.t 4)⟩, ⟨some 6, none, .mov (.t 0)⟩, ⟨some 7, none, .bin .lss (.t 5) (.t 6)⟩]) (.cond (.t 7) (.skip) (.ext 0))) (.seq (.blk 1 (.reg [⟨some 10, none, .mov (.t 3)⟩, ⟨some 11, none, .bin .mul (.c (.pv (.int .i64 2))) (.t 10)⟩, ⟨some 3, none, .mov (.t 11)⟩])) (.reg [⟨some 8, none, .mov (.t 4)⟩, ⟨some 9, none, .bin .add (.t 8) (.c (.pv (.int .i64 1)))⟩, ⟨some 4, none, .mov (.t 9)⟩])))))) (.seq (.reg [⟨some 12, none, .mov (.t 3)⟩, ⟨some 2, none, .mov (.t 12)⟩]) (.ret))))
theorem k_retargetref08_Power : FnOk Tryd.prog 97 13 c_retargetref08_Power [.tmp 2] := .mk' (fn := Tryd.f97) rfl rfl (by kernel_rfl) rfl (by kernel_rfl) (by kernel_rfl)
/- "retarget/retargetref08.none" -/
def c_retargetref08_none : C :=
.seq (.reg [⟨some 1, none, .box 6 (.t 0)⟩, ⟨some 2, none, .mov (.c (.pv (.bool false)))⟩]) (.seq (.reg [⟨some 3, none, .fad 0 (.t 1)⟩, ⟨some 4, none, .load none (.t 3)⟩, ⟨some 5, none, .bin .eql (.t 4) (.c (.pv (.int .u8 0)))⟩, ⟨some 6, none, .mov (.t 5)⟩, ⟨some 7, some (6, true), .fad 1 (.t 1)⟩, ⟨some 8, some (6, true), .load none (.t 7)⟩, ⟨some 9, some (6, true), .bin .eql (.t 8) (.c (.pv (.int .i64 0)))⟩, ⟨some 10, none, .land (.t 6) (.t 9)⟩, ⟨some 11, none, .mov (.t 10)⟩, ⟨some 12, some (11, true), .fad 2 (.t 1)⟩, ⟨some 13, some (11, true), .load none (.t 12)⟩, ⟨some 14, some (11, true), .bin .eql (.t 13) (.c (.pv (.int .u64 0)))⟩, ⟨some 15, none, .land (.t 11) (.t 14)⟩, ⟨some 16, none, .mov (.t 15)⟩, ⟨some 17, some (16, true), .fad 3 (.t 1)⟩, ⟨some 18, some (16, true), .load none (.t 17)⟩, ⟨some 19, some (16, true), .bin .eql (.t 18) (.c (.pv (.str ⟨#[]⟩)))⟩, ⟨some 20, none, .land (.t 16) (.t 19)⟩, ⟨some 21, none, .mov (.t 20)⟩, ⟨some 22, some (21, true), .fad 4 (.t 1)⟩, ⟨some 23, some (21, true), .load none (.t 22)⟩, ⟨some 24, some (21, true), .bin .eql (.t 23) (.c (.pv (.int .i64 0)))⟩, ⟨some 25, none, .land (.t 21) (.t 24)⟩, ⟨some 26, none, .mov (.t 25)⟩, ⟨some 27, some (26, true), .fad 5 (.t 1)⟩, ⟨some 28, some (26, true), .load none (.t 27)⟩, ⟨some 29, some (26, true), .len (.t 28)⟩, ⟨some 30, some (26, true), .bin .eql (.t 29) (.c (.pv (.int .i64 0)))⟩, ⟨some 31, none, .land (.t 26) (.t 30)⟩, ⟨some 2, none, .mov (.t 31)⟩]) (.ret))
theorem k_retargetref08_none : FnOk Tryd.prog 98 32 c_retargetref08_none [.tmp 2] := .mk' (fn := Tryd.f98) rfl rfl (by kernel_rfl) rfl (by kernel_rfl) (by kernel_rfl)
/- "retarget/retargetref08.Fits" -/
def c_retargetref08_Fits : C :=
.seq (.reg [⟨some 3, none, .box 7 (.t 0)⟩, ⟨some 4, none, .box 9 (.t 1)⟩, ⟨some 5, none, .box 6 (.t 2)⟩, ⟨some 6, none, .mov (.c (.pv (.bool false)))⟩]) (.seq (.reg [⟨some 7, none, .load (some 6) (.t 5)⟩, ⟨some 8, none, .callf 106 [(.t 7)]⟩, ⟨some 9, none, .bin .eql (.t 8) (.c (.pv (.int .i64 0)))⟩, ⟨some 10, none, .mov (.t 9)⟩, ⟨some 11, some (10, true), .load (some 7) (.t 3)⟩, ⟨some 12, some (10, true), .load (some 9) (.t 4)⟩, ⟨some 13, some (10, true), .load (some 6) (.t 5)⟩, ⟨some 14, some (10, true), .callf 107 [(.t 11), (.t 12), (.t 13)]⟩, ⟨some 15, none, .land (.t 10) (.t 14)⟩, ⟨some 6, none, .mov (.t 15)⟩]) (.ret))
theorem k_retargetref08_Fits : FnOk Tryd.prog 99 16 c_retargetref08_Fits [.tmp 6] := .mk' (fn := Tryd.f99) rfl rfl (by kernel_rfl) rfl (by kernel_rfl) (by kernel_rfl)
/- "retarget/retargetref08.Wide" -/
def c_retargetref08_Wide : C :=
.seq (.reg [⟨some 2, none, .box 7 (.t 0)⟩, ⟨some 3, none, .box 6 (.t 1)⟩, ⟨some 4, none, .mov (.c (.pv (.int .i64 0)))⟩]) (.seq (.seq (.reg [⟨some 5, none, .fad 1 (.t 3)⟩, ⟨some 6, none, .load none (.t 5)⟩, ⟨some 7, none, .bin .eql (.t 6) (.c (.pv (.int .u8 1)))⟩]) (.cond (.t 7) (.seq (.dreg [⟨some 8, none, .fad 3 (.t 2)⟩, ⟨some 9, none, .load none (.t 8)⟩, ⟨some 10, none, .fad 4 (.t 2)⟩, ⟨some 11, none, .load none (.t 10)⟩, ⟨some 12, none, .fad 2 (.t 3)⟩, ⟨some 13, none, .load none (.t 12)⟩, ⟨some 14, none, .iad 2 (.t 11) (.t 13)⟩, ⟨some 15, none, .fad 1 (.t 14)⟩, ⟨some 16, none, .load none (.t 15)⟩, ⟨some 17, none, .iad 1 (.t 16) (.c (.pv (.int .i64 0)))⟩, ⟨some 18, none, .load none (.t 17)⟩, ⟨some 19, none, .iad 4 (.t 9) (.t 18)⟩, ⟨some 20, none, .fad 1 (.t 19)⟩, ⟨some 21, none, .load none (.t 20)⟩, ⟨some 4, none, .mov (.t 21)⟩] [[], [0], [], [2], [], [4], [2, 3, 4, 5], [2, 3, 4, 5, 6], [2, 3, 4, 5, 6, 7], [2, 3, 4, 5, 6, 7, 8], [2, 3, 4, 5, 6, 7, 8, 9], [0, 1, 2, 3, 4, 5, 6, 7, 8, 9, 10], [0, 1, 2, 3, 4, 5, 6, 7, 8, 9, 10, 11], [0, 1, 2, 3, 4, 5, 6, 7, 8, 9, 10, 11, 12], [0, 1, 2, 3, 4, 5, 6, 7, 8, 9, 10, 11, 12, 13]]) (.ret)) (.skip))) (.seq (.reg [⟨some 22, none, .fad 2 (.t 2)⟩, ⟨some 23, none, .load none (.t 22)⟩, ⟨some 4, none, .mov (.t 23)⟩]) (.ret)))
theorem k_retargetref08_Wide : FnOk Tryd.prog 100 24 c_retargetref08_Wide [.tmp 4] := .mk' (fn := Tryd.f100) rfl rfl (by kernel_rfl) rfl (by kernel_rfl) (by kernel_rfl)
/- "retarget/retargetref08.known" -/
def c_retargetref08_known : C :=
.seq (.reg [⟨some 3, none, .box 7 (.t 0)⟩, ⟨some 4, none, .box 9 (.t 1)⟩, ⟨some 5, none, .box 6 (.t 2)⟩, ⟨some 6, none, .mov (.c (.pv (.bool false)))⟩]) (.seq (.seq (.reg [⟨some 8, none, .fad 0 (.t 5)⟩, ⟨some 9, none, .load none (.t 8)⟩, ⟨some 10, none, .bin .eql (.t 9) (.c (.pv (.int .u8 2)))⟩, ⟨some 11, none, .mov (.t 10)⟩, ⟨some 12, some (11, true), .load (some 7) (.t 3)⟩, ⟨some 13, some (11, true), .load (some 9) (.t 4)⟩, ⟨some 14, some (11, true), .fad 3 (.t 5)⟩, ⟨some 15, some (11, true), .load none (.t 14)⟩, ⟨some 16, some (11, true), .fad 1 (.t 5)⟩, ⟨some 17, some (11, true), .load none (.t 16)⟩, ⟨some 18, some (11, true), .callf 118 [(.t 12), (.t 13), (.t 15), (.t 17)]⟩, ⟨some 19, some (11, true), .un .not (.t 18)⟩, ⟨some 20, none, .land (.t 11) (.t 19)⟩]) (.cond (.t 20) (.seq (.reg [⟨some 6, none, .mov (.c (.pv (.bool false)))⟩]) (.ret)) (.skip))) (.seq (.seq (.dreg [⟨some 21, none, .fad 0 (.t 5)⟩, ⟨some 22, none, .load none (.t 21)⟩, ⟨some 23, none, .bin .eql (.t 22) (.c (.pv (.int .u8 24)))⟩, ⟨some 24, none, .mov (.t 23)⟩, ⟨some 25, some (24, true), .fad 5 (.t 5)⟩, ⟨some 26, some (24, true), .load none (.t 25)⟩, ⟨some 27, some (24, true), .iad 6 (.t 26) (.c (.pv (.int .i64 0)))⟩, ⟨some 28, some (24, true), .fad 1 (.t 27)⟩, ⟨some 29, some (24, true), .load none (.t 28)⟩, ⟨some 30, some (24, true), .fad 2 (.t 3)⟩, ⟨some 31, some (24, true), .load none (.t 30)⟩, ⟨some 32, some (24, true), .bin .neq (.t 29) (.t 31)⟩, ⟨some 33, none, .land (.t 24) (.t 32)⟩] [[], [0], [0, 1], [0, 1, 2], [0, 1, 2, 3], [0, 1, 2, 3, 4], [0, 1, 2, 3, 4, 5], [0, 1, 2, 3, 4, 5, 6], [0, 1, 2, 3, 4, 5, 6, 7], [0, 1, 2, 3], [0, 1, 2, 3, 9], [0, 1, 2, 3, 4, 5, 6, 7, 8, 9, 10], [0, 1, 2, 3, 4, 5, 6, 7, 8, 9, 10, 11]]) (.cond (.t 33) (.seq (.reg [⟨some 6, none, .mov (.c (.pv (.bool false)))⟩]) (.ret)) (.skip))) (.seq (.seq (.reg [⟨some 7, none, .mov (.c (.pv (.int .i64 0)))⟩]) (.blk 0 (.loop ⟨[3, 4, 5, 7], [0, 1, 2], 16⟩ (.seq (.seq (.reg [⟨some 34, none, .mov (.t 7)⟩, ⟨some 35, none, .fad 5 (.t 5)⟩, ⟨some 36, none, .load none (.t 35)⟩, ⟨some 37, none, .len (.t 36)⟩, ⟨some 38, none, .bin .lss (.t 34) (.t 37)⟩]) (.cond (.t 38) (.skip) (.ext 0))) (.seq (.blk 1 (.seq (.dreg [⟨some 41, none, .load (some 7) (.t 3)⟩, ⟨some 42, none, .load (some 9) (.t 4)⟩, ⟨some 43, none, .fad 5 (.t 5)⟩, ⟨some 44, none, .load none (.t 43)⟩, ⟨some 45, none, .mov (.t 7)⟩, ⟨some 46, none, .iad 6 (.t 44) (.t 45)⟩, ⟨some 47, none, .load (some 6) (.t 46)⟩, ⟨some 48, none, .callf 107 [(.t 41), (.t 42), (.t 47)]⟩, ⟨some 49, none, .un .not (.t 48)⟩] [[], [], [], [2], [], [2, 3, 4], [2, 3, 4, 5], [0, 1, 2, 3, 4, 5, 6], [0, 1, 2, 3, 4, 5, 6, 7]]) (.cond (.t 49) (.seq (.reg [⟨some 6, none, .mov (.c (.pv (.bool false)))⟩]) (.ret)) (.skip)))) (.reg [⟨some 39, none, .mov (.t 7)⟩, ⟨some 40, none, .bin .add (.t 39) (.c (.pv (.int .i64 1)))⟩, ⟨some 7, none, .mov (.t 40)⟩])))))) (.seq (.reg [⟨some 6, none, .mov (.c (.pv (.bool true)))⟩]) (.ret)))))
theorem k_retargetref08_known : FnOk Tryd.prog 107 50 c_retargetref08_known [.tmp 6] := .mk' (fn := Tryd.f107) rfl rfl (by kernel_rfl) rfl (by kernel_rfl) (by kernel_rfl)
/- "retarget/retargetref08.variable" -/
def c_retargetref08_variable : C :=
.seq (.reg [⟨some 4, none, .box 7 (.t 0)⟩, ⟨some 5, none, .box 9 (.t 1)⟩, ⟨some 8, none, .mov (.c (.pv (.bool false)))⟩]) (.seq (.seq (.reg [⟨some 11, none, .mov (.t 2)⟩, ⟨some 12, none, .bin .eql (.t 11) (.c (.pv (.str ⟨#[112, 99]⟩)))⟩]) (.cond (.t 12) (.seq (.reg [⟨some 13, none, .mov (.t 3)⟩, ⟨some 14, none, .fad 2 (.t 4)⟩, ⟨some 15, none, .load none (.t 14)⟩, ⟨some 16, none, .bin .eql (.t 13) (.t 15)⟩, ⟨some 8, none, .mov (.t 16)⟩]) (.ret)) (.skip))) (.seq (.seq (.reg [⟨some 9, none, .mov (.c (.pv (.int .i64 0)))⟩]) (.blk 0 (.loop ⟨[2, 3, 4, 5, 9], [0, 1], 2⟩ (.seq (.seq (.reg [⟨some 17, none, .mov (.t 9)⟩, ⟨some 18, none, .fad 3 (.t 5)⟩, ⟨some 19, none, .load none (.t 18)⟩, ⟨some 20, none, .len (.t 19)⟩, ⟨some 21, none, .bin .lss (.t 17) (.t 20)⟩]) (.cond (.t 21) (.skip) (.ext 0))) (.seq (.blk 1 (.seq (.reg [⟨some 24, none, .fad 3 (.t 5)⟩, ⟨some 25, none, .load none (.t 24)⟩, ⟨some 26, none, .mov (.t 9)⟩, ⟨some 27, none, .iad 6 (.t 25) (.t 26)⟩, ⟨some 28, none, .fad 0 (.t 27)⟩, ⟨some 29, none, .load none (.t 28)⟩, ⟨some 30, none, .mov (.t 2)⟩, ⟨some 31, none, .bin .eql (.t 29) (.t 30)⟩]) (.cond (.t 31) (.seq (.dreg [⟨some 32, none, .mov (.t 3)⟩, ⟨some 33, none, .load (some 7) (.t 4)⟩, ⟨some 34, none, .fad 3 (.t 5)⟩, ⟨some 35, none, .load none (.t 34)⟩, ⟨some 36, none, .mov (.t 9)⟩, ⟨some 37, none, .iad 6 (.t 35) (.t 36)⟩, ⟨some 38, none, .load (some 6) (.t 37)⟩, ⟨some 39, none, .callf 100 [(.t 33), (.t 38)]⟩, ⟨some 40, none, .bin .eql (.t 32) (.t 39)⟩, ⟨some 8, none, .mov (.t 40)⟩] [[], [], [], [2], [], [2, 3, 4], [2, 3, 4, 5], [1, 2, 3, 4, 5, 6], [0, 1, 2, 3, 4, 5, 6, 7], [0, 1, 2, 3, 4, 5, 6, 7, 8]]) (.ret)) (.skip)))) (.reg [⟨some 22, none, .mov (.t 9)⟩, ⟨some 23, none, .bin .add (.t 22) (.c (.pv (.int .i64 1)))⟩, ⟨some 9, none, .mov (.t 23)⟩])))))) (.seq (.seq (.reg [⟨some 10, none, .mov (.c (.pv (.int .i64 0)))⟩]) (.blk 2 (.loop ⟨[2, 3, 4, 10], [0, 1], 2⟩ (.seq (.seq (.reg [⟨some 41, none, .mov (.t 10)⟩, ⟨some 42, none, .fad 3 (.t 4)⟩, ⟨some 43, none, .load none (.t 42)⟩, ⟨some 44, none, .len (.t 43)⟩, ⟨some 45, none, .bin .lss (.t 41) (.t 44)⟩]) (.cond (.t 45) (.skip) (.ext 2))) (.seq (.blk 3 (.seq (.reg [⟨some 48, none, .fad 3 (.t 4)⟩, ⟨some 49, none, .load none (.t 48)⟩, ⟨some 50, none, .mov (.t 10)⟩, ⟨some 51, none, .iad 4 (.t 49) (.t 50)⟩, ⟨some 52, none, .fad 0 (.t 51)⟩, ⟨some 53, none, .load none (.t 52)⟩, ⟨some 54, none, .bin .add (.c (.pv (.str ⟨#[114, 46]⟩))) (.t 53)⟩, ⟨some 55, none, .mov (.t 2)⟩, ⟨some 56, none, .bin .eql (.t 54) (.t 55)⟩]) (.cond (.t 56) (.seq (.reg [⟨some 57, none, .mov (.t 3)⟩, ⟨some 58, none, .fad 3 (.t 4)⟩, ⟨some 59, none, .load none (.t 58)⟩, ⟨some 60, none, .mov (.t 10)⟩, ⟨some 61, none, .iad 4 (.t 59) (.t 60)⟩, ⟨some 62, none, .fad 1 (.t 61)⟩, ⟨some 63, none, .load none (.t 62)⟩, ⟨some 64, none, .bin .eql (.t 57) (.t 63)⟩, ⟨some 8, none, .mov (.t 64)⟩]) (.ret)) (.skip)))) (.reg [⟨some 46, none, .mov (.t 10)⟩, ⟨some 47, none, .bin .add (.t 46) (.c (.pv (.int .i64 1)))⟩, ⟨some 10, none, .mov (.t 47)⟩])))))) (.seq (.reg [⟨some 8, none, .mov (.c (.pv (.bool false)))⟩]) (.ret)))))
theorem k_retargetref08_variable : FnOk Tryd.prog 118 65 c_retargetref08_variable [.tmp 8] := .mk' (fn := Tryd.f118) rfl rfl (by kernel_rfl) rfl (by kernel_rfl) (by kernel_rfl)
end Go.Proofs.YthocoandbiaoiaaDoorV

namespace Go.Proofs.YthocoandbiaoiaaDoorV
open Go
set_option maxRecDepth 100000
set_option maxHeartbeats 4000000
theorem p_r8_In (gl : Glob) (n a b : Int) : PCall Tryd.prog gl 66 [.pv (.int .i64 n), .pv (.int .i64 a), .pv (.int .i64 b)] (.pv (.bool (inR n a b))) := by
  refine k_retargetref08_In.pcall (by simp) (by simp) (by simp) fun hwf => ?_
  simp [c_retargetref08_In, inR]
theorem two_i64 : ∀ n : Nat, n < 63 → IntKind.i64.wrap (2 ^ n) = 2 ^ n := by decide
theorem p_r8_Power (gl : Glob) (n : Nat) (hn : n < 63) : PCall Tryd.prog gl 97 [.pv (.int .i64 n)] (.pv (.int .i64 (2 ^ n))) := by
  refine k_retargetref08_Power.pcall (by simp) (by simp) (by simp) fun hwf => ?_
  simp [c_retargetref08_Power]
  refine Loop.nat (fun i => { e := [(0, .pv (.int .i64 n)), (3, .pv (.int .i64 (2 ^ i))), (4, .pv (.int .i64 i))], h := [], nx := 0 }) n (fun _ => True) (by simp) (by simp) (by simp) fun i hi hinv => ?_
  simp
  refine ⟨fun hlt => ⟨hlt, ?_, wrap_nat (by omega) (by omega)⟩, fun hge => ?_⟩
  · rw [← two_i64 (i + 1) (by omega)]; congr 1; omega
  · obtain rfl : i = n := by omega
    rfl
theorem half {x : Int} {i : Nat} (h : 0 ≤ x) : (x / 2 ^ i).tdiv 2 = x / 2 ^ (i + 1) := by
  have h0 : (0 : Int) ≤ 2 ^ i := Int.pow_nonneg (by omega)
  rw [Int.tdiv_eq_ediv_of_nonneg (Int.ediv_nonneg h h0), Int.ediv_ediv, if_neg (by omega), Int.pow_succ, Int.sub_zero]
theorem half_le {x : Int} {i : Nat} (h : 0 ≤ x) : 0 ≤ x / 2 ^ i ∧ x / 2 ^ i ≤ x := by
  refine ⟨Int.ediv_nonneg h (Int.pow_nonneg (by omega)), Int.ediv_le_self _ h⟩
theorem p_r8_Below (gl : Glob) (x w : Int) : PCall Tryd.prog gl 46 [.pv (.int .u64 x), .pv (.int .i64 w)] (.pv (.bool (decide (x < 2 ^ w.toNat)))) := by
  refine k_retargetref08_Below.pcall (by simp) (by simp) (by simp) fun hwf => ?_
  simp [IntKind.min, IntKind.max, IntKind.signed, IntKind.bits] at hwf
  obtain ⟨hx, hw⟩ := hwf
  simp [c_retargetref08_Below]
  refine Loop.nat (fun i => { e := [(0, .pv (.int .u64 (x / 2 ^ i))), (1, .pv (.int .i64 w)), (5, .pv (.int .i64 i))], h := [], nx := 0 }) w.toNat (fun _ => True) (by simp) (by simp) (by simp) fun i hi hinv => ?_
  have hh := half_le (i := i + 1) hx.1
  simp
  refine ⟨fun hlt => ⟨by omega, ?_, wrap_nat (by omega) (by omega)⟩, fun hge => ?_⟩
  · rw [half hx.1]; exact wrap_u64 (by omega) (by omega)
  · obtain rfl : i = w.toNat := by omega
    obtain ⟨k, rfl⟩ := Int.eq_ofNat_of_zero_le hx.1
    have e : ((k : Int) / 2 ^ w.toNat) = ((k / 2 ^ w.toNat : Nat) : Int) := by push_cast; rfl
    have e2 : ((2 : Int) ^ w.toNat) = ((2 ^ w.toNat : Nat) : Int) := by push_cast; rfl
    rw [e, e2]
    have := Nat.div_eq_zero_iff_lt (x := k) (Nat.pow_pos (n := w.toNat) (show 0 < 2 by omega))
    omega
theorem p_r8_Bit (gl : Glob) (w : Int) (n : Nat) (hn : n < 2 ^ 62) : PCall Tryd.prog gl 85 [.pv (.int .u64 w), .pv (.int .i64 n)] (.pv (.int .i64 (bitI w n))) := by
  refine k_retargetref08_Bit.pcall (by simp) (by simp) (by simp) fun hwf => ?_
  simp [IntKind.min, IntKind.max, IntKind.signed, IntKind.bits] at hwf
  simp [c_retargetref08_Bit]
  refine Loop.nat (fun i => { e := [(0, .pv (.int .u64 (w / 2 ^ i))), (1, .pv (.int .i64 n)), (5, .pv (.int .i64 i))], h := [], nx := 0 }) n (fun _ => True) (by simp) (by simp) (by simp) fun i hi hinv => ?_
  have hh := half_le (i := i + 1) hwf.1.1
  have hh2 := half_le (i := i) hwf.1.1
  simp
  refine ⟨fun hlt => ⟨hlt, ?_, wrap_nat (by omega) (by omega)⟩, fun hge => ?_⟩
  · rw [half hwf.1.1]; exact wrap_u64 (by omega) (by omega)
  · obtain rfl : i = n := by omega
    rw [Int.tmod_eq_emod_of_nonneg hh2.1]
    exact wrap_nat (by omega) (by omega)
theorem p_r8_Field (gl : Glob) (o : Opnd) : PCall Tryd.prog gl 96 [.pv o.pv] (.pv (.int .i64 (fieldI o))) := by
  refine k_retargetref08_Field.pcall (by simp) (by simp) (by simp) fun hwf => ?_
  have hb : o.pieces.length ≤ 9223372036854775807 := by have := hwf (.pv o.pv) (by simp); simp only [DV.wf] at this; rw [Opnd.wf_pv] at this; simp [-Opnd.fold, maxLen] at this; exact this.2.2.2.2.1.1
  simp [c_retargetref08_Field]
  refine Loop.nat (fun i => { e := [(1, .ptr 0 0), (3, .pv (.int .i64 (fieldN o.pieces i))), (4, .pv (.int .i64 i))], h := [(0, o.bx)], nx := 1 }) o.pieces.length (fun _ => True) (by simp [Opnd.bx]) (by simp) (by simp [Opnd.bx, fieldN]) fun i hi hinv => ?_
  by_cases hlt : i < o.pieces.length
  · simp [hlt, Opnd.bx, fieldN, wrap_nat (show (0:Int) ≤ i + 1 by omega) (by omega)]
  · obtain rfl : i = o.pieces.length := by omega
    simp [fieldI, Opnd.bx]
theorem p_r8_okPieces (gl : Glob) (o : Opnd) (word : Int) (hw : 1 ≤ word ∧ word ≤ 4) : PCall Tryd.prog gl 95 [.pv o.pv, .pv (.int .i64 word)] (.pv (.bool (okPieces o word))) := by
  refine k_retargetref08_okPieces.pcall (by simp) (by simp) (by simp) fun hwf => ?_
  have hb : o.pieces.length ≤ 9223372036854775807 := by have := hwf (.pv o.pv) (by simp); simp only [DV.wf] at this; rw [Opnd.wf_pv] at this; simp [-Opnd.fold, maxLen] at this; exact this.2.2.2.2.1.1
  simp [c_retargetref08_okPieces]
  refine Loop.nat (fun i => { e := [(1, .pv (.int .i64 word)), (2, .ptr 0 0), (5, .pv (.int .i64 i))], h := [(0, o.bx)], nx := 1 }) o.pieces.length (fun i => allB i (rngOk word o.pieces) = true) (by simp [Opnd.bx]) (by simp) (by simp [Opnd.bx]) fun i hi hinv => ?_
  by_cases hlt : i < o.pieces.length
  · simp [hlt, Opnd.bx]
    refine CallNext.pure (p_r8_In gl _ _ _) fun _ => ?_
    simp
    refine ⟨_, by intros; exact .of (p_r8_In gl _ _ _), by simp, ?_⟩
    simp [hlt, Opnd.bx, wrap_nat (show (0:Int) ≤ i + 1 by omega) (by omega)]
    have hL : ∀ j, okPieces o word = true → j < o.pieces.length → rngOk word o.pieces j = true := fun j h hj => allB_true.1 h j hj
    rw [wrap_i64 (n := 8 * word) (by omega) (by omega)]
    by_cases h1 : inR (gt o.pieces (i : Nat)).len 1 (8 * word) = true
    · have h1' : 1 ≤ (gt o.pieces (i : Nat)).len ∧ (gt o.pieces (i : Nat)).len ≤ 8 * word := by simpa [inR] using h1
      rw [wrap_i64 (by omega) (by omega)]
      refine ⟨fun h => ?_, fun _ h2 => ?_⟩
      · rw [Bool.eq_false_iff]; intro hok
        have := hL i hok hlt
        simp only [rngOk, Bool.and_eq_true] at this
        rcases h with h | h
        · simp [h1] at h
        · simp [this.2] at h
      · rw [allB_succ, hinv]; simp [rngOk, h1, h2]
    · refine ⟨fun _ => ?_, fun h => absurd h h1⟩
      rw [Bool.eq_false_iff]; intro hok
      have := hL i hok hlt
      simp only [rngOk, Bool.and_eq_true] at this
      exact h1 this.1
  · obtain rfl : i = o.pieces.length := by omega
    simp [Opnd.bx]
    exact hinv
theorem p_r8_none (gl : Glob) (t : Tm) : PCall Tryd.prog gl 98 [.pv t.pv] (.pv (.bool (noneB t))) := by
  refine k_retargetref08_none.pcall (by simp) (by simp) (by simp) fun hwf => ?_
  simp [c_retargetref08_none, noneB, Tm.bx]
end Go.Proofs.YthocoandbiaoiaaDoorV

namespace Go.Proofs.YthocoandbiaoiaaDoorV
open Go
set_option maxRecDepth 100000
set_option maxHeartbeats 4000000
theorem p_r8_within (gl : Glob) (m : Mach) : PCall Tryd.prog gl 64 [.pv m.pv] (.pv (.bool (inLimits m))) := by
  refine k_retargetref08_within.pcall (by simp) (by simp) (by simp) fun hwf => ?_
  obtain ⟨hb1, hb2, hb3, hb4, hb5, hb6⟩ := mach_bd (hwf (.pv m.pv) (by simp))
  simp [c_retargetref08_within]
  refine ⟨fun h => ?_, fun g1 g2 g3 g4 => ?_⟩
  · rw [Bool.eq_false_iff]; intro hl
    have := inLimits_iff hl
    omega
  refine Loop.nat (fun i => { e := [(1, .ptr 0 0), (3, .pv (.int .i64 i))], h := [(0, m.bx)], nx := 1 }) m.banks.length (fun i => ∀ k, k < i → (gt m.banks (k : Nat)).regs.length ≤ 64) (by simp [Mach.bx]) (by simp) (by simp [Mach.bx]) fun i hi hinv => ?_
  by_cases hlt : i < m.banks.length
  · have hm := gt_mem (l := m.banks) (i := (i : Nat)) (by omega) (by omega)
    simp [hlt, Mach.bx, wrap_nat (show (0:Int) ≤ i + 1 by omega) (by omega)]
    refine ⟨fun h => ?_, fun h k hk => ?_⟩
    · rw [Bool.eq_false_iff]; intro hl
      have := (inLimits_iff hl).2.2.2.2.1 _ hm
      omega
    · rcases Nat.lt_or_eq_of_le (Nat.le_of_lt_succ hk) with hk | rfl
      · exact hinv k hk
      · omega
  obtain rfl : i = m.banks.length := by omega
  have hB := hinv
  simp [Mach.bx]
  refine Loop.nat (fun i => { e := [(1, .ptr 0 0), (4, .pv (.int .i64 i))], h := [(0, m.bx)], nx := 1 }) m.instrs.length (fun i => ∀ k, k < i → insSmall (gt m.instrs (k : Nat)) = true) (by simp [Mach.bx]) (by simp) (by simp [Mach.bx]) fun i hi hinv => ?_
  by_cases hlt : i < m.instrs.length
  · have hm := gt_mem (l := m.instrs) (i := (i : Nat)) (by omega) (by omega)
    have hb7 := hb6 _ hm
    have hw1 : IntKind.i64.wrap ((i : Int) + 1) = (i : Int) + 1 := wrap_nat (by omega) (by omega)
    have hout : ¬ insSmall (gt m.instrs (i : Nat)) = true → inLimits m = false := fun h => by
      rw [Bool.eq_false_iff]; intro hl
      have h7 := (inLimits_iff hl).2.2.2.2.2 _ hm
      apply h
      simp only [insSmall, Bool.and_eq_true, decide_eq_true_eq, List.all_eq_true]
      exact ⟨⟨h7.1, h7.2.1⟩, h7.2.2⟩
    have hne : m.instrs ≠ [] := by intro h; simp [h] at hlt
    simp [hlt, Mach.bx]
    refine ⟨fun h => hout ?_, fun g5 g6 => ?_⟩
    · simp only [insSmall, Bool.and_eq_true, decide_eq_true_eq]; omega
    generalize hs : gt m.instrs (i : Nat) = s at *
    refine Loop.nat (fun k => { e := [(1, .ptr 0 0), (4, .pv (.int .i64 i)), (5, .pv (.int .i64 k))], h := [(0, m.bx)], nx := 1 }) s.operands.length (fun k => ∀ j, j < k → (gt s.operands (j : Nat)).pieces.length ≤ 4) (by simp [Mach.bx]) (by simp) (by simp [Mach.bx]) fun k hk hinv2 => ?_
    by_cases hkt : k < s.operands.length
    · have hmk := gt_mem (l := s.operands) (i := (k : Nat)) (by omega) (by omega)
      simp [hlt, hs, hkt, Mach.bx, wrap_nat (show (0:Int) ≤ k + 1 by omega) (by omega)]
      refine ⟨fun h => hout ?_, fun h j hj => ?_⟩
      · simp only [insSmall, Bool.and_eq_true, decide_eq_true_eq, List.all_eq_true]
        intro hh; have := hh.2 _ hmk; omega
      · rcases Nat.lt_or_eq_of_le (Nat.le_of_lt_succ hj) with hj | rfl
        · exact hinv2 j hj
        · omega
    · obtain rfl : k = s.operands.length := by omega
      simp [hlt, hs, hw1, Mach.bx]
      intro j hj
      rcases Nat.lt_or_eq_of_le (Nat.le_of_lt_succ hj) with hj | rfl
      · exact hinv j hj
      · rw [hs]
        simp only [insSmall, Bool.and_eq_true, decide_eq_true_eq, List.all_eq_true]
        refine ⟨⟨by omega, by omega⟩, fun o ho => ?_⟩
        obtain ⟨q, hq, rfl⟩ := List.getElem_of_mem ho
        have := hinv2 q hq
        rwa [gt_nat hq] at this
  · obtain rfl : i = m.instrs.length := by omega
    simp [Mach.bx, inLimits]
    refine ⟨⟨⟨⟨⟨by omega, by omega⟩, by omega⟩, by omega⟩, fun b hb => ?_⟩, fun s hs => ?_⟩
    · obtain ⟨q, hq, rfl⟩ := List.getElem_of_mem hb
      have := hB q hq
      rwa [gt_nat hq] at this
    · obtain ⟨q, hq, rfl⟩ := List.getElem_of_mem hs
      have := hinv q hq
      rw [gt_nat hq] at this
      simpa only [insSmall, Bool.and_eq_true, decide_eq_true_eq, List.all_eq_true] using this
theorem p_r8_okUnits (gl : Glob) (m : Mach) : PCall Tryd.prog gl 69 [.pv m.pv] (.pv (.bool (okUnits m))) := by
  refine k_retargetref08_okUnits.pcall (by simp) (by simp) (by simp) fun hwf => ?_
  obtain ⟨hb1, hb2, hb3, hb4, hb5, hb6⟩ := mach_bd (hwf (.pv m.pv) (by simp))
  simp [c_retargetref08_okUnits]
  refine Loop.nat (fun i => { e := [(1, .ptr 0 0), (3, .pv (.int .i64 i))], h := [(0, m.bx)], nx := 1 }) m.units.length (fun i => allB i (unitOk m) = true) (by simp [Mach.bx]) (by simp) (by simp [Mach.bx]) fun i hi hinv => ?_
  by_cases hlt : i < m.units.length
  · have hw1 : IntKind.i64.wrap ((i : Int) + 1) = (i : Int) + 1 := wrap_nat (by omega) (by omega)
    have hne : m.units ≠ [] := by intro h; simp [h] at hlt
    have hout : unitOk m i = false → okUnits m = false := fun h => by simp [okUnits, allB_false hlt h]
    simp [hlt, hne, Mach.bx]
    refine CallNext.pure (p_retargetref01_Name gl _) fun _ => ?_
    simp [hne, hlt]
    refine ⟨_, by intros; exact .of (p_r8_In gl _ _ _), by simp, ?_⟩
    simp
    refine ⟨fun h => ?_, fun g1 g2 => ?_⟩
    · refine hout ?_
      rcases h with h | h <;> simp [unitOk, h]
    refine Loop.nat (fun k => { e := [(1, .ptr 0 0), (3, .pv (.int .i64 i)), (4, .pv (.int .i64 k))], h := [(0, m.bx)], nx := 1 }) i (fun k => (allB k fun j => !decide ((gt m.units (j : Nat)).name = (gt m.units (i : Nat)).name)) = true) (by simp [Mach.bx]) (by simp) (by simp [Mach.bx]) fun k hk hinv2 => ?_
    by_cases hkt : k < i
    · simp [hkt, hlt, hne, show k < m.units.length by omega, Mach.bx, wrap_nat (show (0:Int) ≤ k + 1 by omega) (by omega)]
      refine ⟨fun h => hout ?_, fun h => ?_⟩
      · simp only [unitOk]; rw [allB_false hkt (by simp [h])]; simp
      · rw [allB_succ, hinv2]; simpa using h
    · obtain rfl : k = i := by omega
      simp [hlt, hw1, Mach.bx]
      rw [allB_succ, hinv]; simp [unitOk, g1, g2, hinv2]
  · obtain rfl : i = m.units.length := by omega
    simp [Mach.bx, okUnits, hinv]
theorem p_r8_okRegs (gl : Glob) (m : Mach) (hbd : m.regs.length ≤ 500) : PCall Tryd.prog gl 67 [.pv m.pv] (.pv (.bool (okRegs m))) := by
  refine k_retargetref08_okRegs.pcall (by simp) (by simp) (by simp) fun hwf => ?_
  simp [c_retargetref08_okRegs]
  refine Loop.nat (fun i => { e := [(1, .ptr 0 0), (3, .pv (.int .i64 i))], h := [(0, m.bx)], nx := 1 }) m.regs.length (fun i => allB i (rgOk m) = true) (by simp [Mach.bx]) (by simp) (by simp [Mach.bx]) fun i hi hinv => ?_
  by_cases hlt : i < m.regs.length
  · have hw1 : IntKind.i64.wrap ((i : Int) + 1) = (i : Int) + 1 := wrap_nat (by omega) (by omega)
    have hne : m.regs ≠ [] := by intro h; simp [h] at hlt
    have hout : rgOk m i = false → okRegs m = false := fun h => by simp [okRegs, allB_false hlt h]
    simp [hlt, Mach.bx]
    generalize hr : gt m.regs (i : Nat) = r at *
    refine CallNext.pure (p_retargetref01_Name gl _) fun _ => ?_
    simp
    refine ⟨_, by intros; exact .of (p_r8_In gl _ _ _), by simp, ?_⟩
    simp
    refine ⟨fun h => ?_, fun g1 g2 => ?_⟩
    · refine hout ?_
      rcases h with h | h <;> simp [rgOk, hr, h]
    refine Loop.nat (fun k => { e := [(1, .ptr 0 0), (3, .pv (.int .i64 i)), (4, .ptr 1 0), (5, .pv (.int .i64 k))], h := [(0, m.bx), (1, r.bx)], nx := 2 }) i (fun k => (allB k fun j => !decide ((gt m.regs (j : Nat)).name = r.name)) = true) (by simp [Mach.bx, Reg.bx]) (by simp) (by simp [Mach.bx, Reg.bx]) fun k hk hinv2 => ?_
    by_cases hkt : k < i
    · simp [hkt, hlt, hne, show k < m.regs.length by omega, Mach.bx, Reg.bx, wrap_nat (show (0:Int) ≤ k + 1 by omega) (by omega)]
      refine ⟨fun h => hout ?_, fun h => ?_⟩
      · simp only [rgOk, hr]; rw [allB_false hkt (by simp [h])]; simp
      · rw [allB_succ, hinv2]; simpa using h
    obtain rfl : k = i := by omega
    simp [hlt, hw1, Mach.bx, Reg.bx]
    refine ⟨fun ho => ⟨fun hl => hout (by simp [rgOk, hr, ho, hl]), fun hl => ?_⟩, fun ho => ?_⟩
    · rw [allB_succ, hinv]; simp [rgOk, hr, g1, g2, ho, hl, hinv2]
    refine CallNext.pure (p_r8_In gl _ _ _) fun _ => ?_
    simp
    rw [wrap_i64 (by omega) (by omega)]
    refine ⟨fun hno => hout (by simp [rgOk, hr, ho, hno]), fun hin => ?_⟩
    have hin' : 0 ≤ r.of ∧ r.of ≤ (m.regs.length : Int) - 1 := by simpa [inR] using hin
    simp [hne]
    refine ⟨by omega, ?_⟩
    refine ⟨_, by intros; exact .of (p_r8_In gl _ _ _), by simp, ?_⟩
    simp
    refine ⟨_, by intros; exact .of (p_r8_In gl _ _ _), by simp, ?_⟩
    simp [hlt, hw1, Mach.bx]
    generalize hrt : gt m.regs r.of = rt at *
    have hX : rgOk m k = (decide (rt.of = -1) && inR rt.width 1 64 && decide (r.width < rt.width) && inR r.low 0 (rt.width - r.width)) := by
      rw [rgOk]; simp only [hr, hrt, g1, g2, hinv2, ho, hin, if_false, Bool.true_and]
    by_cases hw : inR rt.width 1 64 = true
    · have e1 : 1 ≤ rt.width ∧ rt.width ≤ 64 := by simpa [inR] using hw
      have e2 : 1 ≤ r.width ∧ r.width ≤ 64 := by simpa [inR] using g2
      rw [wrap_i64 (by omega) (by omega)]
      refine ⟨fun h => hout ?_, fun a b c d => ?_⟩
      · rw [hX]
        rcases h with ((h | h) | h) | h
        · simp [h]
        · simp [h]
        · simp [show ¬ r.width < rt.width by omega]
        · simp [h]
      · rw [allB_succ, hinv, hX]; simp [a, b, c, d]
    · exact ⟨fun _ => hout (by rw [hX]; simp [hw]), fun _ b => absurd b hw⟩
  · obtain rfl : i = m.regs.length := by omega
    simp [Mach.bx, okRegs, hinv]
end Go.Proofs.YthocoandbiaoiaaDoorV

namespace Go.Proofs.YthocoandbiaoiaaDoorV
open Go
set_option maxRecDepth 100000
set_option maxHeartbeats 4000000
theorem p_r8_okBanks (gl : Glob) (m : Mach) (hbd : m.regs.length ≤ 500) : PCall Tryd.prog gl 68 [.pv m.pv] (.pv (.bool (okBanks m))) := by
  refine k_retargetref08_okBanks.pcall (by simp) (by simp) (by simp) fun hwf => ?_
  obtain ⟨hb1, hb2, hb3, hb4, hb5, hb6⟩ := mach_bd (hwf (.pv m.pv) (by simp))
  simp [c_retargetref08_okBanks]
  refine Loop.nat (fun i => { e := [(1, .ptr 0 0), (3, .pv (.int .i64 i))], h := [(0, m.bx)], nx := 1 }) m.banks.length (fun i => allB i (bankOk m) = true) (by simp [Mach.bx]) (by simp) (by simp [Mach.bx]) fun i hi hinv => ?_
  by_cases hlt : i < m.banks.length
  · have hw1 : IntKind.i64.wrap ((i : Int) + 1) = (i : Int) + 1 := wrap_nat (by omega) (by omega)
    have hne : m.banks ≠ [] := by intro h; simp [h] at hlt
    have hout : bankOk m i = false → okBanks m = false := fun h => by simp [okBanks, allB_false hlt h]
    have hb7 := hb5 _ (gt_mem (l := m.banks) (i := (i : Nat)) (by omega) (by omega))
    simp [hlt, Mach.bx]
    generalize hb : gt m.banks (i : Nat) = b at *
    refine CallNext.pure (p_retargetref01_Name gl _) fun _ => ?_
    simp
    refine ⟨fun h => ?_, fun g1 g2 => ?_⟩
    · refine hout ?_
      rcases h with h | h <;> simp [bankOk, hb, h]
    have g2' : 0 < b.regs.length := List.length_pos_iff.2 g2
    refine Loop.nat (fun k => { e := [(1, .ptr 0 0), (3, .pv (.int .i64 i)), (4, .ptr 1 0), (5, .pv (.int .i64 k))], h := [(0, m.bx), (1, b.bx)], nx := 2 }) i (fun k => (allB k fun j => !decide ((gt m.banks (j : Nat)).name = b.name)) = true) (by simp [Mach.bx, Bank.bx]) (by simp) (by simp [Mach.bx, Bank.bx]) fun k hk hinv2 => ?_
    by_cases hkt : k < i
    · simp [hkt, hlt, hne, show k < m.banks.length by omega, Mach.bx, Bank.bx, wrap_nat (show (0:Int) ≤ k + 1 by omega) (by omega)]
      refine ⟨fun h => hout ?_, fun h => ?_⟩
      · simp only [bankOk, hb]; rw [allB_false hkt (by simp [h])]; simp
      · rw [allB_succ, hinv2]; simpa using h
    obtain rfl : k = i := by omega
    simp [Mach.bx, Bank.bx]
    let q : Nat → Bool := fun j => inR (gt b.regs (j : Nat)) 0 (m.regs.length - 1) && allB j (fun l => !decide (gt b.regs (l : Nat) = gt b.regs (j : Nat))) && decide ((gt m.regs (gt b.regs (j : Nat))).width = (gt m.regs (gt b.regs 0)).width)
    have hq : bankOk m k = allB b.regs.length q := by
      rw [bankOk]; simp only [hb, g1, hinv2, g2', decide_true, Bool.true_and]; rfl
    refine Loop.nat (fun j => { e := [(1, .ptr 0 0), (3, .pv (.int .i64 k)), (4, .ptr 1 0), (6, .pv (.int .i64 j))], h := [(0, m.bx), (1, b.bx)], nx := 2 }) b.regs.length (fun j => allB j q = true) (by simp [Mach.bx, Bank.bx]) (by simp) (by simp [Mach.bx, Bank.bx]) fun j hj hinv3 => ?_
    by_cases hjt : j < b.regs.length
    · have hw3 : IntKind.i64.wrap ((j : Int) + 1) = (j : Int) + 1 := wrap_nat (by omega) (by omega)
      have hout2 : q j = false → okBanks m = false := fun h => hout (by rw [hq, allB_false hjt h])
      simp [hjt, g2, Mach.bx, Bank.bx]
      refine DCallNext.pure (p_r8_In gl _ _ _) ?_
      simp
      rw [wrap_i64 (by omega) (by omega)]
      refine ⟨fun h => hout2 (by simp [q, h]), fun h1 => ?_⟩
      have h1' : 0 ≤ gt b.regs (j : Nat) ∧ gt b.regs (j : Nat) ≤ (m.regs.length : Int) - 1 := by simpa [inR] using h1
      refine Loop.nat (fun l => { e := [(1, .ptr 0 0), (3, .pv (.int .i64 k)), (4, .ptr 1 0), (6, .pv (.int .i64 j)), (7, .pv (.int .i64 l))], h := [(0, m.bx), (1, b.bx)], nx := 13 }) j (fun n => (allB n fun l => !decide (gt b.regs (l : Nat) = gt b.regs (j : Nat))) = true) (by simp [Mach.bx, Bank.bx]) (by simp) (by simp [Mach.bx, Bank.bx]) fun l hl hinv4 => ?_
      by_cases hlt2 : l < j
      · simp [hlt2, hjt, g2, show l < b.regs.length by omega, Mach.bx, Bank.bx, wrap_nat (show (0:Int) ≤ l + 1 by omega) (by omega)]
        refine ⟨fun h => hout2 ?_, fun h => ?_⟩
        · simp only [q]; rw [allB_false hlt2 (by simp [h])]; simp
        · rw [allB_succ, hinv4]; simpa using h
      obtain rfl : l = j := by omega
      have hmne : m.regs ≠ [] := by intro h; simp [h] at h1'; omega
      have h0' : 0 ≤ gt b.regs 0 ∧ gt b.regs 0 ≤ (m.regs.length : Int) - 1 := by
        rcases Nat.eq_zero_or_pos l with rfl | hk0
        · simpa using h1'
        · have := allB_true.1 hinv3 0 hk0
          simp only [q, Bool.and_eq_true] at this
          simpa [inR] using this.1.1
      simp [hjt, g2, hmne, hw3, Mach.bx, Bank.bx]
      refine ⟨by omega, by omega, by omega, ?_⟩
      refine ⟨fun h => hout2 (by simp [q, h]), fun h => ?_⟩
      rw [allB_succ, hinv3]; simp [q, h1, hinv4, h]
    · obtain rfl : j = b.regs.length := by omega
      simp [hlt, hw1, Mach.bx, Bank.bx]
      rw [allB_succ, hinv, hq, hinv3]; rfl
  · obtain rfl : i = m.banks.length := by omega
    simp [Mach.bx, okBanks, hinv]
theorem p_r8_okOperand (gl : Glob) (m : Mach) (s : Ins_) (i : Nat) (hi : i < s.operands.length) (hw : 1 ≤ m.word ∧ m.word ≤ 4) (hil : s.operands.length ≤ 500) (hb : m.banks.length ≤ 500) (hp : (gt s.operands (i : Nat)).pieces.length ≤ 500) : PCall Tryd.prog gl 86 [.pv m.pv, .pv s.pv, .pv (.int .i64 i)] (.pv (.bool (okOperand m s i))) := by
  refine k_retargetref08_okOperand.pcall (by simp) (by simp) (by simp) fun hwf => ?_
  have hone : s.operands ≠ [] := by intro h; simp [h] at hi
  simp [c_retargetref08_okOperand, hi]
  generalize ho : gt s.operands (i : Nat) = o at *
  refine CallNext.pure (p_retargetref01_Name gl _) fun _ => ?_
  simp
  refine ⟨_, by intros; exact .of (p_r8_okPieces gl o m.word hw), by simp, ?_⟩
  simp
  have hname : isName o.name = false ∨ o.name = pc ∨ okPieces o m.word = false → okOperand m s i = false := fun h => by
    simp only [okOperand, ho]
    rcases h with h | h | h <;> simp [h]
  refine ⟨fun h => hname (by rcases h with (h | h) | h; exact .inl h; exact .inr (.inl h); exact .inr (.inr h)), fun g1 g2 g3 => ?_⟩
  refine Loop.nat (fun k => { e := [(2, .pv (.int .i64 i)), (3, .ptr 0 0), (4, .ptr 1 0), (7, .ptr 2 0), (8, .pv (.int .i64 k))], h := [(0, m.bx), (1, s.bx), (2, o.bx)], nx := 3 }) i (fun k => (allB k fun j => !decide ((gt s.operands (j : Nat)).name = o.name)) = true) (by simp [Mach.bx, Ins_.bx, Opnd.bx]) (by simp) (by simp [Mach.bx, Ins_.bx, Opnd.bx]) fun k hk hinv => ?_
  by_cases hkt : k < i
  · simp [hkt, hone, show k < s.operands.length by omega, Mach.bx, Ins_.bx, Opnd.bx, wrap_nat (show (0:Int) ≤ k + 1 by omega) (by omega)]
    refine ⟨fun h => ?_, fun h => ?_⟩
    · simp only [okOperand, ho]; rw [allB_false hkt (by simp [h])]; simp
    · rw [allB_succ, hinv]; simpa using h
  obtain rfl : k = i := by omega
  have g2' : ¬ o.name = pc := g2
  have hok : okOperand m s k = kindOk m s k := by
    rw [okOperand, kindOk]; simp only [ho, g1, g2', g3, hinv, decide_false, Bool.not_false, Bool.true_and]
  have hfld : 0 ≤ fieldI o ∧ fieldI o ≤ 16000 := by
    have := fieldN_le hw o.pieces.length hp fun j hj => allB_true.1 g3 j hj
    unfold fieldI; omega
  by_cases hk1 : o.kind = 1
  · have hkd : kindOk m s k = (inR o.bank 0 (m.banks.length - 1) && decide (o.scale = 0) &&
        if o.tied = -1 then decide (0 < fieldI o) && (decide (6 < fieldI o) || decide (((gt m.banks o.bank).regs.length : Int) ≤ 2 ^ (fieldI o).toNat))
        else inR o.tied 0 (k - 1) && decide (o.pieces.length = 0) && (let t := gt s.operands o.tied; decide (t.kind = 1) && decide (t.bank = o.bank) && decide (t.tied = -1))) := by simp only [kindOk, ho, hk1, if_true]
    simp [Mach.bx, Opnd.bx, hk1]
    refine CallNext.pure (p_r8_In gl _ _ _) fun _ => ?_
    simp
    rw [wrap_i64 (by omega) (by omega)]
    refine ⟨fun h => ?_, fun a3 a4 => ⟨fun htd => ?_, fun htd => ?_⟩⟩
    · rw [hok, hkd]; rcases h with h | h <;> simp [h]
    · have a3' : 0 ≤ o.bank ∧ o.bank ≤ (m.banks.length : Int) - 1 := by simpa [inR] using a3
      have hbne : m.banks ≠ [] := by intro h; simp [h] at a3'; omega
      refine CallNext.pure (by have := p_r8_Field gl o; rw [Opnd.pv_eq, hk1] at this; exact this) fun _ => ?_
      have hpw : ¬ 6 < fieldI o → PCall Tryd.prog gl 97 [.pv (.int .i64 (fieldI o))] (.pv (.int .i64 (2 ^ (fieldI o).toNat))) := fun h => by
        have := p_r8_Power gl (fieldI o).toNat (by omega)
        rwa [Int.toNat_of_nonneg (by omega)] at this
      simp [hbne]
      refine ⟨⟨fun _ _ => by omega, fun _ _ => by omega⟩, _, fun _ h => .of (hpw (by omega)), by simp, ?_⟩
      simp
      rw [hok, hkd]
      simp [htd, a3, a4]
    · have hkd2 := hkd
      rw [if_neg htd] at hkd2
      refine CallNext.pure (p_r8_In gl _ _ _) fun _ => ?_
      simp
      rw [wrap_i64 (by omega) (by omega)]
      refine ⟨fun h => ?_, fun b1 b2 => ?_⟩
      · rw [hok, hkd2]; rcases h with h | h
        · simp [h]
        · simp [show o.pieces ≠ [] from by first | exact h | (intro hh; simp [hh] at h)]
      · have b1' : 0 ≤ o.tied ∧ o.tied ≤ (k : Int) - 1 := by simpa [inR] using b1
        simp [Ins_.bx, hone, show 0 ≤ o.tied by omega, show o.tied < (s.operands.length : Int) by omega]
        rw [hok, hkd2]; simp [a3, a4, b1, b2]
  · by_cases hk2 : o.kind = 2 ∨ o.kind = 3 ∨ o.kind = 4
    · have hkd : kindOk m s k = (decide (o.bank = 0) && decide (o.tied = -1) && inR o.scale 0 3 && decide (0 < fieldI o) && decide (fieldI o + o.scale ≤ m.address)) := by simp only [kindOk, ho, hk1, if_false, hk2, if_true]
      rcases hk2 with hk2 | hk2 | hk2
      all_goals
        simp [Mach.bx, Opnd.bx, hk2]
        refine ⟨_, by intros; exact .of (p_r8_In gl _ _ _), by simp, ?_⟩
        simp
        refine ⟨_, by intros; exact .of (by have := p_r8_Field gl o; rw [Opnd.pv_eq, hk2] at this; exact this), by simp, ?_⟩
        simp
        refine ⟨_, by intros; exact .of (by have := p_r8_Field gl o; rw [Opnd.pv_eq, hk2] at this; exact this), by simp, ?_⟩
        simp
        rw [hok, hkd]
        by_cases hsc : inR o.scale 0 3 = true
        · have : 0 ≤ o.scale ∧ o.scale ≤ 3 := by simpa [inR] using hsc
          rw [wrap_i64 (by omega) (by omega)]
        · simp [hsc]
    · have hk : o.kind ≠ 2 ∧ o.kind ≠ 3 ∧ o.kind ≠ 4 := by omega
      have hkd : kindOk m s k = false := by simp only [kindOk, ho, hk1, if_false, hk2]
      simp [Mach.bx, Opnd.bx, hk1, hk, hok, hkd]
end Go.Proofs.YthocoandbiaoiaaDoorV

namespace Go.Proofs.YthocoandbiaoiaaDoorV
open Go
set_option maxRecDepth 100000
set_option maxHeartbeats 4000000
theorem p_retargetref02_Formed (gl : Glob) (n : Nat) : ∀ t : Tm, SizeOf.sizeOf t < n → PCall Tryd.prog gl 116 [.pv t.pv] (.pv (.bool t.formed)) := by
  induction n with
  | zero => intro t h; omega
  | succ n ih =>
  intro t hn
  refine k_retargetref02_Formed.pcall (by simp) (by simp) (by simp) fun hwf => ?_
  have hb := Tm.wf_sub (by simpa using hwf)
  simp [c_retargetref02_Formed]
  refine Loop.nat (fun i => { e := [(1, .ptr 0 0), (3, .pv (.int .i64 i))], h := [(0, t.bx)], nx := 1 }) t.sub.length (fun i => ∀ j, j < i → (gt t.sub (j : Nat)).formed = true) (by simp) (by simp) (by simp [Tm.bx]) fun i hi hinv => ?_
  by_cases hlt : i < t.sub.length
  · simp [Tm.bx, hlt]
    refine CallNext.pure (ih (gt t.sub i) (by have := Tm.size_gt hlt; omega)) fun _ => ?_
    simp [hlt, wrap_nat (show (0:Int) ≤ i + 1 by omega) (by omega)]
    refine ⟨fun h => ?_, fun h j hj => ?_⟩
    · rw [t.formed_eq, Tm.formedL_eq]
      simp; intro h'; have := h' _ (gt_mem (l := t.sub) (i := i) (by omega) (by omega)); simp [h] at this
    · rcases Nat.lt_or_eq_of_le (Nat.le_of_lt_succ hj) with hj | rfl
      · exact hinv j hj
      · exact h
  · obtain rfl : i = t.sub.length := by omega
    have hall : Tm.formedL t.sub = true := by
      rw [Tm.formedL_eq, List.all_eq_true]
      intro x hx
      obtain ⟨j, hj, rfl⟩ := List.getElem_of_mem hx
      have := hinv j hj
      rwa [gt_nat hj] at this
    have hf : t.formed = t.okNode := by rw [t.formed_eq, hall]; simp
    have hw : ∀ j : Nat, j < t.sub.length → 1 ≤ (gt t.sub (j : Nat)).width ∧ (gt t.sub (j : Nat)).width ≤ 64 := fun j hj => Tm.formed_width (hinv j hj)
    simp [Tm.bx]
    have hne0 : ¬ t.sub = [] → 0 < t.sub.length := fun h => by cases hs : t.sub <;> simp_all
    refine CallNext.pure (p_retargetref01_Wide gl _) fun _ => ?_
    rw [hf]
    by_cases hwd : wideB t.width = true
    · by_cases h1 : t.op = 1
      · simp [hwd, h1]
        refine ⟨_, fun _ _ _ => .of (p_retargetref01_Ok gl _ _ (Tm.wf_val (by simpa using hwf)).2), by simp, ?_⟩
        simp [Tm.okNode, hwd, h1]
      · by_cases h2 : t.op = 2
        · simp [hwd, h2]
          refine ⟨_, fun _ _ _ => .of (p_retargetref02_Variable gl _), by simp, ?_⟩
          simp [Tm.okNode, hwd, h2]
        · by_cases hne : t.sub = []
          · simp [hwd, h1, h2, hne, Tm.okNode]
          · have hx : 1 ≤ (gt t.sub 0).width ∧ (gt t.sub 0).width ≤ 64 := by simpa using hw 0 (by cases h : t.sub <;> simp_all)
            have hc : t.op = 3 ∨ t.op = 4 ∨ t.op = 16 ∨ t.op = 17 ∨ t.op = 18 ∨ t.op = 19 ∨ t.op = 20 ∨ t.op = 21 ∨ t.op = 22 ∨ t.op = 23 ∨ t.op = 24 ∨ (t.op ≠ 3 ∧ t.op ≠ 4 ∧ t.op ≠ 16 ∧ t.op ≠ 17 ∧ t.op ≠ 18 ∧ t.op ≠ 19 ∧ t.op ≠ 20 ∧ t.op ≠ 21 ∧ t.op ≠ 22 ∧ t.op ≠ 23 ∧ t.op ≠ 24) := by omega
            rcases hc with h | h | h | h | h | h | h | h | h | h | h | ⟨g3, g4, g16, g17, g18, g19, g20, g21, g22, g23, g24⟩
            · simp [hwd, h, hne, Tm.okNode]
              clear ih hwf hn hb hi hinv hall hf hw
              grind
            · simp [hwd, h, hne, Tm.okNode]
              clear ih hwf hn hb hi hinv hall hf hw
              grind
            · simp [hwd, h, hne, Tm.okNode]
              clear ih hwf hn hb hi hinv hall hf hw
              grind
            · simp [hwd, h, hne, Tm.okNode]
              clear ih hwf hn hb hi hinv hall hf hw
              grind
            · simp [hwd, h, hne, Tm.okNode]
              clear ih hwf hn hb hi hinv hall hf hw
              grind
            · simp [hwd, h, hne, Tm.okNode]
              clear ih hwf hn hb hi hinv hall hf hw
              grind
            · simp [hwd, h, hne, Tm.okNode]
              by_cases hl : t.sub.length = 2
              · have hy : 1 ≤ (gt t.sub 1).width ∧ (gt t.sub 1).width ≤ 64 := by simpa using hw 1 (by omega)
                rw [wrap_i64 (by omega) (by omega)]
                clear ih hwf hn hb hi hinv hall hf hw
                grind
              · clear ih hwf hn hb hi hinv hall hf hw
                grind
            · simp [hwd, h, hne, Tm.okNode]
              by_cases hl : 0 ≤ t.low ∧ t.low ≤ (gt t.sub 0).width
              · have hy : 1 ≤ t.width ∧ t.width ≤ 64 := by simpa [wideB, inR] using hwd
                rw [wrap_i64 (by omega) (by omega)]
                clear ih hwf hn hb hi hinv hall hf hw
                grind
              · clear ih hwf hn hb hi hinv hall hf hw
                grind
            · simp [hwd, h, hne, Tm.okNode]
              clear ih hwf hn hb hi hinv hall hf hw
              grind
            · simp [hwd, h, hne, Tm.okNode]
              clear ih hwf hn hb hi hinv hall hf hw
              grind
            · simp [hwd, h, hne]
              refine ⟨fun hh => by simp [Tm.okNode, h, hne]; grind, fun e1 e2 e3 => ⟨hne0 hne, _, fun _ => .of (p_retargetref02_loads gl _), by simp, ?_⟩⟩
              simp [Tm.okNode, hwd, h, hne, e1, e2, e3]
              grind
            · simp [hwd, h1, h2, hne, Tm.okNode, g3, g4, g16, g17, g18, g19, g20, g21, g22, g23, g24]
              clear ih hwf hn hb hi hinv hall hf hw
              grind
    · simp [hwd, Tm.okNode]
end Go.Proofs.YthocoandbiaoiaaDoorV

namespace Go.Proofs.YthocoandbiaoiaaDoorV
open Go
set_option maxRecDepth 100000
set_option maxHeartbeats 4000000
theorem p_retargetref02_Check (gl : Glob) (t : Tm) (hs : t.nodes < 2 ^ 40) (hd : t.depth < 2 ^ 40) : PCall Tryd.prog gl 106 [.pv t.pv] (.pv (.int .i64 t.check)) := by
  refine k_retargetref02_Check.pcall (by simp) (by simp) (by simp) fun hwf => ?_
  simp [c_retargetref02_Check]
  refine CallNext.pure (p_retargetref02_Size gl _ t (Nat.lt_succ_self _) hs) fun _ => ?_
  simp
  refine ⟨_, fun _ => .of (p_retargetref02_Depth gl _ t (Nat.lt_succ_self _) hd), by simp, ?_⟩
  simp
  refine ⟨fun h => ?_, fun h1 h2 => CallNext.pure (p_retargetref02_Formed gl _ t (Nat.lt_succ_self _)) fun _ => ?_⟩
  · rw [t.check_eq, if_pos (by omega)]
  have hck : t.check = if t.formed then (if agree t.vars then 0 else 14) else 8 := by rw [t.check_eq, if_neg (by omega)]
  simp
  refine ⟨fun h => by simp [hck, h], fun hf => CallNext.pure (p_retargetref02_list gl _ t (Nat.lt_succ_self _) hs) fun hwl => ?_⟩
  have hlen : (bnds t.vars).length ≤ 9223372036854775807 := by simp [maxLen] at hwl; exact hwl.1
  simp
  generalize hL : bnds t.vars = L at *
  have hg : ∀ i : Nat, i < L.length → gt L i = ⟨(gt t.vars i).1, (gt t.vars i).2, 0⟩ := fun i hi => by
    have hi' : i < t.vars.length := by rw [← hL] at hi; simpa [bnds] using hi
    rw [gt_nat hi, gt_nat hi']; simp [← hL, bnds]
  have hLl : L.length = t.vars.length := by rw [← hL]; simp [bnds]
  let p : Nat → Nat → Bool := fun i k => !decide ((gt t.vars (k : Nat)).1 = (gt t.vars (i : Nat)).1) || decide ((gt t.vars (k : Nat)).2 = (gt t.vars (i : Nat)).2)
  have hag : agree t.vars = allB t.vars.length fun i => allB i (p i) := rfl
  refine Loop.nat (fun i => { e := [(3, .pv (.lst 3 (L.map Bnd.pv))), (4, .pv (.int .i64 i))], h := [(0, t.bx)], nx := 1 }) L.length (fun i => ∀ j, j < i → allB j (p j) = true) (by simp [Tm.bx]) (by simp) (by simp [Tm.bx]) fun i hi hinv => ?_
  by_cases hlt : i < L.length
  · simp [hlt]
    refine Loop.nat (fun k => { e := [(3, .pv (.lst 3 (L.map Bnd.pv))), (4, .pv (.int .i64 i)), (5, .pv (.int .i64 k))], h := [(0, t.bx)], nx := 1 }) i (fun k => ∀ j, j < k → p i j = true) (by simp [Tm.bx]) (by simp) (by simp [Tm.bx]) fun k hk hinv2 => ?_
    by_cases hkt : k < i
    · have hkl : k < L.length := by omega
      simp [hlt, hkt, hkl, hg, Tm.bx]
      refine ⟨fun e1 e2 => ?_, fun e => ⟨fun j hj => ?_, wrap_nat (by omega) (by omega)⟩⟩
      · have hf1 : p i k = false := by simp [p, e1, e2]
        have hf2 : agree t.vars = false := by rw [hag]; exact allB_false (i := i) (by omega) (allB_false hkt hf1)
        simp [hck, hf, hf2]
      · rcases Nat.lt_or_eq_of_le (Nat.le_of_lt_succ hj) with hj | rfl
        · exact hinv2 j hj
        · simp only [p, Bool.or_eq_true, Bool.not_eq_true', decide_eq_false_iff_not, decide_eq_true_eq]
          by_cases h : (gt t.vars (j : Nat)).1 = (gt t.vars (i : Nat)).1
          · right; exact e h
          · left; exact h
    · obtain rfl : k = i := by omega
      simp [hlt, Tm.bx, wrap_nat (show (0:Int) ≤ k + 1 by omega) (by omega)]
      intro j hj
      rcases Nat.lt_or_eq_of_le (Nat.le_of_lt_succ hj) with hj | rfl
      · exact hinv j hj
      · exact allB_true.2 hinv2
  · obtain rfl : i = L.length := by omega
    simp [hck, hf, hag, ← hLl, allB_true]
    exact fun j hj => allB_true.1 (hinv j hj)
theorem p_retargetref02_Great (gl : Glob) (t : Tm) : PCall Tryd.prog gl 24 [.pv t.pv] (.pv (.bool t.great)) := by
  refine k_retargetref02_Great.pcall (by simp) (by simp) (by simp) fun hwf => ?_
  simp [c_retargetref02_Great]
  refine CallNext.pure (p_retargetref02_count gl _ t 500 80 (Nat.lt_succ_self _) (by omega) (by omega) (by omega)) fun _ => ?_
  simp
  refine ⟨_, fun _ _ => .of (p_retargetref02_long gl _ t (Nat.lt_succ_self _)), by simp, ?_⟩
  simp [Tm.great]
end Go.Proofs.YthocoandbiaoiaaDoorV

namespace Go.Proofs.YthocoandbiaoiaaDoorV
open Go
set_option maxRecDepth 100000
set_option maxHeartbeats 4000000
theorem find_some {α : Type} [Inhabited α] {l : List α} {p : α → Bool} : ∀ {i : Nat}, i < l.length → p (gt l (i : Nat)) = true → (∀ j, j < i → p (gt l (j : Nat)) = false) → l.find? p = some (gt l (i : Nat)) := by
  induction l with
  | nil => intro i h; simp at h
  | cons a r ih =>
    intro i h hp hn
    cases i with
    | zero => rw [List.find?_cons_of_pos]; rfl; exact hp
    | succ i =>
      have h0 : p a = false := hn 0 (by omega)
      have hi : i < r.length := by simpa using h
      rw [List.find?_cons_of_neg (by simp [h0]), gt_cons hi]
      rw [gt_cons hi] at hp
      exact ih hi hp fun j hj => by have := hn (j + 1) (by omega); rwa [gt_cons (by omega)] at this
theorem find_none {α : Type} [Inhabited α] {l : List α} {p : α → Bool} (h : ∀ j, j < l.length → p (gt l (j : Nat)) = false) : l.find? p = none := by
  rw [List.find?_eq_none]
  intro x hx
  obtain ⟨i, hi, rfl⟩ := List.getElem_of_mem hx
  have := h i hi
  rw [gt_nat hi] at this
  simp [this]
theorem coverP_le (ps : List Piece) (b : Nat) : ∀ n, coverP ps b n ≤ n
  | 0 => by simp [coverP]
  | n + 1 => by have := coverP_le ps b n; rw [coverP]; split <;> omega
theorem coverO_le {s : Ins_} (h : ∀ o ∈ s.operands, o.pieces.length ≤ 500) (b : Nat) : ∀ n, n ≤ s.operands.length → coverO s b n ≤ 500 * n
  | 0, _ => by simp [coverO]
  | n + 1, hn => by
    have := coverO_le h b n (by omega)
    have h1 := h _ (gt_mem (l := s.operands) (i := (n : Nat)) (by omega) (by omega))
    have h2 := coverP_le (gt s.operands (n : Nat)).pieces b (gt s.operands (n : Nat)).pieces.length
    rw [coverO]; omega
theorem p_r8_Wide (gl : Glob) (m : Mach) (o : Opnd) (h : wideOk m o) : PCall Tryd.prog gl 100 [.pv m.pv, .pv o.pv] (.pv (.int .i64 (wideI m o))) := by
  refine k_retargetref08_Wide.pcall (by simp) (by simp) (by simp) fun hwf => ?_
  by_cases hk : o.kind = 1
  · obtain ⟨h1, h2, h3⟩ := h hk
    have hb : m.banks ≠ [] := by intro hh; simp [hh] at h1; omega
    have hr : m.regs ≠ [] := by intro hh; simp [hh] at h3; omega
    have : 0 < (gt m.banks o.bank).regs.length := by cases hh : (gt m.banks o.bank).regs <;> simp_all
    simp [c_retargetref08_Wide, hk, hb, hr, h2, wideI]
    omega
  · simp [c_retargetref08_Wide, hk, wideI]
theorem p_r8_variable (gl : Glob) (m : Mach) (s : Ins_) (n : ByteArray) (w : Int) (hl : m.regs.length ≤ 500) (hs : s.operands.length ≤ 500) (hn : ∀ r ∈ m.regs, r.name.size ≤ 1000) (hw : ∀ o ∈ s.operands, wideOk m o) :
    PCall Tryd.prog gl 118 [.pv m.pv, .pv s.pv, .pv (.str n), .pv (.int .i64 w)] (.pv (.bool (isVarOf m s n w))) := by
  refine k_retargetref08_variable.pcall (by simp) (by simp) (by simp) fun hwf => ?_
  simp [c_retargetref08_variable]
  refine ⟨fun h => ?_, fun h => ?_⟩
  · have h' : n = pc := h
    simp [isVarOf, h']
  have h' : ¬ n = pc := h
  refine Loop.nat (fun i => { e := [(2, .pv (.str n)), (3, .pv (.int .i64 w)), (4, .ptr 0 0), (5, .ptr 1 0), (9, .pv (.int .i64 i))], h := [(0, m.bx), (1, s.bx)], nx := 2 }) s.operands.length (fun i => ∀ j, j < i → decide ((gt s.operands (j : Nat)).name = n) = false) (by simp [Mach.bx, Ins_.bx]) (by simp) (by simp [Mach.bx, Ins_.bx]) fun i hi hinv => ?_
  by_cases hlt : i < s.operands.length
  · simp [hlt, Mach.bx, Ins_.bx]
    refine ⟨fun he => ?_, fun hne => ⟨fun j hj => ?_, wrap_nat (by omega) (by omega)⟩⟩
    · refine DCallNext.pure (p_r8_Wide gl m _ (hw _ (gt_mem (by omega) (by omega)))) ?_
      simp [isVarOf, h', find_some (p := fun o : Opnd => decide (o.name = n)) hlt (by simp [he]) hinv]
    · rcases Nat.lt_or_eq_of_le (Nat.le_of_lt_succ hj) with hj | rfl
      · simpa using hinv j hj
      · exact hne
  obtain rfl : i = s.operands.length := by omega
  have hf := find_none (p := fun o : Opnd => decide (o.name = n)) hinv
  simp [Mach.bx, Ins_.bx]
  refine Loop.nat (fun i => { e := [(2, .pv (.str n)), (3, .pv (.int .i64 w)), (4, .ptr 0 0), (10, .pv (.int .i64 i))], h := [(0, m.bx), (1, s.bx)], nx := 2 }) m.regs.length (fun i => ∀ j, j < i → decide (rname (gt m.regs (j : Nat)).name = n) = false) (by simp [Mach.bx, Ins_.bx]) (by simp) (by simp [Mach.bx, Ins_.bx]) fun i hi hinv => ?_
  by_cases hlt : i < m.regs.length
  · have h1 := hn _ (gt_mem (l := m.regs) (i := (i : Nat)) (by omega) (by omega))
    have h2 : (⟨#[114, 46]⟩ : ByteArray).size = 2 := rfl
    have h3 : ∀ x, (⟨#[114, 46]⟩ : ByteArray) ++ x = rname x := fun _ => rfl
    simp only [Mach.bx, Ins_.bx]
    simp [hlt, h2, h3]
    refine ⟨by unfold maxLen; omega, fun he => ?_, fun hne => ⟨fun j hj => ?_, wrap_nat (by omega) (by omega)⟩⟩
    · simp [isVarOf, h', hf, find_some (p := fun r : Reg => decide (rname r.name = n)) hlt (by simp [he]) hinv]
    · rcases Nat.lt_or_eq_of_le (Nat.le_of_lt_succ hj) with hj | rfl
      · simpa using hinv j hj
      · exact hne
  · obtain rfl : i = m.regs.length := by omega
    have hf2 := find_none (p := fun r : Reg => decide (rname r.name = n)) hinv
    simp [Mach.bx, Ins_.bx, isVarOf, h', hf, hf2]
theorem p_r8_apart (gl : Glob) (m : Mach) (s : Ins_) (hw : 1 ≤ m.word ∧ m.word ≤ 4) (hs : s.operands.length ≤ 500) (hp : ∀ o ∈ s.operands, o.pieces.length ≤ 500) (hr : rngs m s s.operands.length) :
    PCall Tryd.prog gl 87 [.pv m.pv, .pv s.pv] (.pv (.bool (apart m s))) := by
  refine k_retargetref08_apart.pcall (by simp) (by simp) (by simp) fun hwf => ?_
  have hmask : 0 ≤ s.mask := by
    have := hwf (.pv s.pv) (by simp)
    simp only [DV.wf] at this; rw [Ins_.wf_pv] at this; simp [-Ins_.fold, maxLen, IntKind.min, IntKind.max, IntKind.signed, IntKind.bits] at this
    exact this.2.1.1
  obtain ⟨N, hN⟩ : ∃ N : Nat, 8 * m.word = N := ⟨(8 * m.word).toNat, by omega⟩
  have hA : apart m s = allB N fun b => decide (bitI s.mask b + coverO s b s.operands.length ≤ 1) := by rw [apart, hN]; rfl
  have e8 : IntKind.i64.wrap (8 * m.word) = N := by rw [wrap_i64 (by omega) (by omega), hN]
  simp [c_retargetref08_apart]
  refine Loop.nat (fun b => { e := [(2, .ptr 0 0), (3, .ptr 1 0), (5, .pv (.int .i64 b))], h := [(0, m.bx), (1, s.bx)], nx := 2 }) N (fun b => (allB b fun b => decide (bitI s.mask b + coverO s b s.operands.length ≤ 1)) = true) (by simp [Mach.bx, Ins_.bx]) (by simp) (by simp [Mach.bx, Ins_.bx]) fun b hb hinv => ?_
  by_cases hlt : b < N
  · have hbit : 0 ≤ bitI s.mask b ∧ bitI s.mask b ≤ 1 := by rw [bitI_bit hmask]; split <;> omega
    simp [e8, Mach.bx, Ins_.bx, hlt]
    refine CallNext.pure (p_r8_Bit gl s.mask b (by omega)) fun _ => ?_
    simp
    refine Loop.nat (fun i => { e := [(2, .ptr 0 0), (3, .ptr 1 0), (5, .pv (.int .i64 b)), (6, .pv (.int .i64 (bitI s.mask b + coverO s b i))), (7, .pv (.int .i64 i))], h := [(0, m.bx), (1, s.bx)], nx := 2 }) s.operands.length (fun _ => True) (by simp [Mach.bx, Ins_.bx]) (by simp) (by simp [Mach.bx, Ins_.bx, coverO]) fun i hi hinv2 => ?_
    by_cases hlt2 : i < s.operands.length
    · have hone : s.operands ≠ [] := by intro h; simp [h] at hlt2
      have hpi := hp _ (gt_mem (l := s.operands) (i := (i : Nat)) (by omega) (by omega))
      have hc0 := coverO_nonneg s b i
      have hc1 := coverO_le hp b i hi
      simp [hlt2, Mach.bx, Ins_.bx]
      refine Loop.nat (fun k => { e := [(2, .ptr 0 0), (3, .ptr 1 0), (5, .pv (.int .i64 b)), (6, .pv (.int .i64 (bitI s.mask b + coverO s b i + coverP (gt s.operands (i : Nat)).pieces b k))), (7, .pv (.int .i64 i)), (8, .pv (.int .i64 k))], h := [(0, m.bx), (1, s.bx)], nx := 2 }) (gt s.operands (i : Nat)).pieces.length (fun _ => True) (by simp [Mach.bx, Ins_.bx]) (by simp) (by simp [Mach.bx, Ins_.bx, coverP]) fun k hk hinv3 => ?_
      by_cases hlt3 : k < (gt s.operands (i : Nat)).pieces.length
      · have hrg := hr i hlt2 k hlt3
        simp only [rngOk, Bool.and_eq_true] at hrg
        have r1 : 1 ≤ (gt (gt s.operands (i : Nat)).pieces (k : Nat)).len ∧ (gt (gt s.operands (i : Nat)).pieces (k : Nat)).len ≤ 8 * m.word := by simpa [inR] using hrg.1
        have r2 : 0 ≤ (gt (gt s.operands (i : Nat)).pieces (k : Nat)).at_ ∧ (gt (gt s.operands (i : Nat)).pieces (k : Nat)).at_ ≤ 8 * m.word - (gt (gt s.operands (i : Nat)).pieces (k : Nat)).len := by simpa [inR] using hrg.2
        have hq0 := coverP_nonneg (gt s.operands (i : Nat)).pieces b k
        have hq1 := coverP_le (gt s.operands (i : Nat)).pieces b k
        simp [hlt2, hlt3, Mach.bx, Ins_.bx]
        refine CallNext.pure (p_r8_In gl _ _ _) fun _ => ?_
        rw [wrap_i64 (n := (gt (gt s.operands (i : Nat)).pieces (k : Nat)).at_ + (gt (gt s.operands (i : Nat)).pieces (k : Nat)).len) (by omega) (by omega), wrap_i64 (n := (gt (gt s.operands (i : Nat)).pieces (k : Nat)).at_ + (gt (gt s.operands (i : Nat)).pieces (k : Nat)).len - 1) (by omega) (by omega)]
        rw [show inR (b : Int) (gt (gt s.operands (i : Nat)).pieces (k : Nat)).at_ ((gt (gt s.operands (i : Nat)).pieces (k : Nat)).at_ + (gt (gt s.operands (i : Nat)).pieces (k : Nat)).len - 1) = covers (gt (gt s.operands (i : Nat)).pieces (k : Nat)) b from rfl]
        simp [wrap_nat (show (0:Int) ≤ k + 1 by omega) (by omega), coverP]
        refine ⟨fun h => ⟨hlt3, ?_⟩, fun h => ⟨hlt3, by simp [h]⟩⟩
        rw [wrap_i64 (by omega) (by omega), if_pos h]; omega
      · obtain rfl : k = (gt s.operands (i : Nat)).pieces.length := by omega
        simp [hlt2, Mach.bx, Ins_.bx, wrap_nat (show (0:Int) ≤ i + 1 by omega) (by omega), coverO, Int.add_assoc]
    · obtain rfl : i = s.operands.length := by omega
      simp [Mach.bx, Ins_.bx, wrap_nat (show (0:Int) ≤ b + 1 by omega) (by omega)]
      refine ⟨fun h => ?_, fun h => ⟨hlt, ?_⟩⟩
      · rw [hA, allB_false hlt]; simpa using h
      · rw [allB_succ, hinv]; simpa using h
  · obtain rfl : b = N := by omega
    simp [e8, Mach.bx, Ins_.bx]
    rw [hA]; exact hinv
theorem p_r8_known (gl : Glob) (m : Mach) (s : Ins_) (hl : m.regs.length ≤ 500) (hs : s.operands.length ≤ 500) (hn : ∀ r ∈ m.regs, r.name.size ≤ 1000) (hw : ∀ o ∈ s.operands, wideOk m o) (n : Nat) : ∀ t : Tm, SizeOf.sizeOf t < n → t.loadsOk = true →
    PCall Tryd.prog gl 107 [.pv m.pv, .pv s.pv, .pv t.pv] (.pv (.bool (known m s t))) := by
  induction n with
  | zero => intro t h; omega
  | succ n ih =>
  intro t hn2 hlo
  refine k_retargetref08_known.pcall (by simp) (by simp) (by simp) fun hwf => ?_
  have hb := Tm.wf_sub (t := t) (hwf (.pv t.pv) (by simp))
  rw [Tm.loadsOk_eq] at hlo
  simp only [Bool.and_eq_true, Bool.or_eq_true, Bool.not_eq_true', decide_eq_false_iff_not, List.length_eq_zero_iff] at hlo
  have hK := @known_eq m s t
  simp [c_retargetref08_known]
  refine ⟨_, by intros; exact .of (p_r8_variable gl m s t.name t.width hl hs hn hw), by simp, ?_⟩
  simp
  refine ⟨fun h2 hv => by rw [hK]; simp [h2, hv], fun hv => ?_⟩
  have hv' : (!decide (t.op = 2) || isVarOf m s t.name t.width) = true := by
    by_cases h2 : t.op = 2
    · simp [hv h2]
    · simp [h2]
  have hout : ∀ {i : Nat}, i < t.sub.length → known m s (gt t.sub (i : Nat)) = false → known m s t = false := fun {i} hi h => by
    rw [hK, Bool.and_eq_false_iff]; right
    rw [List.all_eq_false]
    exact ⟨_, gt_mem (i := (i : Nat)) (by omega) (by omega), by simp [h]⟩
  by_cases h24 : t.op = 24
  have hne : t.sub ≠ [] := by rcases hlo.1 with h1 | h1; exact absurd h24 h1; exact h1
  simp [h24, hne, List.length_pos_iff, Tm.bx]
  refine ⟨fun h => by rw [hK]; simp [h24, h], fun hwd => ?_⟩
  have hwd' : (!decide (t.op = 24) || decide ((gt t.sub 0).width = m.address)) = true := by simp [hwd]
  rotate_left
  have hwd' : (!decide (t.op = 24) || decide ((gt t.sub 0).width = m.address)) = true := by simp [h24]
  by_cases hne : t.sub = []
  simp [h24, Tm.bx, hne, nth]
  rotate_left
  simp [h24, Tm.bx, hne]
  rotate_left
  rotate_left
  all_goals
    refine Loop.nat (fun i => { e := [(3, .ptr 0 0), (4, .ptr 1 0), (5, .ptr 2 0), (7, .pv (.int .i64 i))], h := [(0, m.bx), (1, s.bx), (2, t.bx)], nx := 16 }) t.sub.length (fun i => (t.sub.take i).all (known m s) = true) (by simp) (by simp) (by simp [Mach.bx, Ins_.bx, Tm.bx, *]) fun i hi hinv => ?_
    by_cases hlt : i < t.sub.length
    · simp [hlt, Mach.bx, Ins_.bx, Tm.bx]
      refine DCallNext.pure (ih (gt t.sub (i : Nat)) (by have := Tm.size_gt hlt; omega) (List.all_eq_true.1 hlo.2 _ (gt_mem (by omega) (by omega)))) ?_
      simp [hlt, wrap_nat (show (0:Int) ≤ i + 1 by omega) (by omega)]
      refine ⟨hout hlt, fun h => ?_⟩
      rw [← List.all_eq_true, all_take1 hlt, hinv, h]; rfl
    · obtain rfl : i = t.sub.length := by omega
      simp [Mach.bx, Ins_.bx, Tm.bx]
      rw [List.take_length] at hinv
      rw [hK, hv', hwd', hinv]; rfl
theorem p_r8_Fits (gl : Glob) (m : Mach) (s : Ins_) (t : Tm) (hl : m.regs.length ≤ 500) (hs : s.operands.length ≤ 500) (hn : ∀ r ∈ m.regs, r.name.size ≤ 1000) (hw : ∀ o ∈ s.operands, wideOk m o) (ht : t.nodes < 2 ^ 40 ∧ t.depth < 2 ^ 40) :
    PCall Tryd.prog gl 99 [.pv m.pv, .pv s.pv, .pv t.pv] (.pv (.bool (fitsB m s t))) := by
  refine k_retargetref08_Fits.pcall (by simp) (by simp) (by simp) fun hwf => ?_
  simp [c_retargetref08_Fits]
  refine CallNext.pure (p_retargetref02_Check gl t ht.1 ht.2) fun _ => ?_
  simp
  refine ⟨_, fun h => .of (p_r8_known gl m s hl hs hn hw _ t (Nat.lt_succ_self _) (Tm.check_loads h)), by simp, ?_⟩
  simp [fitsB]
end Go.Proofs.YthocoandbiaoiaaDoorV

namespace Go.Proofs.YthocoandbiaoiaaDoorV
open Go
set_option maxRecDepth 100000
set_option maxHeartbeats 4000000
theorem p_r8_okEffect (gl : Glob) (m : Mach) (s : Ins_) (x : Eff) (hr0 : m.regs ≠ []) (hl : m.regs.length ≤ 500) (hs : s.operands.length ≤ 500) (hn : ∀ r ∈ m.regs, r.name.size ≤ 1000) (hw : ∀ o ∈ s.operands, wideOk m o) (ht : ∀ t ∈ [x.addr, x.value, x.cond], t.nodes < 2 ^ 40 ∧ t.depth < 2 ^ 40) :
    PCall Tryd.prog gl 88 [.pv m.pv, .pv s.pv, .pv x.pv] (.pv (.bool (okEffect m s x))) := by
  refine k_retargetref08_okEffect.pcall (by simp) (by simp) (by simp) fun hwf => ?_
  have fa := p_r8_Fits gl m s x.addr hl hs hn hw (ht _ (by simp))
  have fv := p_r8_Fits gl m s x.value hl hs hn hw (ht _ (by simp))
  have fc := p_r8_Fits gl m s x.cond hl hs hn hw (ht _ (by simp))
  by_cases h4 : x.kind = 4
  · simp [c_retargetref08_okEffect, h4]
    refine ⟨_, by intros; exact .of (p_r8_none gl x.addr), by simp, ?_⟩
    simp
    refine ⟨_, by intros; exact .of (p_r8_none gl x.cond), by simp, ?_⟩
    simp
    refine ⟨_, by intros; exact .of fv, by simp, ?_⟩
    simp [okEffect, h4]
  by_cases h3 : x.kind = 3
  · simp [c_retargetref08_okEffect, h3]
    refine ⟨_, by intros; exact .of (p_r8_none gl x.addr), by simp, ?_⟩
    simp
    refine ⟨_, by intros; exact .of fv, by simp, ?_⟩
    simp
    refine ⟨_, by intros; exact .of (p_r8_none gl x.cond), by simp, ?_⟩
    simp
    refine ⟨_, by intros; exact .of fc, by simp, ?_⟩
    simp [okEffect, h3]
  by_cases h2 : x.kind = 2
  · simp [c_retargetref08_okEffect, h2]
    refine ⟨_, by intros; exact .of (p_r8_none gl x.cond), by simp, ?_⟩
    simp
    refine ⟨_, by intros; exact .of fa, by simp, ?_⟩
    simp
    refine ⟨_, by intros; exact .of fv, by simp, ?_⟩
    simp [okEffect, h2]
  by_cases h1 : x.kind = 1
  · simp [c_retargetref08_okEffect, h1]
    refine CallNext.pure (p_r8_none gl x.addr) fun _ => ?_
    simp
    refine ⟨_, by intros; exact .of (p_r8_none gl x.cond), by simp, ?_⟩
    simp
    refine ⟨_, by intros; exact .of fv, by simp, ?_⟩
    simp
    have hin : inR (-1) 0 ((s.operands.length : Int) - 1) = false := by simp [inR]
    refine ⟨fun h => ?_, fun g1 g2 g3 => ⟨fun ho => ?_, fun ho => ?_⟩⟩
    · rcases h with (h | h) | h <;> simp [okEffect, h1, h]
    · have hE : okEffect m s x = (inR x.reg 0 (m.regs.length - 1) && decide (x.value.width = (gt m.regs x.reg).width)) := by
        rw [okEffect, if_pos h1, g1, g2, g3, if_pos ho]; rfl
      refine DCallNext.pure (p_r8_In gl _ _ _) ?_
      rw [wrap_i64 (by omega) (by omega)]
      by_cases hr : inR x.reg 0 ((m.regs.length : Int) - 1) = true
      · have hr' : 0 ≤ x.reg ∧ x.reg ≤ (m.regs.length : Int) - 1 := by simpa [inR] using hr
        simp [hr, hr0, hE]
        omega
      · simp [hr, hr0, hE]
    · have hE : okEffect m s x = (decide (x.reg = 0) && inR x.operand 0 (s.operands.length - 1) && decide ((gt s.operands x.operand).kind = 1) && decide (x.value.width = wideI m (gt s.operands x.operand))) := by
        rw [okEffect, if_pos h1, g1, g2, g3, if_neg ho]; rfl
      refine ⟨_, by intros; exact .of (p_r8_In gl _ _ _), by simp, ?_⟩
      rw [wrap_i64 (by omega) (by omega)]
      by_cases hr : x.reg = 0 ∧ inR x.operand 0 ((s.operands.length : Int) - 1) = true
      · have hr' : 0 ≤ x.operand ∧ x.operand ≤ (s.operands.length : Int) - 1 := by simpa [inR] using hr.2
        have hone : s.operands ≠ [] := by intro h; simp [h] at hr'; omega
        have hwo := hw _ (gt_mem (l := s.operands) (i := x.operand) (by omega) (by omega))
        simp [hr, hone, hE]
        refine ⟨⟨by omega, by omega⟩, ⟨fun _ => by omega, fun _ => by omega⟩, _, fun _ => .of (p_r8_Wide gl m _ hwo), by simp, ?_⟩
        simp
      · have hE2 : okEffect m s x = false := by
          rw [hE]
          have : (decide (x.reg = 0) && inR x.operand 0 ((s.operands.length : Int) - 1)) = false := by
            rw [Bool.eq_false_iff]; intro hh; apply hr; simpa using hh
          rw [this]; rfl
        by_cases hx : x.reg = 0
        · have hi : inR x.operand 0 ((s.operands.length : Int) - 1) = false := by
            rw [Bool.eq_false_iff]; intro hh; exact hr ⟨hx, hh⟩
          by_cases hone : s.operands = []
          · have hi2 : inR x.operand 0 (-1) = false := by simpa [hone] using hi
            simp [hx, hi2, hone, hE2, nth]
            refine ⟨.pv (.bool false), by simp, ?_⟩
            simp
          · simp [hx, hi, hone, hE2]
            refine ⟨.pv (.bool false), by simp, ?_⟩
            simp
        · by_cases hone : s.operands = []
          · simp [hx, hone, hE2, nth]
            refine ⟨.pv (.bool false), by simp, ?_⟩
            simp
          · simp [hx, hone, hE2]
            refine ⟨.pv (.bool false), by simp, ?_⟩
            simp
  · simp [c_retargetref08_okEffect, h1, h2, h3, h4, okEffect]
end Go.Proofs.YthocoandbiaoiaaDoorV

namespace Go.Proofs.YthocoandbiaoiaaDoorV
open Go
set_option maxRecDepth 100000
set_option maxHeartbeats 4000000
def kindsC (s : Ins_) (k : Int) (i : Nat) : Int := (((s.effects.take i).filter fun x => decide (x.kind = k)).length : Int)
theorem kindsC_succ {s : Ins_} {k : Int} {i : Nat} (h : i < s.effects.length) : kindsC s k (i + 1) = kindsC s k i + if (gt s.effects (i : Nat)).kind = k then 1 else 0 := by
  unfold kindsC
  rw [List.take_succ_eq_append_getElem h, List.filter_append, List.length_append, gt_nat h]
  by_cases he : s.effects[i].kind = k <;> simp [he]
theorem kindsC_le (s : Ins_) (k : Int) (i : Nat) : 0 ≤ kindsC s k i ∧ kindsC s k i ≤ i := by
  unfold kindsC
  have h1 := List.length_filter_le (fun x : Eff => decide (x.kind = k)) (s.effects.take i)
  have h2 := List.length_take_le i s.effects
  omega
theorem kindsC_all (s : Ins_) (k : Int) : kindsC s k s.effects.length = countK s k := by rw [kindsC, List.take_length]; rfl
theorem ops_wide {m : Mach} {s : Ins_} (hb : okBanks m = true) (h : allB s.operands.length (okOperand m s) = true) : (∀ o ∈ s.operands, wideOk m o) ∧ rngs m s s.operands.length := by
  have h1 : ∀ j, j < s.operands.length → (allB (gt s.operands (j : Nat)).pieces.length (rngOk m.word (gt s.operands (j : Nat)).pieces) && kindOk m s j) = true := fun j hj => by
    have := allB_true.1 h j hj
    rw [okOperand_eq hj, Bool.and_eq_true] at this
    exact this.2
  refine ⟨?_, ?_⟩
  · intro o ho hk
    obtain ⟨j, hj, rfl⟩ := List.getElem_of_mem ho
    have h2 := h1 j hj
    simp only [Bool.and_eq_true, kindOk] at h2
    rw [gt_nat hj] at h2
    have h3 := h2.2
    simp only [hk, if_true, Bool.and_eq_true] at h3
    have h4 : 0 ≤ s.operands[j].bank ∧ s.operands[j].bank ≤ (m.banks.length : Int) - 1 := by simpa [inR] using h3.1.1
    have h5 := allB_true.1 hb s.operands[j].bank.toNat (by omega)
    simp only [bankOk, Bool.and_eq_true] at h5
    rw [Int.toNat_of_nonneg h4.1] at h5
    have h6 := h5.1.1.2
    simp only [decide_eq_true_eq] at h6
    have h7 := allB_true.1 h5.2 0 h6
    simp only [Bool.and_eq_true] at h7
    have h8 : 0 ≤ gt (gt m.banks s.operands[j].bank).regs 0 ∧ gt (gt m.banks s.operands[j].bank).regs 0 ≤ (m.regs.length : Int) - 1 := by simpa [inR] using h7.1.1
    exact ⟨⟨h4.1, by omega⟩, by intro hn; simp [hn] at h6, h8.1, by omega⟩
  · intro j hj k hk
    have h2 := h1 j hj
    rw [Bool.and_eq_true] at h2
    exact allB_true.1 h2.1 k hk
def opsF (m : Mach) (s : Ins_) : Bool := allB s.operands.length (okOperand m s)
theorem p_r8_okInstr (gl : Glob) (m : Mach) (s : Ins_) (hw : 1 ≤ m.word ∧ m.word ≤ 4) (hr : okRegs m = true) (hb : okBanks m = true) (hbd : insBd m s) :
    PCall Tryd.prog gl 70 [.pv m.pv, .pv s.pv] (.pv (.bool (okInstr m s))) := by
  obtain ⟨hb1, hb2, hb3, hb4, hb5, hb6, hb7⟩ := hbd
  have hreg : m.regs ≠ [] := by intro h; simp [okRegs, h] at hr
  refine k_retargetref08_okInstr.pcall (by simp) (by simp) (by simp) fun hwf => ?_
  have h8 : IntKind.i64.wrap (8 * m.word) = 8 * m.word := wrap_i64 (by omega) (by omega)
  simp [c_retargetref08_okInstr]
  refine CallNext.pure (p_r8_Below gl _ _) fun _ => ?_
  simp [h8]
  refine ⟨fun h => ?_, fun h1 => ?_⟩
  rotate_left
  have h1' : decide (s.mask < 2 ^ (8 * m.word).toNat) = true := by simpa using h1
  rotate_left
  · rw [okInstr, show decide (s.mask < 2 ^ (8 * m.word).toNat) = false from by simpa using h]; rfl
  refine Loop.nat (fun b => { e := [(2, .ptr 0 0), (3, .ptr 1 0), (5, .pv (.int .i64 b))], h := [(0, m.bx), (1, s.bx)], nx := 2 }) 64 (fun b => (allB b fun b => decide (bitI s.mtch b ≤ bitI s.mask b)) = true) (by simp [Mach.bx, Ins_.bx]) (by simp) (by simp [Mach.bx, Ins_.bx]) fun b hbl hinv => ?_
  by_cases hlt : b < 64
  · simp [show (b : Int) < 64 by omega, Mach.bx, Ins_.bx]
    refine DCallNext.pure (p_r8_Bit gl s.mtch b (by omega)) ?_
    simp
    refine DCallNext.pure (p_r8_Bit gl s.mask b (by omega)) ?_
    simp [hlt, wrap_nat (show (0:Int) ≤ b + 1 by omega) (by omega)]
    refine ⟨fun h => ?_, fun h => ?_⟩
    · rw [okInstr, h1', allB_false hlt (by simpa using h)]; rfl
    · rw [allB_succ, hinv]; simpa using h
  obtain rfl : b = 64 := by omega
  simp [Mach.bx, Ins_.bx]
  refine Loop.nat (fun i => { e := [(2, .ptr 0 0), (3, .ptr 1 0), (6, .pv (.int .i64 i))], h := [(0, m.bx), (1, s.bx)], nx := 2 }) s.operands.length (fun i => (allB i (okOperand m s)) = true) (by simp [Mach.bx, Ins_.bx]) (by simp) (by simp [Mach.bx, Ins_.bx]) fun i hi hinv2 => ?_
  by_cases hlt : i < s.operands.length
  · have hm := gt_mem (l := s.operands) (i := (i : Nat)) (by omega) (by omega)
    simp [hlt, Mach.bx, Ins_.bx]
    refine CallNext.pure (p_r8_okOperand gl m s i hlt hw hb4 hb2 (hb6 _ hm)) fun _ => ?_
    simp [wrap_nat (show (0:Int) ≤ i + 1 by omega) (by omega)]
    refine ⟨fun h => ?_, fun h => ⟨hlt, ?_⟩⟩
    · rw [okInstr, h1', hinv, allB_false hlt h]; rfl
    · rw [allB_succ, hinv2, h]; rfl
  obtain rfl : i = s.operands.length := by omega
  obtain ⟨hwide, hrng⟩ := ops_wide hb hinv2
  simp [Mach.bx, Ins_.bx]
  refine CallNext.pure (p_r8_apart gl m s hw hb4 hb6 hrng) fun _ => ?_
  simp
  refine ⟨fun h => ?_, fun hap => ?_⟩
  · rw [okInstr, h1', hinv, hinv2, h]; rfl
  refine Loop.nat (fun i => { e := [(2, .ptr 0 0), (3, .ptr 1 0), (7, .pv (.int .i64 (kindsC s 3 i))), (8, .pv (.int .i64 (kindsC s 4 i))), (9, .pv (.int .i64 i))], h := [(0, m.bx), (1, s.bx)], nx := 2 }) s.effects.length (fun i => (s.effects.take i).all (okEffect m s) = true) (by simp [Mach.bx, Ins_.bx]) (by simp) (by simp [Mach.bx, Ins_.bx, kindsC]) fun i hi hinv3 => ?_
  have hk3 := kindsC_le s 3 i
  have hk4 := kindsC_le s 4 i
  by_cases hlt : i < s.effects.length
  · have hm := gt_mem (l := s.effects) (i := (i : Nat)) (by omega) (by omega)
    simp [hlt, Mach.bx, Ins_.bx]
    refine DCallNext.pure (p_r8_okEffect gl m s _ hreg hb1 hb4 (names_of hr) hwide (hb7 _ hm)) ?_
    simp [hlt, wrap_nat (show (0:Int) ≤ i + 1 by omega) (by omega), kindsC_succ hlt]
    refine ⟨fun h => ?_, fun h => ?_⟩
    · have hf : s.effects.all (okEffect m s) = false := List.all_eq_false.2 ⟨_, hm, by simp [h]⟩
      rw [okInstr, h1', hinv, hinv2, hap, hf]; rfl
    have hA : ∀ x ∈ s.effects.take (i + 1), okEffect m s x = true := by rw [← List.all_eq_true, all_take1 hlt, hinv3, h]; rfl
    refine ⟨fun h3 => ⟨fun h4 => ?_, fun h4 => ?_⟩, fun h3 => ⟨fun h4 => ?_, fun h4 => ?_⟩⟩
    all_goals
      refine ⟨hA, ?_, ?_⟩ <;> first | (rw [if_pos h3]; exact wrap_nat (by omega) (by omega)) | (rw [if_neg h3]; omega) | (rw [if_pos h4]; exact wrap_nat (by omega) (by omega)) | (rw [if_neg h4]; omega)
  obtain rfl : i = s.effects.length := by omega
  have hE : s.effects.all (okEffect m s) = true := by rwa [List.take_length] at hinv3
  have hO : okInstr m s = (decide (countK s 3 ≤ 1) && (decide (countK s 4 = 0) || decide (s.effects.length ≤ 1)) &&
      inR s.unit 0 (m.units.length - 1) && inR s.busy 1 15 && inR s.latency 1 15 && inR s.slots 0 2 && (decide (s.slots = 0) || decide (countK s 3 = 1))) := by
    rw [okInstr, h1', hinv, hinv2, hap, hE]; simp only [Bool.true_and]
  rw [kindsC_all] at hk3 hk4
  simp [Mach.bx, Ins_.bx, kindsC_all]
  refine ⟨fun h => ?_, fun g1 g2 => ?_⟩
  · rw [hO]
    rcases h with h | h
    · rw [show decide (countK s 3 ≤ 1) = false from decide_eq_false (by omega)]; rfl
    · rw [show decide (countK s 4 = 0) = false from decide_eq_false (by omega), show decide (s.effects.length ≤ 1) = false from decide_eq_false (by omega)]; simp
  have hO2 : okInstr m s = (inR s.unit 0 (m.units.length - 1) && inR s.busy 1 15 && inR s.latency 1 15 && inR s.slots 0 2 && (decide (s.slots = 0) || decide (countK s 3 = 1))) := by
    have e : (decide (countK s 4 = 0) || decide (s.effects.length ≤ 1)) = true := by
      by_cases h4 : countK s 4 = 0
      · simp [h4]
      · have := g2 (by omega); simp; right; omega
    rw [hO, e, show decide (countK s 3 ≤ 1) = true from decide_eq_true g1]; simp only [Bool.true_and]
  rw [wrap_i64 (by omega) (by omega)]
  refine CallNext.pure (p_r8_In gl _ _ _) fun _ => ?_
  simp
  refine ⟨_, by intros; exact .of (p_r8_In gl _ _ _), by simp, ?_⟩
  simp
  refine ⟨_, by intros; exact .of (p_r8_In gl _ _ _), by simp, ?_⟩
  simp
  refine ⟨_, by intros; exact .of (p_r8_In gl _ _ _), by simp, ?_⟩
  simp
  rw [hO2]
end Go.Proofs.YthocoandbiaoiaaDoorV

namespace Go.Proofs.YthocoandbiaoiaaDoorV
open Go
set_option maxRecDepth 100000
set_option maxHeartbeats 4000000
theorem mcheck_bad {m : Mach} {i : Nat} (hl : inLimits m = true) (hi : i < m.instrs.length) (h : instrOk m i = false) : mcheck m = 8 := by
  rw [mcheck, if_pos hl, if_neg]
  rw [allB_false hi h]; simp
theorem p_r8_Check (gl : Glob) (m : Mach) (ht : mTerms m) : PCall Tryd.prog gl 45 [.pv m.pv] (.pv (.int .i64 (mcheck m))) := by
  refine k_retargetref08_Check.pcall (by simp) (by simp) (by simp) fun hwf => ?_
  simp [c_retargetref08_Check]
  refine CallNext.pure (p_r8_within gl m) fun _ => ?_
  simp
  refine ⟨fun hl => ?_, fun hl => ?_⟩
  · simp [mcheck, hl]
  obtain ⟨hb1, hb2, hb3, hb4, hb5, hb6⟩ := inLimits_iff hl
  refine CallNext.pure (p_retargetref01_Name gl _) fun _ => ?_
  simp
  refine ⟨_, by intros; exact .of (p_r8_In gl _ _ _), by simp, ?_⟩
  simp
  refine ⟨_, by intros; exact .of (p_r8_okRegs gl m (by omega)), by simp, ?_⟩
  simp
  refine ⟨_, by intros; exact .of (p_r8_okBanks gl m (by omega)), by simp, ?_⟩
  simp
  refine ⟨_, by intros; exact .of (p_r8_okUnits gl m), by simp, ?_⟩
  simp
  refine ⟨fun h => ?_, fun g1 g2 g3 g4 g5 g6 => ?_⟩
  · symm
    rw [mcheck, if_pos hl, if_neg]
    intro hh
    simp only [Bool.and_eq_true, Bool.or_eq_true, decide_eq_true_eq] at hh
    obtain ⟨⟨⟨⟨⟨⟨x1, x2⟩, x3⟩, x4⟩, x5⟩, x6⟩, -⟩ := hh
    simp [x1, x2, x4, x5, x6] at h
    omega
  have hw : 1 ≤ m.word ∧ m.word ≤ 4 := by simpa [inR] using g2
  have hmc : mcheck m = if allB m.instrs.length (instrOk m) = true then 0 else 8 := by
    have g3' : (decide (m.address = 16) || decide (m.address = 32)) = true := by
      by_cases h : m.address = 16 <;> simp [h, g3]
    rw [mcheck, if_pos hl, g1, g2, g3', g4, g5, g6]; simp only [Bool.true_and]
  have hout : ∀ {i : Nat}, i < m.instrs.length → instrOk m i = false → 8 = mcheck m := fun {i} hi h => by
    rw [hmc, if_neg]; rw [allB_false hi h]; simp
  refine Loop.nat (fun i => { e := [(1, .ptr 0 0), (3, .pv (.int .i64 i))], h := [(0, m.bx)], nx := 1 }) m.instrs.length (fun i => allB i (instrOk m) = true) (by simp [Mach.bx]) (by simp) (by simp [Mach.bx]) fun i hi hinv => ?_
  by_cases hlt : i < m.instrs.length
  · have hm := gt_mem (l := m.instrs) (i := (i : Nat)) (by omega) (by omega)
    have hne : m.instrs ≠ [] := by intro h; simp [h] at hlt
    obtain ⟨h61, h62, h63⟩ := hb6 _ hm
    have hbd : insBd m (gt m.instrs (i : Nat)) := ⟨by omega, by omega, by omega, by omega, by omega, fun o ho => by have := h63 o ho; omega, ht _ hm⟩
    simp [hlt, Mach.bx]
    generalize hs : gt m.instrs (i : Nat) = s at *
    refine CallNext.pure (p_retargetref01_Name gl _) fun _ => ?_
    simp
    refine ⟨_, by intros; exact .of (p_r8_okInstr gl m s hw g4 g5 hbd), by simp, ?_⟩
    simp
    refine ⟨fun h => hout hlt ?_, fun a1 a2 => ?_⟩
    · simp only [instrOk, hs]
      rcases h with h | h <;> simp [h]
    refine Loop.nat (fun k => { e := [(1, .ptr 0 0), (3, .pv (.int .i64 i)), (4, .ptr 1 0), (5, .pv (.int .i64 k))], h := [(0, m.bx), (1, s.bx)], nx := 2 }) i (fun k => (allB k fun j => !decide ((gt m.instrs (j : Nat)).name = s.name)) = true) (by simp [Mach.bx, Ins_.bx]) (by simp) (by simp [Mach.bx, Ins_.bx]) fun k hk hinv2 => ?_
    by_cases hkt : k < i
    · simp [hkt, hlt, hne, show k < m.instrs.length by omega, Mach.bx, Ins_.bx, wrap_nat (show (0:Int) ≤ k + 1 by omega) (by omega)]
      refine ⟨fun h => hout hlt ?_, fun h => ?_⟩
      · simp only [instrOk, hs]; rw [allB_false hkt (by simp [h])]; simp
      · rw [allB_succ, hinv2]; simpa using h
    obtain rfl : k = i := by omega
    simp [hlt, Mach.bx, Ins_.bx, wrap_nat (show (0:Int) ≤ k + 1 by omega) (by omega)]
    rw [allB_succ, hinv]; simp only [instrOk, hs, a1, a2, hinv2]; rfl
  · obtain rfl : i = m.instrs.length := by omega
    simp [Mach.bx]
    rw [hmc, if_pos hinv]
end Go.Proofs.YthocoandbiaoiaaDoorV

namespace Go.Proofs.YthocoandbiaoiaaDoorV
open Go
set_option maxRecDepth 100000
set_option maxHeartbeats 4000000
theorem p_r12_SameBytes (gl : Glob) (a b : List Int) (hb : a.length ≤ 100000) : PCall Tryd.prog gl 22 [.pv (.lst 1 (bytes a)), .pv (.lst 1 (bytes b))] (.pv (.bool (decide (a = b)))) := by
  refine k_retargetref12_SameBytes.pcall (by simp) (by simp) (by simp) fun hwf => ?_
  simp [c_retargetref12_SameBytes]
  refine ⟨fun h => ?_, fun h => ?_⟩
  · intro he; rw [he] at h; simp at h
  have h' : a.length = b.length := by omega
  refine Loop.nat (fun i => { e := [(0, .pv (.lst 1 (bytes a))), (1, .pv (.lst 1 (bytes b))), (5, .pv (.int .i64 i))], h := [], nx := 0 }) a.length (fun i => ∀ k : Nat, k < i → gt a (k : Nat) = gt b (k : Nat)) (by simp) (by simp) (by simp) fun i hi hinv => ?_
  by_cases hlt : i < a.length
  · simp [hlt, show i < b.length by omega, wrap_nat (show (0:Int) ≤ i + 1 by omega) (by omega)]
    refine ⟨fun hn he => hn (by rw [he]), fun he k hk => ?_⟩
    rcases Nat.lt_or_eq_of_le (Nat.le_of_lt_succ hk) with hk | rfl
    · exact hinv k hk
    · exact he
  · obtain rfl : i = a.length := by omega
    simp
    refine List.ext_getElem h' fun k h1 h2 => ?_
    have := hinv k h1
    rwa [gt_nat h1, gt_nat h2] at this
theorem rest_quo {w j : Nat} (hw : w < 2 ^ 64) : IntKind.u64.wrap ((rest w j : Int) / 256) = (rest w (j + 1) : Int) := by
  have h : rest w j ≤ w := Nat.div_le_self _ _
  rw [show ((rest w j : Nat) : Int) / 256 = ((rest w j / 256 : Nat) : Int) from rfl, wrap_u64 (by omega) (by omega), rest, rest, Nat.div_div_eq_div_mul, ← Nat.pow_succ]
theorem rest_rem {w j : Nat} : IntKind.u8.wrap ((rest w j : Int).tmod 256) = IntKind.u8.wrap (rest w j : Int) := by
  rw [show ((rest w j : Nat) : Int).tmod 256 = ((rest w j % 256 : Nat) : Int) from rfl, wrap_u8, wrap_u8, Nat.mod_mod]
theorem p_r12_Put (gl : Glob) (w n : Nat) (hn : n ≤ 4) : PCall Tryd.prog gl 47 [.pv (.int .u64 w), .pv (.int .i64 n)] (.pv (.lst 1 (bytes (byteN w n)))) := by
  refine k_retargetref12_Put.pcall (by simp) (by simp) (by simp) fun hwf => ?_
  have hw0 := hwf (.pv (.int .u64 w)) (by simp)
  simp [IntKind.min, IntKind.max, IntKind.signed, IntKind.bits] at hw0
  simp [c_retargetref12_Put]
  refine Loop.nat (fun j => { e := [(0, .pv (.int .u64 (rest w j : Nat))), (1, .pv (.int .i64 n)), (5, .own 0 1 (bytes (byteN w j))), (6, .pv (.int .i64 j))], h := [(0, .tip 1 j)], nx := 1 }) n (fun _ => True) (by simp) (by simp) (by simp [byteN, bytes, rest_zero]) fun j hj hinv => ?_
  by_cases hjl : j < n
  · have hw1 : IntKind.i64.wrap ((j : Int) + 1) = (j : Int) + 1 := wrap_nat (by omega) (by omega)
    simp [hjl, rest_rem, rest_byte, hw1]
    exact ⟨by omega, rest_quo (by omega)⟩
  · obtain rfl : j = n := by omega
    simp
theorem p_r12_Bytes (gl : Glob) (m : Mach) (ws : List Int) (ht : mTerms m) : PCall Tryd.prog gl 19 [.pv m.pv, .pv (.lst 1 (words ws))] (.tup [.pv (.lst 1 (bytes (bytesL m ws))), .pv (.int .i64 (bytesE m ws))]) := by
  refine k_retargetref12_Bytes.pcall (by simp) (by simp) (by simp) fun hwf => ?_
  have hw := (words_wf (hwf (.pv (.lst 1 (words ws))) (by simp))).1
  simp [c_retargetref12_Bytes]
  refine CallNext.pure (p_r8_Check gl m ht) fun _ => ?_
  simp
  by_cases hc : mcheck m = 0
  · by_cases hl : ws.length ≤ 4096
    · obtain ⟨n, e1, h1, h4, e2, e3⟩ := word_nat hc
      simp [hc, show ¬ (4096 : Int) < ws.length by omega, show ¬ 4096 < ws.length by omega]
      intro _
      have hlen : ∀ i, i ≤ ws.length → (bytesN n (ws.take i)).length = i * n := fun i hi => by rw [bytesN_len, List.length_take, Nat.min_eq_left hi]
      have hbd : ∀ i, i ≤ ws.length → i * n ≤ 16384 := fun i hi => by have := Nat.mul_le_mul (show i ≤ 4096 by omega) h4; omega
      refine Loop.nat (fun i => { e := [(1, .pv (.lst 1 (words ws))), (2, .ptr 0 0), (7, .own 1 1 (bytes (bytesN n (ws.take i)))), (8, .pv (.int .i64 i))], h := [(0, m.bx), (1, .tip 1 (bytesN n (ws.take i)).length)], nx := 2 }) ws.length (fun i => ∀ k : Nat, k < i → gt ws (k : Nat) < 2 ^ (8 * n)) (by simp [Mach.bx]) (by simp) (by simp [Mach.bx, bytesN, bytes]) fun i hi hinv => ?_
      by_cases hlt : i < ws.length
      · have hmem : gt ws (i : Nat) ∈ ws := gt_mem (by omega) (by omega)
        obtain ⟨w, hwn⟩ := Int.eq_ofNat_of_zero_le (hw _ hmem).1
        have hll := hlen i hi
        have hbb := hbd i hi
        have hwd : IntKind.i64.wrap (8 * (n : Int)) = 8 * n := wrap_i64 (by omega) (by omega)
        simp [hlt, Mach.bx, e1, hwd, hwn]
        refine DCallNext.pure (p_r8_Below gl _ _) ?_
        have h8 : (8 * (n : Int)).toNat = 8 * n := by omega
        have hpw := pow_cast (8 * n)
        have hw1 : IntKind.i64.wrap ((i : Int) + 1) = (i : Int) + 1 := wrap_nat (by omega) (by omega)
        simp [h8]
        refine ⟨fun h => ?_, fun h => ?_⟩
        · have hE : bytesE m ws = 24 := by
            rw [bytesE, if_pos hc, if_pos hl, if_neg]
            intro ha
            have := List.all_eq_true.1 ha _ hmem
            simp only [decide_eq_true_eq] at this
            rw [hwn, e3] at this; omega
          simp [bytesL, hE, bytes]
        · have hne : ws ≠ [] := by intro hh; rw [hh] at hlt; simp at hlt
          simp [hlt, hwn, Mach.bx]
          refine DCallNext.pure (p_r12_Put gl w n h4) ?_
          simp [hlt, hw1, bytesN_take hlt, hwn, bytes_app]
          refine ⟨by omega, fun k hk => ?_⟩
          rcases Nat.lt_or_eq_of_le (Nat.le_of_lt_succ hk) with hk | rfl
          · exact hinv k hk
          · rw [hwn]; exact h
      · obtain rfl : i = ws.length := by omega
        have hE : bytesE m ws = 0 := bytesE_of hc (by omega) fun w hx => by
          obtain ⟨k, hk, rfl⟩ := List.getElem_of_mem hx
          have := hinv k hk
          rw [gt_nat hk] at this
          rw [e3]; exact this
        simp [bytesL, hE, e2]
    · have hE : bytesE m ws = 4 := by rw [bytesE, if_pos hc, if_neg hl]
      simp [hc, bytesL, hE, bytes, show (4096 : Int) < ws.length by omega, show 4096 < ws.length by omega]
      intro h; omega
  · simp [bytesL, bytesE, hc, bytes]
theorem p_r12_Words (gl : Glob) (m : Mach) (b : List Int) (ht : mTerms m) : PCall Tryd.prog gl 21 [.pv m.pv, .pv (.lst 1 (bytes b))] (.tup [.pv (.lst 1 (words (wordsL m b))), .pv (.int .i64 (wordsE m b))]) := by
  refine k_retargetref12_Words.pcall (by simp) (by simp) (by simp) fun hwf => ?_
  have hb := bytes_wf (hwf (.pv (.lst 1 (bytes b))) (by simp))
  simp [c_retargetref12_Words]
  refine CallNext.pure (p_r8_Check gl m ht) fun _ => ?_
  simp
  refine ⟨fun h => ?_, fun hc => ?_⟩
  · simp [wordsL, wordsE, h, words]
  obtain ⟨n, e1, h1, h4, e2, e3⟩ := word_nat hc
  have t1 : (b.length : Int).tmod (n : Int) = ((b.length % n : Nat) : Int) := rfl
  have t2 : IntKind.i64.wrap ((b.length : Int) / (n : Int)) = ((b.length / n : Nat) : Int) := by
    have h := Int.natCast_ediv b.length n
    have h2 := Nat.div_le_self b.length n
    rw [← h]
    generalize b.length / n = q at *
    exact wrap_nat (by omega) (by omega)
  simp only [Mach.bx, e1]
  simp [t1, t2, show n ≠ 0 by omega, -Int.natCast_emod, -Int.natCast_ediv]
  refine ⟨fun h => ?_, fun h5 => ⟨fun h => ?_, fun h6 => ?_⟩⟩
  · have hE : wordsE m b = 2 := by rw [wordsE, if_pos hc, e2, if_neg (by omega)]
    simp [wordsL, hE, words]
  · have hE : wordsE m b = 4 := by rw [wordsE, if_pos hc, e2, if_pos (by omega), if_neg (by omega)]
    simp [wordsL, hE, words]
  have hE : wordsE m b = 0 := wordsE_of hc (by rw [e2]; omega) (by rw [e2]; omega)
  have hbl : b.length = pos (b.length / n) n := by
    have h := Nat.div_add_mod b.length n
    rw [pos, Nat.mul_comm]; omega
  have hL : wordsL m b = wordsN n b (b.length / n) := by rw [wordsL, if_pos hE, e2]
  rw [hE, hL]
  generalize b.length / n = K at *
  have hKn : pos K n ≤ 16384 := by have := Nat.mul_le_mul (show K ≤ 4096 by omega) h4; rw [pos]; omega
  refine Loop.nat (fun i => { e := [(1, .pv (.lst 1 (bytes b))), (2, .ptr 0 0), (7, .own 1 1 (words (wordsN n b i))), (8, .pv (.int .i64 (pos i n : Nat)))], h := [(0, .box [.pv (.str m.name), .pv (.int .i64 n), .pv (.int .i64 m.address), .pv (.lst 4 (m.regs.map Reg.pv)), .pv (.lst 2 (m.banks.map Bank.pv)), .pv (.lst 2 (m.units.map Unt.pv)), .pv (.lst 9 (m.instrs.map Ins_.pv))]), (1, .tip 1 i)], nx := 2 }) K (fun _ => True) (by simp) (by simp) (by simp [wordsN, words, pos]) fun i hi hinv => ?_
  by_cases hlt : i < K
  · have hin := pos_le (n := n) hlt
    simp [show pos i n < b.length by omega]
    have hw0 : IntKind.i64.wrap ((n : Int) - 1) = (n : Int) - 1 := wrap_i64 (by omega) (by omega)
    refine Loop.nat (fun j => { e := [(1, .pv (.lst 1 (bytes b))), (2, .ptr 0 0), (7, .own 1 1 (words (wordsN n b i))), (8, .pv (.int .i64 (pos i n : Nat))), (9, .pv (.int .u64 (wordN b (pos i n + (n - j)) j : Nat))), (10, .pv (.int .i64 ((n : Int) - 1 - j)))], h := [(0, .box [.pv (.str m.name), .pv (.int .i64 n), .pv (.int .i64 m.address), .pv (.lst 4 (m.regs.map Reg.pv)), .pv (.lst 2 (m.banks.map Bank.pv)), .pv (.lst 2 (m.units.map Unt.pv)), .pv (.lst 9 (m.instrs.map Ins_.pv))]), (1, .tip 1 i)], nx := 2 }) n (fun _ => True) (by simp) (by simp) (by simp [wordN, hw0]) fun j hj hinv2 => ?_
    by_cases hjl : j < n
    · have hcs := wordN_cons b (pos i n + (n - (j + 1))) j
      rw [show pos i n + (n - (j + 1)) + 1 = pos i n + (n - j) by omega] at hcs
      have hlt8 := wordN_lt8 hb.1 (p := pos i n + (n - (j + 1))) (k := j + 1) (by omega)
      have hp : 2 ^ (8 * (j + 1)) ≤ 2 ^ 32 := Nat.pow_le_pow_right (by omega) (by omega)
      have hx := hb.1 _ (gt_mem (l := b) (i := ((pos i n + (n - (j + 1)) : Nat) : Int)) (by omega) (by omega))
      have hix : IntKind.i64.wrap ((pos i n : Int) + ((n : Int) - 1 - j)) = ((pos i n + (n - (j + 1)) : Nat) : Int) := by rw [wrap_i64 (by omega) (by omega)]; omega
      have hw1 : IntKind.i64.wrap ((n : Int) - 1 - j - 1) = (n : Int) - 1 - ((j : Int) + 1) := by rw [wrap_i64 (by omega) (by omega)]; omega
      simp [hjl, show (j : Int) ≤ (n : Int) - 1 by omega, show ¬ (n : Int) - 1 < j by omega, hix, hw1, -Int.natCast_add]
      refine ⟨by omega, ?_⟩
      have hbne : b ≠ [] := by intro hh; rw [hh] at hbl; simp at hbl; omega
      obtain ⟨x, hxn⟩ := Int.eq_ofNat_of_zero_le hx.1
      have hwd : IntKind.u64.wrap (IntKind.u64.wrap (256 * (wordN b (pos i n + (n - j)) j : Int)) + IntKind.u64.wrap (gt b ((pos i n + (n - (j + 1)) : Nat) : Int))) = ((wordN b (pos i n + (n - (j + 1))) (j + 1) : Nat) : Int) := by
        rw [hxn, Int.toNat_natCast] at hcs
        rw [hxn, wrap_u64 (n := (x : Int)) (by omega) (by omega), wrap_u64 (n := 256 * (wordN b (pos i n + (n - j)) j : Int)) (by omega) (by omega), wrap_u64 (by omega) (by omega), hcs]; push_cast; omega
      simp [hjl, hw1, hwd, hbne, show pos i n + (n - (j + 1)) < b.length by omega, -Int.natCast_add]
      push_cast; rfl
    · obtain rfl : j = n := by omega
      have hps : IntKind.i64.wrap ((pos i j : Int) + (j : Int)) = ((pos (i + 1) j : Nat) : Int) := by rw [pos_succ, wrap_nat (by omega) (by omega)]; push_cast; rfl
      have hsu : words (wordsN j b (i + 1)) = words (wordsN j b i) ++ [.int .u64 (wordN b (pos i j) j : Nat)] := by rw [wordsN, pos]; simp [words]
      simp [show ¬ (j : Int) ≤ (j : Int) - 1 by omega, show (j : Int) - 1 < j by omega, hlt, hps, hsu]
      have := wordsN_len j b i
      exact ⟨⟨this.symm, by omega⟩, this⟩
  · obtain rfl : i = K := by omega
    simp [hbl]
end Go.Proofs.YthocoandbiaoiaaDoorV

namespace Go.Proofs.YthocoandbiaoiaaDoorV
open Go
set_option maxRecDepth 100000
set_option maxHeartbeats 4000000
theorem greatIn_iff {s : Ins_} (h : greatIn s = false) : s.operands.length ≤ 14 ∧ s.effects.length ≤ 14 ∧ s.name.size ≤ 100 ∧ s.operands.any greatOp = false ∧ s.effects.any greatEf = false := by
  simp only [greatIn, Bool.or_eq_false_iff, decide_eq_false_iff_not] at h
  obtain ⟨⟨⟨⟨h1, h2⟩, h3⟩, h4⟩, h5⟩ := h
  exact ⟨by omega, by omega, by omega, h4, h5⟩
theorem insNodes_le {s : Ins_} (h : greatIn s = false) {k : Nat} (hk : k ≤ s.effects.length) : insNodes s k ≤ k * 1500 :=
  sumN_le fun i hi => effNodes_le (greatIn_iff h).2.2.2.2 (by omega)
theorem machNodes_le {m : Mach} (h : ∀ s ∈ m.instrs, greatIn s = false) {i : Nat} (hi : i ≤ m.instrs.length) : machNodes m i ≤ i * 21000 :=
  sumN_le fun j hj => by
    have h1 := h _ (gt_mem (l := m.instrs) (i := (j : Nat)) (by omega) (by omega))
    have h2 := insNodes_le h1 (Nat.le_refl _)
    have h3 := (greatIn_iff h1).2.1
    omega
theorem insNodes_succ {s : Ins_} {k : Nat} : insNodes s (k + 1) = insNodes s k + effNodes (gt s.effects (k : Nat)) := rfl
theorem machNodes_succ {m : Mach} {i : Nat} : machNodes m (i + 1) = machNodes m i + insNodes (gt m.instrs (i : Nat)) (gt m.instrs (i : Nat)).effects.length := rfl
theorem none_take1 {α : Type} [Inhabited α] {l : List α} {p : α → Bool} {i : Nat} (h : i < l.length) (h1 : (l.take i).any p = false) (h2 : p (gt l (i : Nat)) = false) : ∀ x ∈ l.take (i + 1), p x = false := by
  intro x hx
  rw [List.take_succ_eq_append_getElem h, List.mem_append] at hx
  rcases hx with hx | hx
  · rw [List.any_eq_false] at h1; simpa using h1 x hx
  · rw [gt_nat h] at h2; simp only [List.mem_singleton] at hx; rw [hx]; exact h2
theorem p_r8_Nodes (gl : Glob) (m : Mach) (h1 : m.instrs.length ≤ 74) (h2 : ∀ s ∈ m.instrs, greatIn s = false) : PCall Tryd.prog gl 25 [.pv m.pv] (.pv (.int .i64 (machNodes m m.instrs.length : Nat))) := by
  refine k_retargetref08_Nodes.pcall (by simp) (by simp) (by simp) fun hwf => ?_
  simp [c_retargetref08_Nodes]
  refine Loop.nat (fun i => { e := [(1, .ptr 0 0), (3, .pv (.int .i64 (machNodes m i : Nat))), (4, .pv (.int .i64 i))], h := [(0, m.bx)], nx := 1 }) m.instrs.length (fun _ => True) (by simp [Mach.bx]) (by simp) (by simp [Mach.bx, machNodes, sumN]) fun i hi hinv => ?_
  by_cases hlt : i < m.instrs.length
  · have hm := gt_mem (l := m.instrs) (i := (i : Nat)) (by omega) (by omega)
    have hne : m.instrs ≠ [] := by intro h; simp [h] at hlt
    have hg := h2 _ hm
    obtain ⟨g1, g2, g3, g4, g5⟩ := greatIn_iff hg
    have hmn := machNodes_le h2 hi
    simp [hlt, Mach.bx]
    generalize hs : gt m.instrs (i : Nat) = s at *
    refine Loop.nat (fun k => { e := [(1, .ptr 0 0), (3, .pv (.int .i64 (machNodes m i + insNodes s k : Nat))), (4, .pv (.int .i64 i)), (5, .pv (.int .i64 k))], h := [(0, m.bx)], nx := 1 }) s.effects.length (fun _ => True) (by simp [Mach.bx]) (by simp) (by simp [Mach.bx, insNodes, sumN]) fun k hk hinv2 => ?_
    have hin := insNodes_le hg hk
    by_cases hkt : k < s.effects.length
    · have hx := efs_small g5 _ (gt_mem (l := s.effects) (i := (k : Nat)) (by omega) (by omega))
      have b1 := hx (gt s.effects (k : Nat)).addr (by simp)
      have b2 := hx (gt s.effects (k : Nat)).value (by simp)
      have b3 := hx (gt s.effects (k : Nat)).cond (by simp)
      simp [hlt, hne, hs, hkt, Mach.bx]
      refine DCallNext.pure (p_retargetref02_Size gl _ _ (Nat.lt_succ_self _) (by omega)) ?_
      simp
      refine DCallNext.pure (p_retargetref02_Size gl _ _ (Nat.lt_succ_self _) (by omega)) ?_
      simp
      refine DCallNext.pure (p_retargetref02_Size gl _ _ (Nat.lt_succ_self _) (by omega)) ?_
      simp
      refine ⟨hkt, ?_, wrap_nat (by omega) (by omega)⟩
      rw [wrap_i64 (n := ((gt s.effects (k : Nat)).addr.nodes : Int) + (gt s.effects (k : Nat)).value.nodes) (by omega) (by omega)]
      rw [wrap_i64 (n := ((gt s.effects (k : Nat)).addr.nodes : Int) + (gt s.effects (k : Nat)).value.nodes + (gt s.effects (k : Nat)).cond.nodes) (by omega) (by omega)]
      rw [wrap_i64 (by omega) (by omega), insNodes_succ, effNodes]
      omega
    · obtain rfl : k = s.effects.length := by omega
      simp [hlt, hne, hs, Mach.bx, wrap_nat (show (0:Int) ≤ i + 1 by omega) (by omega)]
      rw [machNodes_succ, hs]; simp
  · obtain rfl : i = m.instrs.length := by omega
    simp [Mach.bx]
theorem p_r8_Great (gl : Glob) (m : Mach) : PCall Tryd.prog gl 9 [.pv m.pv] (.pv (.bool (greatM m))) := by
  refine k_retargetref08_Great.pcall (by simp) (by simp) (by simp) fun hwf => ?_
  obtain ⟨hb1, hb2, hb3, hb4, hb5, hb6⟩ := mach_bd (hwf (.pv m.pv) (by simp))
  simp [c_retargetref08_Great]
  refine ⟨fun h => ?_, fun g1 g2 g3 g4 g5 => ?_⟩
  · rcases h with (((h | h) | h) | h) | h
    · simp [greatM, show 100 < m.name.size by omega]
    · simp [greatM, show 74 < m.regs.length by omega]
    · simp [greatM, show 26 < m.banks.length by omega]
    · simp [greatM, show 18 < m.units.length by omega]
    · simp [greatM, show 74 < m.instrs.length by omega]
  have hG : greatM m = (m.banks.any greatBk || m.instrs.any greatIn || decide (1500 < machNodes m m.instrs.length)) := by
    rw [greatM, decide_eq_false (show ¬ 100 < m.name.size by omega), decide_eq_false (show ¬ 74 < m.regs.length by omega), decide_eq_false (show ¬ 26 < m.banks.length by omega), decide_eq_false (show ¬ 18 < m.units.length by omega), decide_eq_false (show ¬ 74 < m.instrs.length by omega)]
    simp only [Bool.false_or]
  refine Loop.nat (fun i => { e := [(1, .ptr 0 0), (3, .pv (.int .i64 i))], h := [(0, m.bx)], nx := 1 }) m.banks.length (fun i => (m.banks.take i).any greatBk = false) (by simp [Mach.bx]) (by simp) (by simp [Mach.bx]) fun i hi hinv => ?_
  by_cases hlt : i < m.banks.length
  · have hm := gt_mem (l := m.banks) (i := (i : Nat)) (by omega) (by omega)
    have hne : m.banks ≠ [] := by intro h; simp [h] at hlt
    simp [hlt, hne, Mach.bx, wrap_nat (show (0:Int) ≤ i + 1 by omega) (by omega)]
    refine ⟨fun h => ?_, fun h1 h2 => none_take1 hlt hinv ?_⟩
    · have hb : greatBk (gt m.banks (i : Nat)) = true := by
        rcases h with h | h
        · simp [greatBk, show 74 < (gt m.banks (i : Nat)).regs.length by omega]
        · simp [greatBk, show 100 < (gt m.banks (i : Nat)).name.size by omega]
      rw [hG, List.any_eq_true.2 ⟨_, hm, hb⟩]; rfl
    · rw [greatBk, decide_eq_false (show ¬ 74 < (gt m.banks (i : Nat)).regs.length by omega), decide_eq_false (show ¬ 100 < (gt m.banks (i : Nat)).name.size by omega)]; rfl
  obtain rfl : i = m.banks.length := by omega
  rw [List.take_length] at hinv
  simp [Mach.bx]
  refine Loop.nat (fun i => { e := [(1, .ptr 0 0), (4, .pv (.int .i64 i))], h := [(0, m.bx)], nx := 1 }) m.instrs.length (fun i => (m.instrs.take i).any greatIn = false) (by simp [Mach.bx]) (by simp) (by simp [Mach.bx]) fun i hi hinv2 => ?_
  by_cases hlt : i < m.instrs.length
  · have hm := gt_mem (l := m.instrs) (i := (i : Nat)) (by omega) (by omega)
    have hne : m.instrs ≠ [] := by intro h; simp [h] at hlt
    simp [hlt, hne, Mach.bx]
    generalize hs : gt m.instrs (i : Nat) = s at *
    have hout : greatIn s = true → greatM m = true := fun h => by rw [hG, List.any_eq_true.2 ⟨_, hm, h⟩]; simp
    refine ⟨fun h => hout ?_, fun g1 g2 g3 => ?_⟩
    · rcases h with (h | h) | h
      · simp [greatIn, show 14 < s.operands.length by omega]
      · simp [greatIn, show 14 < s.effects.length by omega]
      · simp [greatIn, show 100 < s.name.size by omega]
    have hI : greatIn s = (s.operands.any greatOp || s.effects.any greatEf) := by
      rw [greatIn, decide_eq_false (show ¬ 14 < s.operands.length by omega), decide_eq_false (show ¬ 14 < s.effects.length by omega), decide_eq_false (show ¬ 100 < s.name.size by omega)]
      simp only [Bool.false_or]
    refine Loop.nat (fun k => { e := [(1, .ptr 0 0), (4, .pv (.int .i64 i)), (5, .ptr 1 0), (6, .pv (.int .i64 k))], h := [(0, m.bx), (1, s.bx)], nx := 2 }) s.operands.length (fun k => (s.operands.take k).any greatOp = false) (by simp [Mach.bx, Ins_.bx]) (by simp) (by simp [Mach.bx, Ins_.bx]) fun k hk hinv3 => ?_
    by_cases hkt : k < s.operands.length
    · have hmo := gt_mem (l := s.operands) (i := (k : Nat)) (by omega) (by omega)
      have hno : s.operands ≠ [] := by intro h; simp [h] at hkt
      simp [hkt, hno, Ins_.bx, Mach.bx, wrap_nat (show (0:Int) ≤ k + 1 by omega) (by omega)]
      refine ⟨fun h => hout ?_, fun h1 h2 => none_take1 hkt hinv3 ?_⟩
      · have hb : greatOp (gt s.operands (k : Nat)) = true := by
          rcases h with h | h
          · simp [greatOp, show 14 < (gt s.operands (k : Nat)).pieces.length by omega]
          · simp [greatOp, show 100 < (gt s.operands (k : Nat)).name.size by omega]
        rw [hI, List.any_eq_true.2 ⟨_, hmo, hb⟩]; rfl
      · rw [greatOp, decide_eq_false (show ¬ 14 < (gt s.operands (k : Nat)).pieces.length by omega), decide_eq_false (show ¬ 100 < (gt s.operands (k : Nat)).name.size by omega)]; rfl
    obtain rfl : k = s.operands.length := by omega
    rw [List.take_length] at hinv3
    simp [Ins_.bx]
    refine Loop.nat (fun k => { e := [(1, .ptr 0 0), (4, .pv (.int .i64 i)), (5, .ptr 1 0), (7, .pv (.int .i64 k))], h := [(0, m.bx), (1, s.bx)], nx := 2 }) s.effects.length (fun k => (s.effects.take k).any greatEf = false) (by simp [Mach.bx, Ins_.bx]) (by simp) (by simp [Mach.bx, Ins_.bx]) fun k hk hinv4 => ?_
    by_cases hkt : k < s.effects.length
    · have hmo := gt_mem (l := s.effects) (i := (k : Nat)) (by omega) (by omega)
      have hno : s.effects ≠ [] := by intro h; simp [h] at hkt
      simp [hkt, hno, Ins_.bx, Mach.bx, wrap_nat (show (0:Int) ≤ k + 1 by omega) (by omega)]
      refine CallNext.pure (p_retargetref02_Great gl _) fun _ => ?_
      simp [hkt, hno]
      refine ⟨_, by intros; exact .of (p_retargetref02_Great gl _), by simp, ?_⟩
      simp [hkt, hno]
      refine ⟨_, by intros; exact .of (p_retargetref02_Great gl _), by simp, ?_⟩
      simp
      refine ⟨fun h => hout ?_, fun h1 h2 h3 => ⟨hkt, none_take1 hkt hinv4 ?_, wrap_nat (by omega) (by omega)⟩⟩
      · have hb : greatEf (gt s.effects (k : Nat)) = true := by
          rcases h with (h | h) | h <;> simp [greatEf, h]
        rw [hI, List.any_eq_true.2 ⟨_, hmo, hb⟩]; simp
      · rw [greatEf, h1, h2, h3]; rfl
    · obtain rfl : k = s.effects.length := by omega
      rw [List.take_length] at hinv4
      simp [hlt, Ins_.bx, Mach.bx, wrap_nat (show (0:Int) ≤ i + 1 by omega) (by omega)]
      exact none_take1 hlt hinv2 (by rw [hs, hI, hinv3, hinv4]; rfl)
  obtain rfl : i = m.instrs.length := by omega
  rw [List.take_length] at hinv2
  simp [Mach.bx]
  refine CallNext.pure (p_r8_Nodes gl m (by omega) (by simpa [List.any_eq_false] using hinv2)) fun _ => ?_
  simp
  rw [hG, hinv, hinv2]; simp; omega
end Go.Proofs.YthocoandbiaoiaaDoorV

namespace Go.Proofs.YthocoandbiaoiaaDoorV
open Go
set_option maxRecDepth 100000
set_option maxHeartbeats 4000000
theorem p_r8_SameWords (gl : Glob) (a b : List Int) : PCall Tryd.prog gl 13 [.pv (.lst 1 (words a)), .pv (.lst 1 (words b))] (.pv (.bool (decide (a = b)))) := by
  refine k_retargetref08_SameWords.pcall (by simp) (by simp) (by simp) fun hwf => ?_
  have hb := (words_wf (hwf (.pv (.lst 1 (words a))) (by simp))).2
  simp [c_retargetref08_SameWords]
  refine ⟨fun h => ?_, fun h => ?_⟩
  · intro he; rw [he] at h; simp at h
  have h' : a.length = b.length := by omega
  refine Loop.nat (fun i => { e := [(0, .pv (.lst 1 (words a))), (1, .pv (.lst 1 (words b))), (5, .pv (.int .i64 i))], h := [], nx := 0 }) a.length (fun i => ∀ k : Nat, k < i → gt a (k : Nat) = gt b (k : Nat)) (by simp) (by simp) (by simp) fun i hi hinv => ?_
  by_cases hlt : i < a.length
  · simp [hlt, show i < b.length by omega, wrap_nat (show (0:Int) ≤ i + 1 by omega) (by omega)]
    refine ⟨fun hn he => hn (by rw [he]), fun he k hk => ?_⟩
    rcases Nat.lt_or_eq_of_le (Nat.le_of_lt_succ hk) with hk | rfl
    · exact hinv k hk
    · exact he
  · obtain rfl : i = a.length := by omega
    simp
    refine List.ext_getElem h' fun k h1 h2 => ?_
    have := hinv k h1
    rwa [gt_nat h1, gt_nat h2] at this
end Go.Proofs.YthocoandbiaoiaaDoorV

namespace Go.Proofs.YthocoandbiaoiaaDoorV
open Go
set_option maxRecDepth 100000
set_option maxHeartbeats 4000000
theorem bytesL_len (m : Mach) (ws : List Int) : (bytesL m ws).length ≤ 100000 := by
  rw [bytesL]
  split
  · rename_i h
    obtain ⟨hc, hl, -⟩ := bytesE_ok h
    obtain ⟨n, -, h1, h4, e2, -⟩ := word_nat hc
    rw [bytesN_len, e2]
    have := Nat.mul_le_mul hl h4
    omega
  · simp
theorem p_EncodeBytes (m : Mach) (ws b : List Int) : PCall Tryd.prog glob 7 [.pv m.pv, .pv (.lst 1 (words ws)), .pv (.lst 1 (bytes b))] (.pv (.bool true)) := by
  refine k_retargetlaw12_EncodeBytes.pcall (by simp) (by simp) (by simp) fun hwf => ?_
  simp [c_retargetlaw12_EncodeBytes]
  refine CallNext.pure (p_r8_Great glob m) fun _ => ?_
  simp
  intro hg h1 h2
  have ht := great_terms hg
  refine CallNext.pure (p_enc_Bytes m ws ht) fun _ => ?_
  simp
  refine CallNext.pure (p_r12_Bytes glob m ws ht) fun _ => ?_
  simp
  refine CallNext.pure (p_enc_Words m b ht) fun _ => ?_
  simp
  refine CallNext.pure (p_r12_Words glob m b ht) fun _ => ?_
  simp
  refine CallNext.pure (p_r12_SameBytes glob _ _ (bytesL_len m ws)) fun _ => ?_
  simp
  refine ⟨_, .of (p_r8_SameWords glob _ _), by simp, ?_⟩
  simp
end Go.Proofs.YthocoandbiaoiaaDoorV
